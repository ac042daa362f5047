import PyProof.Rows.All
import Wide.All
import OpenK.AllK
import Wide.FinOn
import HandS.ForMost
import HandS.Evl
import HandS.EndBits
import HandS.WideBits
import HandS.Star
import PyProof.ReprRoads
import PyProof.ReprLen
import KE.KTab
import HandS.Defaults
import HandS.Dict
import HandS.HeadHook1
import HandS.HeadHook2
import HandS.Codes
import HandS.IsInst
import KE.GoesMore
import KE.GoesEnum
import HandS.Iter
import HandS.Comp
import PySem.Challenge.RW_leastkept_k04_whole_programs_judged
import KE.KExcSuper
import HandS.ExcInit
import HandS.ExcField
import HandS.Head0
import HandS.Head1
import HandS.Head2
import HandS.TupAny
import HandS.DictComp
import HandS.ExcOwn
import HandS.Replace
import HandS.ReplaceLit
import HandS.Ends
import HandS.HeadEnd
set_option Elab.async false
set_option linter.all false
set_option maxRecDepth 100000
set_option maxHeartbeats 4000000
namespace DL
open PySem L2 Evl PySem.Spec PyProof.Rows
/-! ### promises that ask that no repr is under way -/
structure FnG (P : Program) (w : World) (K : PySem.W.Frag) (mg : Str → Option Value) (base : Heap) (CX : CXT) (k : Nat) (f : Addr) (fd : FuncData) (ps : List Str) (sp : Sp) : Prop where
  len : ∀ vs H Q E, sp vs H Q E → vs.length = ps.length
  run : ∀ (A : Around) (outer : List Env) (s : Shared) (H : Hp) (args : Args) (us : List Value) (vs : List V) (Q : VK) (E : XK), A.guards = some [] → Room k A →
    Env0 P w K mg base A outer s H → BindsTo s fd args (ps.zip us) → Vals vs us → sp vs H Q E → codeAny (model P w) A (.call (.ref f) args) (CR CX outer P w H s Q E) s
section
variable {P : Program} {w : World} {K : PySem.W.Frag} {mg : Str → Option Value} {base : Heap} {CX : CXT} {j k : Nat} {f : Addr} {fd : FuncData} {ps : List Str} {sp : Sp}
theorem FnG.of (F : FnOk P w K mg base CX k f fd ps sp) : FnG P w K mg base CX k f fd ps sp :=
  ⟨F.len, fun A outer s H args us vs Q E _ => F.run A outer s H args us vs Q E⟩
theorem FnG.mono (F : FnG P w K mg base CX j f fd ps sp) (h : j ≤ k) : FnG P w K mg base CX k f fd ps sp :=
  ⟨F.len, fun A outer s H args us vs Q E hg hr => F.run A outer s H args us vs Q E hg (hr.mono h)⟩
theorem fnG_of {name qual : Str} {params : Arguments} {body : List Stmt} {scope : Scope} {dV kV doc pm cdv ct oc : Value} {an od : Option Addr} {osl : Array (Option Value)} {N : List Str}
    (lk : K.lookup f = some ⟨oc, od, .func (PySem.W.fnOf name qual params body scope dV kV doc pm an cdv ct), osl⟩) (hcd : PySem.W.codeIn K cdv qual = true) (S : FnScope N ps scope) (len : ∀ vs H Q E, sp vs H Q E → vs.length = ps.length)
    (hbody : ∀ (A : Around) (outer : List Env) (s : Shared) (H : Hp) (vs : List V) (Q : VK) (E : XK), A.guards = some [] → Room k (A.deeper (envOfC qual scope s.heap.objs.size f cdv)) → sp vs H Q E →
      ∃ t, PSs (cxOf CX P w K mg base N qual scope f cdv A outer s H E) body t ∧ t { nx := fun _ H' => Q .non H', rt := Q } (L2.start N vs) H) :
    FnG P w K mg base CX (k + 1) f (PySem.W.fnOf name qual params body scope dV kV doc pm an cdv ct) ps sp := by
  refine ⟨len, fun A outer s H args us vs Q E hgd hr e0 hb r hsp => ?_⟩
  have hl := len _ _ _ _ hsp
  have KX : K.In s.heap := e0.mod.kin.keeps fun b o z => (e0.bs b o z).1
  have lim : s.heap.NoLimit := e0.mod.nolimit.keeps fun b o z => (e0.bs b o z).1
  have hkind : ∀ y ∈ ps.zip us, scope.names.lookup y.1 = some .local ∨ (scope.names.lookup y.1 = some .cell ∧ ((cellsFrom (s.heap.objs.size + 1) scope.names []).lookup y.1).isSome = true) := by
    rintro ⟨n, v⟩ hy
    exact (S.par n (List.of_mem_zip hy).1).imp id fun q => ⟨q, PySem.W.cellsFrom_some _ _ _ (.inl q)⟩
  refine codeAny_call_function hr.depth (KX _ _ lk) rfl S.co S.gen rfl (PySem.W.codeRec_of KX hcd) (hb _ _ _ _ (wpAny_newFunctionEnv_cells S.kind hkind fun env he s1 x => ?_))
  subst he
  refine ⟨lim.keeps x.toInCall.keep, codeAny_func ?_⟩
  obtain ⟨t, ht, hq⟩ := hbody A outer s H vs Q E hgd (hr.deeper _) hsp
  have I : Inv (cxOf CX P w K mg base N qual scope f cdv A outer s H E) [] (L2.start N vs) H s1 := inv_start S hr.hd e0 hl r x
  refine wpAny_mono (ht.run [] s1 (L2.start N vs) H _ I hq) (fun fl s' hs => ?_) fun e s' hs => hs
  cases fl with
  | ret u =>
    obtain ⟨v, σ', H', J, rv, q⟩ := hs
    exact ⟨v, H', J.os, J.bare, J.base, J.hok, rv, q⟩
  | next =>
    obtain ⟨σ', H', J, q⟩ := hs
    exact ⟨.non, H', J.os, J.bare, J.base, J.hok, rfl, q⟩
  | brk => obtain ⟨_, _, _, q⟩ := hs; exact q.elim
  | cont => obtain ⟨_, _, _, q⟩ := hs; exact q.elim
/-- a def that asks for it, no exception leaves -/
theorem Fun.okG {x qual : Str} {st : Stmt} {N : List Str} (F : L2.Fun K x qual st f fd) (S : FnScope N ps (defScope st)) (len : ∀ vs H Q E, sp vs H Q E → vs.length = ps.length)
    (hbody : ∀ (cdv : Value) (A : Around) (outer : List Env) (s : Shared) (H : Hp) (vs : List V) (Q : VK) (E : XK), A.guards = some [] →
      Room k (A.deeper (envOfC qual (defScope st) s.heap.objs.size f cdv)) → sp vs H Q E →
      ∃ t, PSs (cxOf CX P w K mg base N qual (defScope st) f cdv A outer s H E).nox (defBody st) t ∧ t { nx := fun _ H' => Q .non H', rt := Q } (L2.start N vs) H) :
    FnG P w K mg base CX (k + 1) f fd ps sp := by
  obtain ⟨oc, od, kV, doc, pm, an, cdv, ct, osl, rfl, lk, hcd⟩ := F.ex
  refine fnG_of lk hcd S len fun A outer s H vs Q E hg hr hsp => ?_
  obtain ⟨t, h, q⟩ := hbody cdv A outer s H vs Q E hg hr hsp
  exact ⟨t, h.nox, q⟩
end
/-! ### calls -/
section
variable {X : Cx} {CX : CXT} {k : Nat} {f : Addr} {fd : FuncData} {ps ks : List Str} {sp : Sp} {E : XK} {x : Str} {p pos : Pos} {e : Expr} {es : List Expr} {kws : List Keyword} {t tk : TA}
theorem run_fnG {pins : List (Addr × Obj)} {σ : L2.St} {H : Hp} {s : Shared} {Q : VK} {us : List Value} {vs : List V} {args : Args} (F : FnG X.prog X.w X.K X.mg X.base CX k f fd ps sp) (hgd : X.A.guards = some []) (hr : Room k X.A)
    (hb : BindsTo s fd args (ps.zip us)) (hx : Passes CX X E) (I : Inv X pins σ H s) (r : Vals vs us) (h : sp vs H Q E) : codeAny (model X.prog X.w) X.A (.call (.ref f) args) (fun r s' => match r with
      | .ok (.ret u) => EP X pins σ Q u s'
      | .ok _ => False
      | .error e => X.xe e s') s := by
  refine codeAny_mono (F.run X.A X.stack s H args us vs Q E hgd hr I.env0 hb r h) fun r s' hq => ?_
  cases r with
  | error e => exact hx pins σ H s e s' I hq
  | ok fl =>
    cases fl with
    | ret u => exact I.after hq
    | next => exact hq
    | brk => exact hq
    | cont => exact hq
end

/-! ### a def of the text with its promise -/
/-- G: it asks that no repr is under way -/
def Rn (G : Bool) (P : Program) (w : World) (K : PySem.W.Frag) (mg : Str → Option Value) (base : Heap) (CX : CXT) (k : Nat) (f : Addr) (fd : FuncData) (ps : List Str) (sp : Sp) : Prop :=
  match G with
  | true => FnG P w K mg base CX k f fd ps sp
  | false => FnOk P w K mg base CX k f fd ps sp
theorem Rn.toG {G : Bool} {P : Program} {w : World} {K : PySem.W.Frag} {mg : Str → Option Value} {base : Heap} {CX : CXT} {k : Nat} {f : Addr} {fd : FuncData} {ps : List Str} {sp : Sp} (h : Rn G P w K mg base CX k f fd ps sp) :
    FnG P w K mg base CX k f fd ps sp := by
  cases G with
  | true => exact h
  | false => exact FnG.of h
/-- the def stands, at its name -/
structure DefAt (K : PySem.W.Frag) (mg : Str → Option Value) (x : Str) (st : Stmt) : Prop where
  ex : ∃ f fd, L2.Fun K x x st f fd ∧ mg x = some (.ref f)
structure DefOk (P : Program) (w : World) (K : PySem.W.Frag) (mg : Str → Option Value) (base : Heap) (CX : CXT) (G : Bool) (k : Nat) (x : Str) (st : Stmt) (ps : List Str) (sp : Sp) : Prop where
  ex : ∃ f fd, L2.Fun K x x st f fd ∧ mg x = some (.ref f) ∧ Rn G P w K mg base CX k f fd ps sp
section
variable {P : Program} {w : World} {K : PySem.W.Frag} {mg : Str → Option Value} {base : Heap} {CX : CXT} {j k : Nat} {x : Str} {st : Stmt} {ps : List Str} {sp : Sp}
theorem DefAt.ok {N : List Str} (D : DefAt K mg x st) (S : FnScope N ps (defScope st)) (len : ∀ vs H Q E, sp vs H Q E → vs.length = ps.length)
    (hbody : ∀ (f : Addr) (cdv : Value) (A : Around) (outer : List Env) (s : Shared) (H : Hp) (vs : List V) (Q : VK) (E : XK), Room k (A.deeper (envOfC x (defScope st) s.heap.objs.size f cdv)) → sp vs H Q E →
      ∃ t, PSs (cxOf CX P w K mg base N x (defScope st) f cdv A outer s H E).nox (defBody st) t ∧ t { nx := fun _ H' => Q .non H', rt := Q } (L2.start N vs) H) :
    DefOk P w K mg base CX false (k + 1) x st ps sp := by
  obtain ⟨f, fd, F, hm⟩ := D.ex
  refine ⟨f, fd, F, hm, ?_⟩
  obtain ⟨oc, od, kV, doc, pm, an, cdv, ct, osl, rfl, lk, hcd⟩ := F.ex
  refine fn_of lk hcd S len fun A outer s H vs Q E hr hsp => ?_
  obtain ⟨t, h, q⟩ := hbody f cdv A outer s H vs Q E hr hsp
  exact ⟨t, h.nox, q⟩
theorem DefAt.okG {N : List Str} (D : DefAt K mg x st) (S : FnScope N ps (defScope st)) (len : ∀ vs H Q E, sp vs H Q E → vs.length = ps.length)
    (hbody : ∀ (f : Addr) (cdv : Value) (A : Around) (outer : List Env) (s : Shared) (H : Hp) (vs : List V) (Q : VK) (E : XK), A.guards = some [] → Room k (A.deeper (envOfC x (defScope st) s.heap.objs.size f cdv)) → sp vs H Q E →
      ∃ t, PSs (cxOf CX P w K mg base N x (defScope st) f cdv A outer s H E).nox (defBody st) t ∧ t { nx := fun _ H' => Q .non H', rt := Q } (L2.start N vs) H) :
    DefOk P w K mg base CX true (k + 1) x st ps sp := by
  obtain ⟨f, fd, F, hm⟩ := D.ex
  exact ⟨f, fd, F, hm, Fun.okG F S len fun cdv A outer s H vs Q E => hbody f cdv A outer s H vs Q E⟩
/-- a def that may raise -/
theorem DefAt.okX {N : List Str} (D : DefAt K mg x st) (S : FnScope N ps (defScope st)) (len : ∀ vs H Q E, sp vs H Q E → vs.length = ps.length)
    (hbody : ∀ (f : Addr) (cdv : Value) (A : Around) (outer : List Env) (s : Shared) (H : Hp) (vs : List V) (Q : VK) (E : XK), Room k (A.deeper (envOfC x (defScope st) s.heap.objs.size f cdv)) → sp vs H Q E →
      ∃ t, PSs (cxOf CX P w K mg base N x (defScope st) f cdv A outer s H E) (defBody st) t ∧ t { nx := fun _ H' => Q .non H', rt := Q } (L2.start N vs) H) :
    DefOk P w K mg base CX false (k + 1) x st ps sp := by
  obtain ⟨f, fd, F, hm⟩ := D.ex
  refine ⟨f, fd, F, hm, ?_⟩
  obtain ⟨oc, od, kV, doc, pm, an, cdv, ct, osl, rfl, lk, hcd⟩ := F.ex
  exact fn_of lk hcd S len fun A outer s H vs Q E hr hsp => hbody f cdv A outer s H vs Q E hr hsp
theorem DefOk.mono {G : Bool} (D : DefOk P w K mg base CX G j x st ps sp) (h : j ≤ k) : DefOk P w K mg base CX G k x st ps sp := by
  obtain ⟨f, fd, F, hm, R⟩ := D.ex
  refine ⟨f, fd, F, hm, ?_⟩
  cases G with
  | true => exact FnG.mono R h
  | false => exact FnOk.mono R h
theorem DefOk.imp {sp' : Sp} {G : Bool} (D : DefOk P w K mg base CX G k x st ps sp) (h : ∀ vs H Q E, sp' vs H Q E → sp vs H Q E) : DefOk P w K mg base CX G k x st ps sp' := by
  obtain ⟨f, fd, F, hm, R⟩ := D.ex
  refine ⟨f, fd, F, hm, ?_⟩
  cases G with
  | true => exact ⟨fun vs H Q E z => R.len vs H Q E (h vs H Q E z), fun A outer s H args us vs Q E hg hr e0 hb r z => R.run A outer s H args us vs Q E hg hr e0 hb r (h vs H Q E z)⟩
  | false => exact FnOk.imp R h
end
/-- how the parameters are bound by position -/
def BindP (x : Str) (st : Stmt) (ps : List Str) : Prop := ∀ (kV doc pm : Value) (an : Option Addr) (cdv ct : Value) (us : List Value), us.length = ps.length →
  bindArgs (PySem.W.fnOf x x (defArgs st) (defBody st) (defScope st) .none kV doc pm an cdv ct) ⟨us, []⟩ = pure (ps.zip us)
/-- .. by the keywords ks alone; g puts their values in the parameters' order -/
def BindK (x : Str) (st : Stmt) (ps ks : List Str) (g : {α : Type} → List α → List α) : Prop := ∀ (kV doc pm : Value) (an : Option Addr) (cdv ct : Value) (us : List Value), us.length = ks.length →
  bindArgs (PySem.W.fnOf x x (defArgs st) (defBody st) (defScope st) .none kV doc pm an cdv ct) ⟨[], ks.zip us⟩ = pure (ps.zip (g us))
section
variable {X : Cx} {CX : CXT} {G : Bool} {k : Nat} {st : Stmt} {ps ks : List Str} {sp : Sp} {E : XK} {x : Str} {p pos : Pos} {e : Expr} {es : List Expr} {kws : List Keyword} {t tk : TA}
theorem run_D {pins : List (Addr × Obj)} {σ : L2.St} {H : Hp} {s : Shared} {Q : VK} {us : List Value} {vs : List V} {args : Args} {f : Addr} {fd : FuncData} (R : Rn G X.prog X.w X.K X.mg X.base CX k f fd ps sp) (hgd : G = false ∨ X.A.guards = some []) (hr : Room k X.A)
    (hb : BindsTo s fd args (ps.zip us)) (hx : Passes CX X E) (I : Inv X pins σ H s) (r : Vals vs us) (h : sp vs H Q E) : codeAny (model X.prog X.w) X.A (.call (.ref f) args) (fun r s' => match r with
      | .ok (.ret u) => EP X pins σ Q u s'
      | .ok _ => False
      | .error e => X.xe e s') s := by
  have main : codeAny (model X.prog X.w) X.A (.call (.ref f) args) (CR CX X.stack X.prog X.w H s Q E) s := by
    cases G with
    | true => exact R.run X.A X.stack s H args us vs Q E (hgd.resolve_left (by decide)) hr I.env0 hb r h
    | false => exact R.run X.A X.stack s H args us vs Q E hr I.env0 hb r h
  refine codeAny_mono main fun r s' hq => ?_
  cases r with
  | error e => exact hx pins σ H s e s' I hq
  | ok fl =>
    cases fl with
    | ret u => exact I.after hq
    | next => exact hq
    | brk => exact hq
    | cont => exact hq
theorem Rn.len {f : Addr} {fd : FuncData} {P : Program} {w : World} {K : PySem.W.Frag} {mg : Str → Option Value} {base : Heap} (R : Rn G P w K mg base CX k f fd ps sp) {vs : List V} {H : Hp} {Q : VK} (h : sp vs H Q E) : vs.length = ps.length :=
  R.toG.len vs H Q E h
/-- f(e, ..) -/
theorem pe_callD (D : DefOk X.prog X.w X.K X.mg X.base CX G k x st ps sp) (hr : Room k X.A) (hgd : G = false ∨ X.A.guards = some []) (hb : BindP x st ps) (hx : Passes CX X E) (ha : PA X (e :: es) t) (hg : Gl X x := by rfl)
    (hdb : (x == ("__debug__" : Str)) = false := by decide) (he : starEach (e :: es) X.env = (false, eval e X.env) :: starEach es X.env := by rfl) (hpl : (backTo pos (starEach es X.env)).any (·.1) = false := by rfl) :
    PE X (.Call (.Name x p) (e :: es) [] pos) (tCall sp [] E t) := by
  obtain ⟨f, fd, F, hm, R⟩ := D.ex
  refine ⟨fun pins s σ H Q I h => wpAny_Call_Name_kw (ld_glob I hg hm ?_ hdb)⟩
  refine PySem.W.callWith_K (h₀ := X.base) I.ok.mod.kin F.kp (thn (ha.run pos pins s σ H _ I h) fun us s1 z => ?_) he hpl
  obtain ⟨vs, H1, I1, r, q⟩ := z
  refine ⟨I1.kIn, ?_⟩
  have q' : sp vs H1 Q E := by
    have q0 : sp (vs ++ []) H1 Q E := q
    rwa [List.append_nil] at q0
  have hl : us.length = ps.length := by rw [← r.length]; exact R.len q'
  obtain ⟨oc, od, kV, doc, pm, an, cdv, ct, osl, rfl, lk, hcd⟩ := F.ex
  have hbt : BindsTo s1 _ ⟨[] ++ us, []⟩ (ps.zip us) := .of_eq (hb kV doc pm an cdv ct us hl)
  refine wpAny_call (codeAny_mono (run_D R hgd hr hbt hx I1 r q') fun r s' hq => ?_)
  cases r with
  | error e => exact hq
  | ok fl => cases fl with
    | ret u => exact hq
    | next => exact hq
    | brk => exact hq
    | cont => exact hq
/-- f() -/
theorem pe_callD0 (D : DefOk X.prog X.w X.K X.mg X.base CX G k x st [] sp) (hr : Room k X.A) (hgd : G = false ∨ X.A.guards = some []) (hb : BindP x st []) (hx : Passes CX X E) (hg : Gl X x := by rfl)
    (hdb : (x == ("__debug__" : Str)) = false := by decide) : PE X (.Call (.Name x p) [] [] pos) (tCall sp [] E tNil) := by
  obtain ⟨f, fd, F, hm, R⟩ := D.ex
  refine ⟨fun pins s σ H Q I h => wpAny_Call_Name_kw (ld_glob I hg hm ?_ hdb)⟩
  refine PySem.W.callWith_K0 I.kIn F.kp ?_
  obtain ⟨oc, od, kV, doc, pm, an, cdv, ct, osl, rfl, lk, hcd⟩ := F.ex
  have hbt : BindsTo s _ ⟨[] ++ [], []⟩ (([] : List Str).zip []) := .of_eq (hb kV doc pm an cdv ct [] rfl)
  refine wpAny_call (codeAny_mono (run_D R hgd hr hbt hx I .nil h) fun r s' hq => ?_)
  cases r with
  | error e => exact hq
  | ok fl => cases fl with
    | ret u => exact hq
    | next => exact hq
    | brk => exact hq
    | cont => exact hq
/-- f(k = e, ..) -/
def tCallKO (n : Nat) (sp : Sp) (g : {α : Type} → List α → List α) (E : XK) (tk : TA) : TE := fun σ H Q => tk σ H fun zs H2 => zs.length = n ∧ sp (g zs) H2 Q E
theorem pe_callDK {g : {α : Type} → List α → List α} (D : DefOk X.prog X.w X.K X.mg X.base CX G k x st ps sp) (hr : Room k X.A) (hgd : G = false ∨ X.A.guards = some []) (hb : BindK x st ps ks g) (hrel : ∀ {vs : List V} {us : List Value}, Vals vs us → Vals (g vs) (g us)) (hx : Passes CX X E)
    (hkw : PK X kws tk) (hks : (backToKw pos (keywordEach kws X.env)).filterMap (·.1) = ks := by rfl) (hall : (backToKw pos (keywordEach kws X.env)).all (·.1.isSome) = true := by rfl) (hg : Gl X x := by rfl)
    (hdb : (x == ("__debug__" : Str)) = false := by decide)
    (hpl : ((backTo pos (starEach [] X.env)).any (·.1) || (backToKw pos (keywordEach kws X.env)).any (·.1.isNone)) = false := by rfl) :
    PE X (.Call (.Name x p) [] kws pos) (tCallKO ks.length sp g E tk) := by
  obtain ⟨f, fd, F, hm, R⟩ := D.ex
  refine ⟨fun pins s σ H Q I h => wpAny_Call_Name_kw (ld_glob I hg hm ?_ hdb)⟩
  refine PySem.W.callWith_KW0 (h₀ := X.base) I.ok.mod.kin F.kp hall ?_ hpl
  refine thn (hkw.run pos pins s σ H _ I h) fun ws s2 z => ?_
  obtain ⟨zs, H2, I2, rz, hl, q2⟩ := z
  refine ⟨I2.kIn, ?_⟩
  rw [hks]
  obtain ⟨oc, od, kV, doc, pm, an, cdv, ct, osl, rfl, lk, hcd⟩ := F.ex
  have hbt : BindsTo s2 _ ⟨[], ks.zip ws⟩ (ps.zip (g ws)) := .of_eq (hb kV doc pm an cdv ct ws (by rw [← rz.length]; exact hl))
  refine wpAny_call (codeAny_mono (run_D R hgd hr hbt hx I2 (hrel rz) q2) fun r s' hq => ?_)
  cases r with
  | error e => exact hq
  | ok fl => cases fl with
    | ret u => exact hq
    | next => exact hq
    | brk => exact hq
    | cont => exact hq
end
end DL

set_option maxHeartbeats 4000000
namespace DL
open PySem L2 Evl PySem.Spec PyProof.Rows
/-! ### data -/
section
variable {K : PySem.W.Frag} {H H' : Hp}
mutual
theorem dp_ex (e : Ex H H') : ∀ {v : V} {d : PyData}, Dp K H v d → Dp K H' v d
  | _, _, .non => .non
  | _, _, .bl b => .bl b
  | _, _, .int i => .int i
  | _, _, .str x => .str x
  | _, _, .lst h a => .lst (ex_l e h) (dpa_ex e a)
  | _, _, .tup h a => .tup (ex_t e h) (dpa_ex e a)
theorem dpa_ex (e : Ex H H') : ∀ {vs : List V} {ds : List PyData}, DpAll K H vs ds → DpAll K H' vs ds
  | _, _, .nil => .nil
  | _, _, .cons a r => .cons (dp_ex e a) (dpa_ex e r)
end
mutual
theorem dp_nodict : ∀ {v : V} {d : PyData}, Dp K H v d → d.hasDict = false
  | _, _, .non => rfl
  | _, _, .bl b => rfl
  | _, _, .int i => rfl
  | _, _, .str x => rfl
  | _, _, .lst h a => by show PyData.hasDictAll _ = false; exact dpa_nodict a
  | _, _, .tup h a => by show PyData.hasDictAll _ = false; exact dpa_nodict a
theorem dpa_nodict : ∀ {vs : List V} {ds : List PyData}, DpAll K H vs ds → PyData.hasDictAll ds = false
  | _, _, .nil => rfl
  | _, _, .cons a r => by
    show (PyData.hasDict _ || PyData.hasDictAll _) = false
    rw [dp_nodict a, dpa_nodict r]
    rfl
end
theorem dpa_len : ∀ {vs : List V} {ds : List PyData}, DpAll K H vs ds → vs.length = ds.length
  | _, _, .nil => rfl
  | _, _, .cons _ r => congrArg (· + 1) (dpa_len r)
theorem dpa_get : ∀ {vs : List V} {ds : List PyData} {i : Nat} {d : PyData}, DpAll K H vs ds → ds[i]? = some d → ∃ v, vs[i]? = some v ∧ Dp K H v d
  | _, _, 0, _, .cons a _, h => ⟨_, rfl, (Option.some.inj h) ▸ a⟩
  | _, _, i + 1, _, .cons _ r, h => dpa_get (i := i) r h
  | _, _, 0, _, .nil, h => nomatch h
  | _, _, i + 1, _, .nil, h => nomatch h
theorem dpa_getV : ∀ {vs : List V} {ds : List PyData} {i : Nat} {v : V}, DpAll K H vs ds → vs[i]? = some v → ∃ d, ds[i]? = some d ∧ Dp K H v d
  | _, _, 0, _, .cons a _, h => ⟨_, rfl, (Option.some.inj h) ▸ a⟩
  | _, _, i + 1, _, .cons _ r, h => dpa_getV (i := i) r h
  | _, _, 0, _, .nil, h => nomatch h
  | _, _, i + 1, _, .nil, h => nomatch h
theorem dpa_app : ∀ {vs us : List V} {ds es : List PyData}, DpAll K H vs ds → DpAll K H us es → DpAll K H (vs ++ us) (ds ++ es)
  | _, _, _, _, .nil, h => h
  | _, _, _, _, .cons a r, h => .cons a (dpa_app r h)
theorem dpa_one {v : V} {d : PyData} (h : Dp K H v d) : DpAll K H [v] [d] := .cons h .nil
theorem dpa_take : ∀ (n : Nat) {vs : List V} {ds : List PyData}, DpAll K H vs ds → DpAll K H (vs.take n) (ds.take n)
  | 0, _, _, _ => by simpa using DpAll.nil
  | n + 1, _, _, .nil => .nil
  | n + 1, _, _, .cons a r => .cons a (dpa_take n r)
theorem dpa_drop : ∀ (n : Nat) {vs : List V} {ds : List PyData}, DpAll K H vs ds → DpAll K H (vs.drop n) (ds.drop n)
  | 0, _, _, h => h
  | n + 1, _, _, .nil => .nil
  | n + 1, _, _, .cons a r => dpa_drop n r
theorem dpa_set : ∀ {vs : List V} {ds : List PyData} (n : Nat) {v : V} {d : PyData}, DpAll K H vs ds → Dp K H v d → DpAll K H (vs.set n v) (ds.set n d)
  | _, _, _, _, _, .nil, _ => .nil
  | _, _, 0, _, _, .cons _ r, h => .cons h r
  | _, _, n + 1, _, _, .cons a r, h => .cons a (dpa_set n r h)
theorem dpa_erase : ∀ {vs : List V} {ds : List PyData} (n : Nat), DpAll K H vs ds → DpAll K H (vs.eraseIdx n) (ds.eraseIdx n)
  | _, _, _, .nil => .nil
  | _, _, 0, .cons _ r => r
  | _, _, n + 1, .cons a r => .cons a (dpa_erase n r)
/-- scalars by their values -/
theorem dp_int {v : V} {i : Int} (h : Dp K H v (.int i)) : v = .int i := by cases h; rfl
theorem dp_str {v : V} {x : Str} (h : Dp K H v (.str x)) : v = .str x := by cases h; rfl
theorem dp_bl {v : V} {b : Bool} (h : Dp K H v (.bool b)) : v = .bl b := by cases h; rfl
theorem dp_non {v : V} (h : Dp K H v .none) : v = .non := by cases h; rfl
theorem dp_tup {v : V} {ds : List PyData} (h : Dp K H v (.tuple ds)) : ∃ a xs, v = .ref a ∧ SqT K H a xs ∧ DpAll K H xs ds := by cases h with | tup h a => exact ⟨_, _, rfl, h, a⟩
theorem dp_lst {v : V} {ds : List PyData} (h : Dp K H v (.list ds)) : ∃ a xs, v = .ref a ∧ SqL K H a xs ∧ DpAll K H xs ds := by cases h with | lst h a => exact ⟨_, _, rfl, h, a⟩
/-- lists of texts, of ints -/
theorem dpa_strs : ∀ xs : List Str, DpAll K H (xs.map V.str) (xs.map PyData.str)
  | [] => .nil
  | x :: r => .cons (.str x) (dpa_strs r)
theorem dpa_ints : ∀ xs : List Int, DpAll K H (xs.map V.int) (xs.map PyData.int)
  | [] => .nil
  | x :: r => .cons (.int x) (dpa_ints r)
theorem dpa_bls : ∀ xs : List Bool, DpAll K H (xs.map V.bl) (xs.map PyData.bool)
  | [] => .nil
  | x :: r => .cons (.bl x) (dpa_bls r)
theorem dpa_strs_eq : ∀ {xs : List Str} {vs : List V}, DpAll K H vs (xs.map PyData.str) → vs = xs.map V.str
  | [], _, .nil => rfl
  | x :: r, _, .cons a b => by rw [dp_str a, dpa_strs_eq b]; rfl
end
/-! ### repr -/
/-- data that repr tells whole -/
structure Shows (d : PyData) : Prop where
  ok : d.showable = true
  deep : d.depth ≤ 40
  fits : d.shown.length ≤ sizeLine
section
variable {X : Cx} {k : Nat}
theorem call_reprD (hgd : X.A.guards = some []) (hr : Room k X.A) : CallR X (.builtin "repr") (fun xs H Q => ∃ v d, xs = [v] ∧ Dp X.K H v d ∧ Shows d ∧ Q (.str d.shown) H) := by
  intro pins s σ H xs us Q I r h
  obtain ⟨v, d, rfl, hd, hs, q⟩ := h
  obtain ⟨u, rfl, rv⟩ := vals1 r
  have hun := hr.un
  cases hd with
  | non => obtain rfl : u = Value.none := rv; exact PySem.P.repr_of_none ⟨.str _, H, I.tok _, ⟨_, rfl⟩, q⟩
  | bl b =>
    obtain rfl : u = Value.bool b := rv
    refine PySem.P.repr_of_bool ⟨.str _, H, I.tok _, ⟨_, rfl⟩, ?_⟩
    cases b <;> exact q
  | int i =>
    obtain ⟨t, rfl⟩ : ∃ t, u = Value.int i t := rv
    exact PySem.P.repr_of_int (by simpa [PyData.showable] using hs.ok) ⟨.str _, H, I.tok _, ⟨_, rfl⟩, q⟩
  | str x =>
    obtain ⟨t, rfl⟩ : ∃ t, u = Value.str x t := rv
    exact PySem.P.repr_of_str ⟨.str _, H, I.tok _, ⟨_, rfl⟩, q⟩ (hsz := hs.fits)
  | @lst a ys ds hq ha =>
    obtain rfl : u = Value.ref a := rv
    have hd : Dp X.K H (.ref a) (.list ds) := .lst hq ha
    obtain ⟨as, rd⟩ := Dp.reads I _ _ _ hd rfl
    exact repr_of_reads' rd hs.ok (PyData.noDict_hsm (dp_nodict hd)) hgd (by have := hs.deep; omega) (fun _ _ z => z) (fun h' u' tk kp => ⟨.str _, H, I.kept kp, ⟨_, rfl⟩, q⟩) (hsz := hs.fits)
  | @tup a ys ds hq ha =>
    obtain rfl : u = Value.ref a := rv
    have hd : Dp X.K H (.ref a) (.tuple ds) := .tup hq ha
    obtain ⟨as, rd⟩ := Dp.reads I _ _ _ hd rfl
    exact repr_of_reads' rd hs.ok (PyData.noDict_hsm (dp_nodict hd)) hgd (by have := hs.deep; omega) (fun _ _ z => z) (fun h' u' tk kp => ⟨.str _, H, I.kept kp, ⟨_, rfl⟩, q⟩) (hsz := hs.fits)
end
/-! ### evaluating to data -/
def EvD (K : PySem.W.Frag) (te : TE) (σ : L2.St) (H : Hp) (d : PyData) : Prop := ∀ H1, Ex H H1 → ∀ Q : VK, (∀ v H2, Ex H1 H2 → Dp K H2 v d → Q v H2) → te σ H1 Q
section
variable {K : PySem.W.Frag} {σ : L2.St} {H H' : Hp} {ta tb te : TE} {d : PyData}
theorem EvD.mono (e : Ex H H') (h : EvD K te σ H d) : EvD K te σ H' d := fun H1 a Q q => h H1 (e.trans a) Q q
theorem evd_var {i : Nat} {v : V} (h : σ[i]? = some (some v)) (hd : Dp K H v d) : EvD K (tVar i) σ H d := fun H1 e Q q => ⟨v, h, q v H1 (Ex.refl H1) (dp_ex e hd)⟩
theorem evd_ev {v : V} (h : Ev te σ H v) (hd : Dp K H v d) : EvD K te σ H d := fun H1 e Q q => h H1 e Q fun H2 e2 => q v H2 e2 (dp_ex (e.trans e2) hd)
theorem ev_evd_int {i : Int} (h : EvD K te σ H (.int i)) : Ev te σ H (.int i) := fun H1 e Q q => h H1 e Q fun v H2 e2 hd => by cases hd; exact q H2 e2
theorem ev_evd_str {i : Str} (h : EvD K te σ H (.str i)) : Ev te σ H (.str i) := fun H1 e Q q => h H1 e Q fun v H2 e2 hd => by cases hd; exact q H2 e2
theorem ev_evd_bl {i : Bool} (h : EvD K te σ H (.bool i)) : Ev te σ H (.bl i) := fun H1 e Q q => h H1 e Q fun v H2 e2 hd => by cases hd; exact q H2 e2
/-- several -/
def EvDs (K : PySem.W.Frag) (ta : TA) (σ : L2.St) (H : Hp) (ds : List PyData) : Prop := ∀ H1, Ex H H1 → ∀ Q : List V → Hp → Prop, (∀ vs H2, Ex H1 H2 → DpAll K H2 vs ds → Q vs H2) → ta σ H1 Q
theorem evds_nil : EvDs K tNil σ H [] := fun H1 e Q q => q [] H1 (Ex.refl H1) .nil
theorem evds_cons {tr : TA} {ds : List PyData} (h : EvD K ta σ H d) (hr : EvDs K tr σ H ds) : EvDs K (tCons ta tr) σ H (d :: ds) := fun H1 e Q q =>
  h H1 e _ fun v H2 e2 hv => hr H2 (e.trans e2) _ fun vs H3 e3 hvs => q (v :: vs) H3 (e2.trans e3) (.cons (dp_ex e3 hv) hvs)
theorem evd_tup {ta : TA} {ds : List PyData} (h : EvDs K ta σ H ds) (hl : ds.length ≤ 100000) : EvD K (tTup ta) σ H (.tuple ds) := fun H1 e Q q =>
  h H1 e _ fun vs H2 e2 hvs => ⟨sz_of (by rw [dpa_len hvs]; exact hl), fun p hp => q _ _ (e2.trans (Ex.new hp)) (.tup (st_of upd_same) (dpa_ex (Ex.new hp) hvs))⟩
theorem evd_lst {ta : TA} {ds : List PyData} (h : EvDs K ta σ H ds) (hl : ds.length ≤ 100000) : EvD K (tLst ta) σ H (.list ds) := fun H1 e Q q =>
  h H1 e _ fun vs H2 e2 hvs => ⟨sz_of (by rw [dpa_len hvs]; exact hl), fun p hp => q _ _ (e2.trans (Ex.new hp)) (.lst (sq_of upd_same) (dpa_ex (Ex.new hp) hvs))⟩
theorem evd_if {t : TT} {b : Bool} (h : EvT t σ H b) (h1 : b = true → EvD K ta σ H d) (h2 : b = false → EvD K tb σ H d) : EvD K (tIf t ta tb) σ H d := fun H1 e Q q => h H1 e _ fun H2 e2 => by
  cases b with
  | true => exact h1 rfl H2 (e.trans e2) Q fun v H3 e3 => q v H3 (e2.trans e3)
  | false => exact h2 rfl H2 (e.trans e2) Q fun v H3 e3 => q v H3 (e2.trans e3)
end
end DL

set_option maxHeartbeats 4000000
namespace DL
open PySem L2 Evl PySem.Spec PyProof.Rows
/-! ### constants of the text -/
def ConstAt (mg : Str → Option Value) (x : Str) (v : V) : Prop := ∃ u, mg x = some u ∧ RelV v u
def TupAt (K : PySem.W.Frag) (mg : Str → Option Value) (x : Str) (vs : List V) : Prop := ∃ a, mg x = some (.ref a) ∧ ∀ H, SqT K H a vs
def tTupC (K : PySem.W.Frag) (vs : List V) : TE := fun _ H Q => ∀ a, (∀ H, SqT K H a vs) → Q (.ref a) H
section
variable {X : Cx} {x : Str} {v : V} {vs : List V} {pos : Pos}
theorem pe_const (c : ConstAt X.mg x v) (hg : Gl X x := by rfl) (hd : (x == ("__debug__" : Str)) = false := by decide) : PE X (.Name x pos) (tC v) := by
  obtain ⟨u, h, r⟩ := c
  exact pe_glob hg h r hd
theorem pe_tupc (c : TupAt X.K X.mg x vs) (hg : Gl X x := by rfl) (hd : (x == ("__debug__" : Str)) = false := by decide) : PE X (.Name x pos) (tTupC X.K vs) := by
  obtain ⟨a, h, r⟩ := c
  have b : PE X (.Name x pos) (tC (.ref a)) := pe_glob hg h rfl hd
  exact ⟨fun pins s σ H Q I z => b.run pins s σ H Q I (z a r)⟩
end
/-! ### the heap without some lists that change -/
def hid (ps : List Addr) (H : Hp) : Hp := fun a => if a ∈ ps then none else H a
theorem hid_ex {ps : List Addr} {H : Hp} : Ex (hid ps H) H := fun a o h => by
  unfold hid at h
  split at h
  · cases h
  · exact h
theorem hid_of {ps : List Addr} {H : Hp} {a : Addr} {o : HO} (h : H a = some o) (n : a ∉ ps) : hid ps H a = some o := by
  unfold hid
  rw [if_neg n]
  exact h
theorem hid_get {ps : List Addr} {H : Hp} {a : Addr} {o : HO} (h : hid ps H a = some o) : H a = some o ∧ a ∉ ps := by
  unfold hid at h
  split at h
  · cases h
  · rename_i z; exact ⟨h, z⟩
/-- what is kept but for some lists -/
def Kp (ps : List Addr) (H H' : Hp) : Prop := ∀ a o, a ∉ ps → H a = some o → H' a = some o
theorem Kp.refl {ps : List Addr} (H : Hp) : Kp ps H H := fun _ _ _ h => h
theorem Kp.trans {ps : List Addr} {H H1 H2 : Hp} (a : Kp ps H H1) (b : Kp ps H1 H2) : Kp ps H H2 := fun x o n h => b x o n (a x o n h)
theorem Kp.ex {ps : List Addr} {H H1 : Hp} (a : Kp ps H H1) : Ex (hid ps H) (hid ps H1) := fun x o h => by
  obtain ⟨h1, h2⟩ := hid_get h
  exact hid_of (a x o h2 h1) h2
theorem Kp.of {ps : List Addr} {H H1 : Hp} (a : Ex H H1) : Kp ps H H1 := fun x o _ h => a x o h
theorem Kp.mono {ps qs : List Addr} {H H1 : Hp} (a : Kp ps H H1) (h : ∀ x ∈ ps, x ∈ qs) : Kp qs H H1 := fun x o n z => a x o (fun m => n (h x m)) z
theorem Kp.new {ps : List Addr} {H : Hp} {p : Addr} {o : HO} (h : H p = none) : Kp ps H (upd H p o) := Kp.of (Ex.new h)
theorem Kp.upd {ps : List Addr} {H H1 : Hp} {p : Addr} {o : HO} (a : Kp ps H H1) (h : p ∈ ps) : Kp ps H (upd H1 p o) := fun x u n z => by
  have nx : x ≠ p := fun e => n (e ▸ h)
  rw [upd_ne nx]
  exact a x u n z
/-- an object that H does not know may change -/
theorem Kp.mut {ps : List Addr} {H H1 : Hp} {p : Addr} {o : HO} (a : Kp ps H H1) (h : H p = none) : Kp ps H (L2.upd H1 p o) := fun x u n z => by
  rw [upd_ne (ne_of_none z h)]
  exact a x u n z
/-- at an address kept -/
theorem Kp.at {ps : List Addr} {H H1 : Hp} {a : Addr} {o : HO} (k : Kp ps H H1) (h : H a = some o) (n : a ∉ ps) : H1 a = some o := k a o n h
theorem kp_l {ps : List Addr} {K : PySem.W.Frag} {H H' : Hp} {a : Addr} {xs : List V} (k : Kp ps H H') (n : a ∉ ps) (h : SqL K H a xs) : SqL K H' a xs := by
  rcases h with (h | ⟨o, h⟩) | h
  · exact .inl (.inl (k a _ n h))
  · exact .inl (.inr ⟨o, k a _ n h⟩)
  · exact .inr h
theorem kp_t {ps : List Addr} {K : PySem.W.Frag} {H H' : Hp} {a : Addr} {xs : List V} (k : Kp ps H H') (n : a ∉ ps) (h : SqT K H a xs) : SqT K H' a xs := by
  rcases h with (h | ⟨o, h⟩) | h
  · exact .inl (.inl (k a _ n h))
  · exact .inl (.inr ⟨o, k a _ n h⟩)
  · exact .inr h
/-! ### the tuples of a heap: they never change -/
def tp (H : Hp) : Hp := fun a => match H a with
  | some (.tup xs) => some (.tup xs)
  | _ => none
theorem tp_of {H : Hp} {a : Addr} {xs : List V} (h : H a = some (.tup xs)) : tp H a = some (.tup xs) := by
  unfold tp
  rw [h]
theorem tp_get {H : Hp} {a : Addr} {o : HO} (h : tp H a = some o) : ∃ xs, o = .tup xs ∧ H a = some (.tup xs) := by
  unfold tp at h
  split at h
  · rename_i xs e
    exact ⟨xs, (Option.some.inj h).symm, e⟩
  · cases h
theorem tp_sub {H : Hp} : Ex (tp H) H := fun a o h => by
  obtain ⟨xs, rfl, e⟩ := tp_get h
  exact e
/-- tuples are kept -/
def Tp (H H' : Hp) : Prop := ∀ a xs, H a = some (.tup xs) → H' a = some (.tup xs)
theorem Tp.refl (H : Hp) : Tp H H := fun _ _ h => h
theorem Tp.trans {H H1 H2 : Hp} (a : Tp H H1) (b : Tp H1 H2) : Tp H H2 := fun x xs h => b x xs (a x xs h)
theorem Tp.ex {H H' : Hp} (t : Tp H H') : Ex (tp H) (tp H') := fun a o h => by
  obtain ⟨xs, rfl, e⟩ := tp_get h
  exact tp_of (t a xs e)
theorem Tp.of {H H' : Hp} (e : Ex H H') : Tp H H' := fun a xs h => e a _ h
theorem Tp.new {H : Hp} {p : Addr} {o : HO} (h : H p = none) : Tp H (L2.upd H p o) := Tp.of (Ex.new h)
/-- a list changes -/
theorem Tp.lst {H : Hp} {p : Addr} {xs : List V} {o : HO} (h : H p = some (.lst xs)) : Tp H (L2.upd H p o) := fun a ys e => by
  have n : a ≠ p := fun z => by rw [z, h] at e; cases e
  rw [upd_ne n]
  exact e
theorem Kp.tp {ps : List Addr} {H H' : Hp} (k : Kp ps H H') (h : ∀ a ∈ ps, ∃ xs, H a = some (.lst xs)) : Tp H H' := fun a xs e => by
  refine k a _ (fun m => ?_) e
  obtain ⟨ys, z⟩ := h a m
  rw [e] at z
  cases z
theorem dp_tp {K : PySem.W.Frag} {H : Hp} {v : V} {d : PyData} (h : Dp K (DL.tp H) v d) : Dp K H v d := dp_ex tp_sub h
theorem dpa_tp {K : PySem.W.Frag} {H : Hp} {v : List V} {d : List PyData} (h : DpAll K (DL.tp H) v d) : DpAll K H v d := dpa_ex tp_sub h
/-! ### ints -/
theorem pylong_small {i j : Int} (h0 : 0 < j) (h1 : j < 1073741824) : Builtin.divisionGoesByPylong i j = false := by
  show (decide ((if j == 0 then 0 else j.natAbs.log2 / 30 + 1) > 300) && _) = false
  rw [if_neg (show ¬ (j == 0) = true by simpa using (show j ≠ 0 by omega))]
  have e : j.natAbs.log2 / 30 = 0 := by
    have h : j.natAbs < 2 ^ 30 := by
      have : (2 : Nat) ^ 30 = 1073741824 := by decide
      omega
    have : j.natAbs.log2 < 30 := (Nat.log2_lt (by omega)).mpr h
    omega
  rw [e]
  rfl
theorem itT {c : Bool} {A B : Prop} (h : c = true) (a : A) : if c = true then A else B := by rw [if_pos h]; exact a
theorem itF {c : Bool} {A B : Prop} (h : c = false) (b : B) : if c = true then A else B := by rw [h, if_neg Bool.false_ne_true]; exact b
theorem str_ne {x y : Str} (h : x ≠ y) : decide (V.str x = V.str y) = false := decide_eq_false fun e => h (V.str.inj e)
theorem str_eq {x y : Str} (h : x = y) : decide (V.str x = V.str y) = true := decide_eq_true (congrArg V.str h)
/-- a comprehension without tests -/
theorem lc_yes {A B : Hp → Prop} {σ : L2.St} {H : Hp} (h : A H) : tYes σ H (fun b H3 => if b = true then A H3 else B H3) := by
  show if true = true then A H else B H
  rw [if_pos rfl]
  exact h
end DL

set_option maxHeartbeats 4000000
namespace DL
open PySem L2 Evl PySem.Spec PyProof.Rows PySem.Calls PyProof.V
/-! ### a dict of the text: texts to ints -/
def tabAt (k : Str) : List (Str × Int) → Option Int
  | [] => none
  | (x, i) :: D => if k = x then some i else tabAt k D
def datI (D : List (Str × Int)) : List (Str × KTD.Dat) := D.map fun p => (p.1, .flat (.int p.2))
theorem datum_tab {k : Str} : ∀ D : List (Str × Int), KTD.datumAt k (datI D) = (tabAt k D).map fun i => .flat (.int i)
  | [] => rfl
  | (x, i) :: D => by
    show (if decide (k = x) = true then some _ else KTD.datumAt k (datI D)) = Option.map _ (if k = x then some i else tabAt k D)
    by_cases h : k = x
    · rw [if_pos (decide_eq_true h), if_pos h]; rfl
    · rw [if_neg (by simp [h]), if_neg h]; exact datum_tab D
structure TabI (K : PySem.W.Frag) (mg : Str → Option Value) (x : Str) (D : List (Str × Int)) : Prop where
  ex : ∃ a, mg x = some (.ref a) ∧ ∀ h, K.In h → KTD.TextTab h a (datI D)
def rowsI : List DictEntry → List (Str × Int) → Bool
  | [], [] => true
  | ⟨_, .str y _, .int j _⟩ :: es, (x, i) :: D => decide (y = x) && (decide (j = i) && rowsI es D)
  | _, _ => false
theorem rowsI_ok {h : Heap} : ∀ {es : List DictEntry} {D : List (Str × Int)}, rowsI es D = true → KTD.Rows (KTD.Dat.At h) es (datI D)
  | [], [], _ => .nil
  | ⟨_, .str y t, .int j u⟩ :: es, (x, i) :: D, e => by
    simp only [rowsI, Bool.and_eq_true, decide_eq_true_eq] at e
    obtain ⟨rfl, rfl, e⟩ := e
    exact .cons (t := t) rfl (Flat.int _ _) (rowsI_ok e)
  | [], _ :: _, e => nomatch e
  | ⟨_, .str _ _, .int _ _⟩ :: _, [], e => nomatch e
def tabB (K : PySem.W.Frag) (x : Str) (D : List (Str × Int)) : Bool := !(He.ga K x == sysModules) && match K.lookup (He.ga K x) with
  | some ⟨.type c, none, .dict es _, sl⟩ => decide (c = "dict") && (sl.toList.isEmpty && rowsI es.toList D)
  | _ => false
theorem tab_of {K : PySem.W.Frag} {mg : Str → Option Value} {x : Str} {D : List (Str × Int)} (hm : mg x = some (.ref (He.ga K x))) (e : tabB K x D = true) : TabI K mg x D := by
  unfold tabB at e
  rw [Bool.and_eq_true, Bool.not_eq_true'] at e
  obtain ⟨e0, e⟩ := e
  split at e
  · rename_i c es ep sl ho
    simp only [Bool.and_eq_true, decide_eq_true_eq] at e
    obtain ⟨rfl, es0, e⟩ := e
    have esl : sl = #[] := by
      obtain ⟨l⟩ := sl
      cases l with
      | nil => rfl
      | cons _ _ => cases es0
    exact ⟨_, hm, fun h KI => ⟨e0, _, es, ep, KI _ _ ho, ⟨rfl, rfl, esl⟩, rfl, rowsI_ok e⟩⟩
  · cases e
def tTGet2 (D : List (Str × Int)) (te tx : TE) : TE := fun σ H Q => te σ H fun y H1 => tx σ H1 fun z H2 => ∃ k, y = .str k ∧ Q (((tabAt k D).map V.int).getD z) H2
theorem pe_tget2 {X : Cx} {x : Str} {D : List (Str × Int)} {p apos cpos : Pos} {e f : Expr} {te tx : TE} (T : TabI X.K X.mg x D) (he : PE X e te) (hf : PE X f tx) (m : M2 X (.Name x p) "get" apos e f cpos) (hg : Gl X x := by rfl) (hd : (x == ("__debug__" : Str)) = false := by decide) :
    PE X (.Call (.Attribute (.Name x p) "get" apos) [e, f] [] cpos) (tTGet2 D te tx) := by
  obtain ⟨a, hm, T⟩ := T.ex
  have hx : PE X (.Name x p) (tC (.ref a)) := pe_glob hg hm rfl hd
  refine ⟨fun pins s σ H Q I h => wpAny_Call_method m.base m.few m.line PySem.F.plainAttrs_dict PySem.F.slot_dict_get PySem.F.type_dict_get (thn (hx.run pins s σ H (fun v H1 => v = .ref a ∧ H1 = H) I ⟨rfl, rfl⟩) fun u s1 ⟨y, H1, I1, ry, ey, eH⟩ => ?_)⟩
  subst ey eH
  obtain rfl : u = Value.ref a := ry
  have h1 : KTD.Here s1.heap s1.heap a (datI D) := ⟨T _ I1.kIn, fun _ _ z => z⟩
  refine ⟨h1.typeIs, h1.noDict, ?_⟩
  rw [m.trees]
  refine Calls.callWith_builtin rfl (Calls.evalArgs_plain (Calls.spliced_cons (thn (he.run pins s1 σ H1 _ I1 h) fun iv s2 ⟨y, H2, I2, ry, q2⟩ => Calls.spliced_cons (thn (hf.run pins s2 σ H2 _ I2 q2) fun fv s3 ⟨z, H3, I3, rz, k, ek, q3⟩ => Calls.spliced_nil ?_))))
  subst ek
  obtain ⟨t, rfl⟩ : ∃ t, iv = Value.str k t := ry
  have h3 : KTD.Here s3.heap s3.heap a (datI D) := ⟨T _ I3.kIn, fun _ _ z => z⟩
  refine call_meetsIn PySem.F.slot_dict_get h3.typeIs PySem.F.entry_dict_get (PySem.F.args_dict_get_3 _ _ _) (KTD.meets_get2 (h₀ := s3.heap) (D := datI D)) ⟨h3, fun d v hd hv => ?_, fun hn => ?_⟩
  · rw [datum_tab] at hd
    cases ht : tabAt k D with
    | none => rw [ht] at hd; cases hd
    | some i =>
      rw [ht] at hd q3
      cases hd
      obtain ⟨t', rfl⟩ := Flat.int_inv hv
      exact ⟨.int i, H3, I3.tok _, ⟨_, rfl⟩, q3⟩
  · rw [datum_tab] at hn
    cases ht : tabAt k D with
    | none =>
      rw [ht] at q3
      exact ⟨z, H3, I3.tok _, rz, q3⟩
    | some i => rw [ht] at hn; cases hn
/-! ### a def with defaults, called with all its parameters -/
structure DefDf (K : PySem.W.Frag) (mg : Str → Option Value) (x : Str) (st : Stmt) (dvs : List V) : Prop where
  ex : ∃ f fd, FunD K x x (defArgs st) (defBody st) (defScope st) dvs [] f fd ∧ mg x = some (.ref f)
structure DfOk (P : Program) (w : World) (K : PySem.W.Frag) (mg : Str → Option Value) (base : Heap) (CX : CXT) (k : Nat) (x : Str) (ps : List Str) (sp : Sp) : Prop where
  ex : ∃ f fd, FnOk P w K mg base CX k f fd ps sp ∧ mg x = some (.ref f) ∧ PySem.W.keepIn K (.ref f) = true ∧ Binds K fd ps []
section
variable {P : Program} {w : World} {K : PySem.W.Frag} {mg : Str → Option Value} {base : Heap} {CX : CXT} {k : Nat} {x : Str} {st : Stmt} {N ps : List Str} {sp : Sp} {dvs : List V}
theorem DefDf.ok (D : DefDf K mg x st dvs) (hd : dvs ≠ []) (S : FnScope N ps (defScope st)) (len : ∀ vs H Q E, sp vs H Q E → vs.length = ps.length)
    (hb : ∀ (T : Addr) (kV doc pm : Value) (an : Option Addr) (cdv ct : Value) (us its : List Value), us.length = ps.length → its.length = dvs.length →
      ∃ k, bindArgs (PySem.W.fnOf x x (defArgs st) (defBody st) (defScope st) (.ref T) kV doc pm an cdv ct) ⟨us, []⟩ = seqItems? (.ref T) >>= k ∧ k (some its.toArray) = pure (ps.zip us))
    (hbody : ∀ (f : Addr) (cdv : Value) (A : Around) (outer : List Env) (s : Shared) (H : Hp) (vs : List V) (Q : VK) (E : XK), Room k (A.deeper (envOfC x (defScope st) s.heap.objs.size f cdv)) → sp vs H Q E →
      ∃ t, PSs (cxOf CX P w K mg base N x (defScope st) f cdv A outer s H E).nox (defBody st) t ∧ t { nx := fun _ H' => Q .non H', rt := Q } (L2.start N vs) H) :
    DfOk P w K mg base CX (k + 1) x ps sp := by
  obtain ⟨f, fd, F, hm⟩ := D.ex
  obtain ⟨ds, rd, hbd⟩ := FunD.binds1 (ps := ps) F ps.length dvs.length hd (by omega) fun T kV doc pm an cdv ct us its l1 l2 => by
    obtain ⟨k, e1, e2⟩ := hb T kV doc pm an cdv ct us its l1 l2
    exact ⟨k, e1, by rw [e2, ← l2, List.drop_length, List.append_nil]⟩
  rw [List.drop_length] at rd
  cases rd
  refine ⟨f, fd, FunD.ok F S len fun cdv A outer s H vs Q E hr hsp => ?_, hm, F.kp, hbd⟩
  obtain ⟨t, h, q⟩ := hbody f cdv A outer s H vs Q E hr hsp
  exact ⟨t, h.nox, q⟩
end
theorem pe_callDf {X : Cx} {CX : CXT} {k : Nat} {x : Str} {ps : List Str} {sp : Sp} {E : XK} {p pos : Pos} {e : Expr} {es : List Expr} {t : TA} (D : DfOk X.prog X.w X.K X.mg X.base CX k x ps sp) (hr : Room k X.A) (hx : Passes CX X E) (ha : PA X (e :: es) t) (hg : Gl X x := by rfl)
    (hdb : (x == ("__debug__" : Str)) = false := by decide) (he : starEach (e :: es) X.env = (false, eval e X.env) :: starEach es X.env := by rfl) (hpl : (backTo pos (starEach es X.env)).any (·.1) = false := by rfl) :
    PE X (.Call (.Name x p) (e :: es) [] pos) (tCall sp [] E t) := by
  obtain ⟨f, fd, F, hm, hk, hb⟩ := D.ex
  exact pe_call F hr hg hm hk hb .nil hx ha hdb he hpl
end DL

set_option maxHeartbeats 4000000
namespace DL
open PySem L2 Evl PySem.Spec PyProof.Rows
/-! ### classes of the text -/
/-- the address that a name of the module has -/
def gA (mg : Str → Option Value) (x : Str) : Addr := match mg x with
  | some (.ref a) => a
  | _ => 0
theorem gA_of {mg : Str → Option Value} {x : Str} {a : Addr} (h : mg x = some (.ref a)) : gA mg x = a := by
  unfold gA
  rw [h]
structure ClsAt (K : PySem.W.Frag) (mg : Str → Option Value) (x : Str) (flds : List Str) : Prop where
  nm : mg x = some (.ref (gA mg x))
  cls : Cls K (gA mg x)
  no : ∀ f ∈ flds, NoAttr K (gA mg x) f
def FunQ (K : PySem.W.Frag) (x qual : Str) (st : Stmt) (f : Addr) (fd : FuncData) : Prop := FunD K x qual (defArgs st) (defBody st) (defScope st) [] [] f fd
structure IniAt (K : PySem.W.Frag) (mg : Str → Option Value) (x qual : Str) (st : Stmt) : Prop where
  ex : ∃ f fd, FunQ K "__init__" qual st f fd ∧ Mk K (gA mg x) f
structure MetAt (K : PySem.W.Frag) (mg : Str → Option Value) (x m qual : Str) (st : Stmt) : Prop where
  ex : ∃ f fd, FunQ K m qual st f fd ∧ Meth K (gA mg x) m f
/-- how all parameters are bound -/
def BindQ (m qual : Str) (st : Stmt) (ps : List Str) : Prop := ∀ (kV doc pm : Value) (an : Option Addr) (cdv ct : Value) (us : List Value), us.length = ps.length →
  bindArgs (PySem.W.fnOf m qual (defArgs st) (defBody st) (defScope st) .none kV doc pm an cdv ct) ⟨us, []⟩ = pure (ps.zip us)
section
variable {P : Program} {w : World} {K : PySem.W.Frag} {mg : Str → Option Value} {base : Heap} {k : Nat} {x m qual : Str} {st : Stmt} {N ps : List Str} {sp : Sp} {flds : List Str}
theorem MetAt.ok (D : MetAt K mg x m qual st) (c : ClsAt K mg x flds) (S : FnScope N ps (defScope st)) (hb : BindQ m qual st ps) (len : ∀ vs H Q E, sp vs H Q E → vs.length = ps.length)
    (hbody : ∀ (f : Addr) (cdv : Value) (A : Around) (outer : List Env) (s : Shared) (H : Hp) (vs : List V) (Q : VK) (E : XK), Room k (A.deeper (envOfC qual (defScope st) s.heap.objs.size f cdv)) → sp vs H Q E →
      ∃ t, PSs (cxOf CX0 P w K mg base N qual (defScope st) f cdv A outer s H E).nox (defBody st) t ∧ t { nx := fun _ H' => Q .non H', rt := Q } (L2.start N vs) H) :
    C8.Met P w K mg base (k + 1) (gA mg x) m sp [] := by
  obtain ⟨f, fd, F, me⟩ := D.ex
  refine ⟨f, fd, ps, [], c.cls, me, FunD.ok F S len fun cdv A outer s H vs Q E hr hsp => ?_, FunD.bindsN F hb, .nil⟩
  obtain ⟨t, h, q⟩ := hbody f cdv A outer s H vs Q E hr hsp
  exact ⟨t, h.nox, q⟩
theorem IniAt.ok (D : IniAt K mg x qual st) (c : ClsAt K mg x flds) (S : FnScope N ps (defScope st)) (hb : BindQ "__init__" qual st ps) (len : ∀ vs H Q E, sp vs H Q E → vs.length = ps.length)
    (hbody : ∀ (f : Addr) (cdv : Value) (A : Around) (outer : List Env) (s : Shared) (H : Hp) (vs : List V) (Q : VK) (E : XK), Room k (A.deeper (envOfC qual (defScope st) s.heap.objs.size f cdv)) → sp vs H Q E →
      ∃ t, PSs (cxOf CX0 P w K mg base N qual (defScope st) f cdv A outer s H E).nox (defBody st) t ∧ t { nx := fun _ H' => Q .non H', rt := Q } (L2.start N vs) H) :
    C8.Mak P w K mg base (k + 1) x (gA mg x) sp [] := by
  obtain ⟨f, fd, F, M⟩ := D.ex
  refine ⟨f, fd, ps, [], M, FunD.ok F S len fun cdv A outer s H vs Q E hr hsp => ?_, c.nm, FunD.bindsN F hb, .nil⟩
  obtain ⟨t, h, q⟩ := hbody f cdv A outer s H vs Q E hr hsp
  exact ⟨t, h.nox, q⟩
/-- a method's promise at a level that no call reaches -/
theorem MetAt.void (D : MetAt K mg x m qual st) (c : ClsAt K mg x flds) (hb : BindQ m qual st ps) (no : ∀ vs H Q E, sp vs H Q E → False) (len : ∀ vs H Q E, sp vs H Q E → vs.length = ps.length) : C8.Met P w K mg base k (gA mg x) m sp [] := by
  obtain ⟨f, fd, F, me⟩ := D.ex
  exact ⟨f, fd, ps, [], c.cls, me, ⟨len, fun _ _ _ _ _ _ _ _ _ _ _ _ _ z => (no _ _ _ _ z).elim⟩, FunD.bindsN F hb, .nil⟩
end
end DL

set_option maxHeartbeats 4000000
namespace DL
open PySem L2 Evl PySem.Spec PyProof.Rows
/-! ### isinstance of data -/
def tyD : PyData → String
  | .none => "NoneType"
  | .bool _ => "bool"
  | .int _ => "int"
  | .str _ => "str"
  | .list _ => "list"
  | .tuple _ => "tuple"
  | .dict _ => "dict"
theorem tyx_dp {K : PySem.W.Frag} {H : Hp} {v : V} {d : PyData} (h : Dp K H v d) : TyX K H v (.type (tyD d)) := by
  cases h with
  | non => exact .base .non
  | bl b => exact .base (.bl b)
  | int i => exact .base (.int i)
  | str x => exact .base (.str x)
  | lst hq _ =>
    rcases hq with (h | ⟨o, h⟩) | ⟨o, its, n, h, c, _⟩
    · exact .base (.lst h)
    · exact .base (.frz h)
    · exact .kList h c
  | tup hq _ =>
    rcases hq with (h | ⟨o, h⟩) | ⟨o, its, n, h, c, _⟩
    · exact .base (.tup h)
    · exact .fTuple h
    · exact .kTuple h c
/-- isinstance(x, T) of data, T a built-in type -/
def isaS (a t : String) : Bool := (a == t) || ((a == "bool") && (t == "int"))
def isaD (d : PyData) (t : String) : Bool := isaS (tyD d) t
theorem isa_dp {K : PySem.W.Frag} {H : Hp} {v : V} {d : PyData} {t : String} (h : Dp K H v d) (ht : t = "int" ∨ t = "bool" ∨ t = "str" ∨ t = "list" ∨ t = "tuple") {Q : VK} (q : Q (.bl (isaD d t)) H) : rIsi K [v, .ty t] H Q := by
  refine ⟨v, .ty t, .type (tyD d), .type t, isaD d t, rfl, .ty t, tyx_dp h, kit_ty ?_, q⟩
  cases h <;> rcases ht with e | e | e | e | e <;> subst e <;> simp only [tyD, isaD] <;> decide +kernel
end DL
namespace DL
open PySem L2 Evl PySem.Spec PyProof.Rows
/-- isinstance(x, T), x data -/
def rIsa (K : PySem.W.Frag) : List V → Hp → VK → Prop := fun xs H Q => ∃ v t d, xs = [v, .ty t] ∧ Dp K H v d ∧ (t = "int" ∨ t = "bool" ∨ t = "str" ∨ t = "list" ∨ t = "tuple") ∧ Q (.bl (isaD d t)) H
theorem call_isa {X : Cx} : CallR X (.builtin "isinstance") (rIsa X.K) := by
  intro pins s σ H xs us Q I r h
  obtain ⟨v, t, d, rfl, hd, ht, q⟩ := h
  exact call_isi pins s σ H _ us Q I r (isa_dp hd ht q)
end DL

set_option maxHeartbeats 4000000
namespace PySem
open Sem (wp)
open AutoSeq1 (wpAny_loadPart')
/-- enumerate(v) over what iter(v) begins -/
theorem meets_enumB1 {v : Value} {o : Obj} {H : Heap → Prop} (B : Begins v o H) :
    Meets (Builtin.«enumerate.__new__» ⟨[.type "enumerate", v], []⟩) (fun _ R s => H s.heap ∧
      R (.ok (.ret (.ref (s.heap.push o).objs.size))) { s with heap := (s.heap.push o).push { cls := .type "enumerate", data := .fields #[.none, .bool false, .ref s.heap.objs.size, rawInt 0, .none, .none] } }) :=
  .of_wp fun prog w A R s h => by
    obtain ⟨hp, g, d, tk, os⟩ := s
    obtain ⟨hl, h⟩ := h
    have hsub := sub_enumerate
    have begun : ∀ {A1 : Around} {E : Value → Shared → Prop} {Q : Value → Shared → Prop}, Q (.ref hp.objs.size) ⟨hp.push o, g, d, tk, os⟩ → wpAny (model prog w) A1 (pyIter v) Q E ⟨hp, g, d, tk, os⟩ := fun q => B.iter prog w _ _ ⟨hp, g, d, tk, os⟩ _ hl q
    wp_walk using begun
    refine wpAny_stack_any fun st => wpAny_pure ?_
    split
    · rename_i c _ _ _ _ _
      cases (c == Value.type "enumerate")
      all_goals
        wp_walk using begun
        exact ⟨_, rfl, h⟩
    · wp_walk using begun
      exact ⟨_, rfl, h⟩
section
variable {prog : Program} {w : World} {A : Around} {E : Value → Shared → Prop} {s : Shared}
theorem enum_begins1 {v : Value} {o : Obj} {H : Heap → Prop} {Q : Value → Shared → Prop} (B : Begins v o H) (h1 : H s.heap)
    (h : ∀ h2, IsEnum h2 (s.heap.objs.size + 1) s.heap.objs.size 0 .none → h2.get? s.heap.objs.size = some o → (∀ b u, s.heap.get? b = some u → h2.get? b = some u) → Q (.ref (s.heap.objs.size + 1)) { s with heap := h2 }) :
    wpAny (model prog w) A (call (.type "enumerate") [v]) Q E s := by
  have hz : (s.heap.push o).objs.size = s.heap.objs.size + 1 := Heap.size_push ..
  have he : IsEnum ((s.heap.push o).push { cls := .type "enumerate", data := .fields #[.none, .bool false, .ref s.heap.objs.size, rawInt 0, .none, .none] }) (s.heap.objs.size + 1) s.heap.objs.size 0 .none := by
    have z := Heap.get?_push_size (s.heap.push o) (o := { cls := .type "enumerate", data := .fields #[.none, .bool false, .ref s.heap.objs.size, rawInt 0, .none, .none] }) rfl
    rw [hz] at z
    exact z
  refine callType_new F.called_enumerate (by decide) (F.typeCall_enumerate_1 _) (F.newCall_enumerate_1 _) (fun obj => F.args_object_init_2 obj _) F.entry_enumerate_new (meets_enumB1 B) ⟨h1, ?_⟩
  show _ ∧ _
  rw [hz]
  exact ⟨⟨_, he, rfl⟩, h _ he (Heap.get?_push_of_some _ (Heap.get?_push_size _ B.free)) fun b u x => Heap.get?_push_of_some _ (Heap.get?_push_of_some _ x)⟩
end
end PySem

set_option maxHeartbeats 4000000
namespace DL
open PySem L2 Evl PySem.Spec PyProof.Rows
/-! ### enumerate(tuple) in a for or a comprehension -/
/-- the tuple at a; each item comes in a new pair -/
def ItN (K : PySem.W.Frag) (a : Addr) : It where
  go := fun i H => ∃ (xs : List V) (x : V), SqT K H a xs ∧ xs[i]? = some x
  yld := fun i H v H' => ∃ T x, v = .ref T ∧ H T = none ∧ (∀ xs, SqT K H a xs → xs[i]? = some x) ∧ H' = upd H T (.tup [.int ((i : Nat) : Int), x])
  stop := fun i H => ∃ xs : List V, SqT K H a xs ∧ xs.length ≤ i
theorem turn_enumT {P : Program} {w : World} {K : PySem.W.Frag} {tgs : List Expr} {kk : Nat} {tpos : Pos} (a e it : Addr) : Turn P w K (.Tuple tgs kk tpos) (ItN K a) [e, it] e
    (fun i h => (∃ old, IsEnum h e it (i : Int) old) ∧ h.IsTupleIter it a i ∧ e ≠ it ∧ a ≠ it ∧ a ≠ e) where
  mem := List.mem_cons_self
  obj := fun i h ⟨⟨old, ie⟩, ⟨o, ho, _, hd⟩, _⟩ b hb => by
    rcases List.mem_cons.mp hb with rfl | hb
    · exact ⟨_, ie, fun v z => nomatch z⟩
    · cases List.mem_singleton.mp hb
      exact ⟨o, ho, fun v z => by rw [hd] at z; nomatch z⟩
  keep := fun i h h' ⟨⟨old, ie⟩, ti, nn⟩ k => ⟨⟨old, k e List.mem_cons_self _ ie⟩, ti.at fun o z => k it (by simp) o z, nn⟩
  item := by
    intro X eP ew eK hc i pins s σ H E I fpo st hg
    cases eP; cases ew; cases eK
    obtain ⟨⟨old, ie⟩, ti, nei, nai, nae⟩ := st
    obtain ⟨xs, x, sq, hx⟩ := hg
    obtain ⟨us, vr, tup, _⟩ := I.tuple sq
    obtain ⟨u, hu, ru⟩ := vr.get hx
    have le : e < s.heap.objs.size := Heap.lt_size ie
    have li : it < s.heap.objs.size := let ⟨_, z, _⟩ := ti; Heap.lt_size z
    have tup' : s.heap.IsTuple a us.toArray := tup
    have lt : i < us.toArray.size := by
      have h1 := (List.getElem?_eq_some_iff.mp hx).1
      rw [List.size_toArray, ← vr.length]
      exact h1
    have Dw := Draws.tuple (prog := X.prog) (w := X.w) (A := X.A.in1) (I.ok.hd hc) it a nai us.toArray
    refine wpAny_pyNext_enum_itemD Dw ie ⟨ti, tup'⟩ lt nei (by simp [nei, nae.symm]) fun y h' tk hy ho st' hT hsz hk => ?_
    obtain rfl : y = u := by
      have z : us.toArray[i]? = some y := hy
      rw [List.getElem?_toArray, hu] at z
      exact (Option.some.inj z).symm
    refine ⟨_, rfl, wpAny_letOwnedTupleGo_enum (s := { s with heap := h', toks := tk + 1 }) ho fun h2 ie2 sb => ?_⟩
    have e2 : h2.get? s.heap.objs.size = some { cls := .type "tuple", data := .seq #[.int i tk, y] } := (sb.2 _ (Nat.ne_of_gt le)).trans hT
    have ob : ObjOk X.prog X.w (upd H s.heap.objs.size (.tup [.int ((i : Nat) : Int), x])) h2 s.heap.objs.size (.tup [.int ((i : Nat) : Int), x]) :=
      ⟨by show 2 ≤ sizeLine; decide, [.int i tk, y], .cons ⟨_, rfl⟩ (.cons ru .nil), ⟨_, e2, rfl, _, rfl⟩⟩
    have I1 : Inv X pins σ (upd H s.heap.objs.size (.tup [.int ((i : Nat) : Int), x])) { s with heap := h2, toks := tk + 1 } :=
      I.turnedNew (ch := [e, it]) (fun b o nb z => (sb.2 b fun q => nb (by simp [q])).trans (hk b o (fun q => nb (by simp [q])) (fun q => nb (by simp [q])) z)) fpo (Nat.le_refl _) ob
    refine ⟨.ref s.heap.objs.size, _, I1, rfl, ⟨_, x, rfl, I.hok.fresh (Nat.le_refl _), fun ys z => by rw [I.tuple_inj z sq]; exact hx, rfl⟩, ⟨⟨y, ?_⟩, st'.1.at fun o z => (sb.2 it nei.symm).trans z, nei, nai, nae⟩, fun b hb => ?_⟩
    · have e1 : ((i + 1 : Nat) : Int) = (i : Int) + 1 := by omega
      rw [e1]; exact ie2
    · have lb : b < s.heap.objs.size := by
        rcases List.mem_cons.mp hb with rfl | hb
        · exact le
        · cases List.mem_singleton.mp hb; exact li
      rw [upd_ne (Nat.ne_of_lt lb)]
      exact (fpo b hb).1
  done := by
    intro X eP ew eK hc i pins s σ H E I fpo st hg
    cases eP; cases ew; cases eK
    obtain ⟨⟨old, ie⟩, ti, nei, nai, nae⟩ := st
    obtain ⟨xs, sq, hx⟩ := hg
    obtain ⟨us, vr, tup, _⟩ := I.tuple sq
    obtain ⟨f0, f1, f2, f3, f4, f5⟩ := fpo it (by simp)
    have lu := vr.length
    have tup' : s.heap.IsTuple a us.toArray := tup
    have noMore : us.toArray[i]? = none := by
      rw [List.getElem?_toArray]
      exact List.getElem?_eq_none (by omega)
    have Dw : Draws X.prog X.w X.A.in1 it [it, a] 0 (fun _ _ => False) (fun _ h => h.IsTupleIter it a i ∧ h.IsTuple a us.toArray) := {
      live := fun _ _ z => let ⟨o, ho, _⟩ := z.1; ⟨o, ho⟩
      frame := fun _ h h' z k => ⟨z.1.at fun o q => k it (by simp) o q, z.2.at fun o q => k a (by simp) o q⟩
      item := fun i s Q E hi _ _ => absurd hi (Nat.not_lt_zero _)
      done := fun s Q E z hE => wpAny_nextOf_tuple_end (I.ok.hd hc) z.1 z.2 noMore hE }
    exact wpAny_pyNext_enum_endD Dw ie ⟨ti, tup'⟩ fun h' eb => ⟨rfl, I.turned (t' := s.toks) (fun b o hb z => eb b o hb z) f0 f1 f3 f4 f5⟩
  self := fun _ _ _ _ _ ⟨⟨_, ie⟩, _⟩ h => wpAny_pyIter_enum ie h
def iEnumT (K : PySem.W.Frag) (ta : TA) : TI := fun σ H R => ta σ H fun vs H1 => ∃ a xs, vs = [.ref a] ∧ SqT K H1 a xs ∧ R (ItN K a) H1
theorem pi_enumT {X : Cx} {e : Expr} {ta : TA} {p pos tpos : Pos} {tgs : List Expr} {kk : Nat} (hg : Gl X "enumerate") (hm : X.mg "enumerate" = none) (ha : PA X [e] ta)
    (hs : starEach [e] X.env = [(false, eval e X.env)] := by rfl) : PI X (.Tuple tgs kk tpos) (.Call (.Name "enumerate" p) [e] [] pos) (iEnumT X.K ta) := by
  refine ⟨fun pins s σ H R I h => Call_ (ld_blt I hg hm boot_enumerate (PyProof.Rows.callWith_type1 (thn (ha.run pos pins s σ H _ I h) fun us s1 ⟨vs, H1, I1, r1, a, xs, ex, sq, q⟩ => ?_) hs rfl))⟩
  subst ex
  obtain ⟨_, rfl, ru⟩ := vals1 r1
  obtain rfl : _ = Value.ref a := ru
  obtain ⟨us, vr, tup, _⟩ := I1.tuple sq
  have tup' : s1.heap.IsTuple a us.toArray := tup
  have la : a < s1.heap.objs.size := let ⟨_, z, _⟩ := tup'; Heap.lt_size z
  refine enum_begins1 (begins_tuple a us.toArray) tup' fun h2 ie hit hk => wpAny_pyIter_enum ie ?_
  have I2 : Inv X pins σ H1 { s1 with heap := h2 } := I1.kept (t' := s1.toks) hk
  refine ⟨s1.heap.objs.size + 1, [s1.heap.objs.size + 1, s1.heap.objs.size], _, _, H1, rfl, I2, turn_enumT a (s1.heap.objs.size + 1) s1.heap.objs.size, ⟨⟨.none, ie⟩, ⟨_, hit, rfl, rfl⟩, Nat.succ_ne_self _, Nat.ne_of_lt la, Nat.ne_of_lt (Nat.lt_succ_of_lt la)⟩, fun b hb => ?_, q⟩
  have lb : s1.heap.objs.size ≤ b := by
    rcases List.mem_cons.mp hb with rfl | hb
    · exact Nat.le_succ _
    · cases List.mem_singleton.mp hb; exact Nat.le_refl _
  exact I1.fpOk lb (I1.hok.fresh lb)
end DL

set_option maxHeartbeats 4000000
namespace DL
open PySem L2 Evl PySem.Spec PyProof.Rows
/-! ### list comprehensions of several fors -/
def testsOf (ifs : List Expr) (en : Env) : Sem Bool :=
  forIn ifs true fun c r => if r = true then do let b ← isTrue c en (eval c en); pure (ForInStep.yield b)
    else pure (ForInStep.yield r)
/-- a turn of a clause that another clause follows -/
def midGo (e : Expr) (d d1 : Nat) (tg src : Expr) (ifs : List Expr) (nx : Expr) (it acc : Value) (en : Env) : Sem Fin := do
  standAt src.pos
  match ← pyNext it with
  | none => pure (.done .next)
  | some v =>
    letOwnedTupleGo tg it v
    assign tg en v
    let mut ok := true
    for c in ifs do
      if ok then ok ← isTrue c en (eval c en)
    if ok then
      let y ← eval nx en
      standAt nx.pos
      let y ← foldedSetIterable nx en y
      let _ ← runOwn (.compStart e d1 (← holding [y] (pyIter y)) acc en) en
    again (.compLoop e d it acc en)
/-- of the last -/
def lastGo (e : Expr) (d : Nat) (tg src : Expr) (ifs : List Expr) (elt : Expr) (it acc : Value) (en : Env) : Sem Fin := do
  standAt src.pos
  match ← pyNext it with
  | none => pure (.done .next)
  | some v =>
    letOwnedTupleGo tg it v
    assign tg en v
    let mut ok := true
    for c in ifs do
      if ok then ok ← isTrue c en (eval c en)
    if ok then
      (do let _ ← call (.builtin "list.append") [acc, ← eval elt en])
    again (.compLoop e d it acc en)
section
variable {prog : Program} {w : World} {A : Around}
abbrev NoE : Value → Shared → Prop := fun _ _ => False
/-- a loop's rule: G what a turn does behind its tests -/
def LoopRule (prog : Program) (w : World) (A : Around) (en : Env) (e : Expr) (d : Nat) (acc : Value) (tg : Expr) (ifs : List Expr) (G : (Shared → Prop) → Shared → Prop) : Prop :=
  ∀ (it : Value) (R : Result → Shared → Prop) (I : Nat → Shared → Prop), (∀ n s, I n s → wpAny (model prog w) A (pyNext it) (fun r s1 => match r with
      | none => R (.ok .next) s1
      | some v => wpAny (model prog w) A (letOwnedTupleGo tg it v) (fun _ s2 => wpAny (model prog w) A (assign tg en v) (fun _ s3 =>
          wpAny (model prog w) A (testsOf ifs en) (fun ok s4 => if ok = true then G (fun s' => ∃ m, m < n ∧ I m s') s4 else ∃ m, m < n ∧ I m s4) NoE s3) NoE s2) NoE s1) NoE s) →
    ∀ n s, I n s → codeAny (model prog w) A (.compLoop e d it acc en) R s
def GMid (prog : Program) (w : World) (A : Around) (en : Env) (e : Expr) (d1 : Nat) (nx : Expr) (acc : Value) : (Shared → Prop) → Shared → Prop := fun Post s =>
  wpAny (model prog w) A (eval nx en) (fun x s1 => wpAny (model prog w) A (pyIter x) (fun j s2 => codeAny (model prog w) A (.compStart e d1 j acc en) (fun r s' => match r with
    | .ok _ => Post s'
    | .error _ => False) s2) NoE s1) NoE s
def GLast (prog : Program) (w : World) (A : Around) (en : Env) (elt : Expr) (acc : Value) : (Shared → Prop) → Shared → Prop := fun Post s =>
  wpAny (model prog w) A (eval elt en) (fun x s1 => wpAny (model prog w) A (call (.builtin "list.append") [acc, x]) (fun _ s2 => Post s2) NoE s1) NoE s
/-- the den of a loop is its turn, noted -/
def DenTurn (e : Expr) (d : Nat) (acc : Value) (en : Env) (go : Value → Sem Fin) : Prop := ∀ it, compTurn e d it acc en = go it
theorem rule_mid {e : Expr} {d d1 : Nat} {acc : Value} {en : Env} {tg src nx : Expr} {ifs : List Expr} (hq : ∀ it, (Code.compLoop e d it acc en).quiet = true) (hs : ∀ x, foldedSetIterable nx en x = pure x)
    (hu : ∀ it, A.under (.compLoop e d it acc en) = A) (hd : ∀ it, (model prog w).den (.compLoop e d it acc en) = (compTurn e d it acc en).onRaise (fun x => do noteFrame x en; theTreesLotGoes x))
    (ht : DenTurn e d acc en fun it => midGo e d d1 tg src ifs nx it acc en) : LoopRule prog w A en e d acc tg ifs (GMid prog w A en e d1 nx acc) := by
  intro it R I turn n s h
  refine codeAny_loop (hq it) I (fun n s hI => ?_) n h
  rw [hu it, hd it, ht it]
  refine wpAny_noted (wpAny_bind (wpAny_standAt (wpAny_bind (thnF (turn n s hI) fun r s1 h1 => ?_))))
  cases r with
  | none => exact wpAny_pure h1
  | some v =>
    refine wpAny_bind (thnF h1 fun _ s2 h2 => wpAny_bind (thnF h2 fun _ s3 h3 => wpAny_bind (thnF h3 fun ok s4 h4 => ?_)))
    cases ok with
    | false => exact wpAny_pure ⟨rfl, h4⟩
    | true =>
      refine wpAny_bind (thnF h4 fun x s5 h5 => wpAny_bind (wpAny_standAt (wpAny_bind (wpAny_of_eq (hs x) (wpAny_bind (wpAny_holding (thnF h5 fun j s6 h6 => wpAny_bind (wpAny_runOwn ?_))))))))
      rw [Around.mark_none]
      refine codeAny_mono h6 fun r s' hr => ?_
      cases r with
      | ok f => first
        | exact wpAny_pure ⟨rfl, hr⟩
        | exact wpAny_bind (wpAny_pure (wpAny_pure ⟨rfl, hr⟩))
      | error x => exact hr.elim
theorem rule_last {e : Expr} {d : Nat} {acc : Value} {en : Env} {tg src elt : Expr} {ifs : List Expr} (hq : ∀ it, (Code.compLoop e d it acc en).quiet = true)
    (hu : ∀ it, A.under (.compLoop e d it acc en) = A) (hd : ∀ it, (model prog w).den (.compLoop e d it acc en) = (compTurn e d it acc en).onRaise (fun x => do noteFrame x en; theTreesLotGoes x))
    (ht : DenTurn e d acc en fun it => lastGo e d tg src ifs elt it acc en) : LoopRule prog w A en e d acc tg ifs (GLast prog w A en elt acc) := by
  intro it R I turn n s h
  refine codeAny_loop (hq it) I (fun n s hI => ?_) n h
  rw [hu it, hd it, ht it]
  refine wpAny_noted (wpAny_bind (wpAny_standAt (wpAny_bind (thnF (turn n s hI) fun r s1 h1 => ?_))))
  cases r with
  | none => exact wpAny_pure h1
  | some v =>
    refine wpAny_bind (thnF h1 fun _ s2 h2 => wpAny_bind (thnF h2 fun _ s3 h3 => wpAny_bind (thnF h3 fun ok s4 h4 => ?_)))
    cases ok with
    | false => exact wpAny_pure ⟨rfl, h4⟩
    | true => exact wpAny_bind (wpAny_bind (thnF h4 fun x s5 h5 => wpAny_bind (thnF h5 fun _ s6 h6 => wpAny_pure (wpAny_pure ⟨rfl, h6⟩))))
/-- a start's rule -/
def StartRule (prog : Program) (w : World) (A : Around) (en : Env) (e : Expr) (d : Nat) (acc : Value) : Prop := ∀ (it : Value) (R : Result → Shared → Prop) (s : Shared), codeAny (model prog w) A (.compLoop e d it acc en) R s →
  wpAny (model prog w) A (pyIter it) (fun j s' => codeAny (model prog w) A (.compLoop e d j acc en) R s') NoE s → codeAny (model prog w) A (.compStart e d it acc en) R s
/-- what is done behind the tests, from slots σ; those of vs may have changed -/
def BodyOk (B : Cx) (G : (Shared → Prop) → Shared → Prop) (vs : List Nat) (tb : L2.St → Hp → (Hp → Prop) → Prop) : Prop := ∀ (pins : List (Addr × Obj)) (s : Shared) (σ : L2.St) (H : Hp) (Nx : Hp → Prop) (Post : Shared → Prop), Inv B pins σ H s → tb σ H Nx →
  (∀ s' H', Inv B pins (wipe σ vs) H' s' → Nx H' → Post s') → G Post s
def tEm (te : TE) (D : Addr) : L2.St → Hp → (Hp → Prop) → Prop := fun σ H Nx => te σ H fun y H1 => ∃ acc, H1 D = some (.lst acc) ∧ acc.length < sizeLine ∧ Nx (L2.upd H1 D (.lst (acc ++ [y])))
def tCl (wi : TI) (g : TG) (tt : TT) (tb : L2.St → Hp → (Hp → Prop) → Prop) (vs : List Nat) : L2.St → Hp → (Hp → Prop) → Prop := fun σ H Nx => wi σ H fun J H1 => ∃ W : Nat → Nat → Hp → Prop, (∃ m, W 0 m H1) ∧ ∀ j k H, W j k H →
  (J.stop j H ∧ Nx H) ∨ (J.go j H ∧ ∃ N1 : Hp → Prop, (∀ H', N1 H' → ∃ k', k' < k ∧ W (j + 1) k' H') ∧ ∀ x H', J.yld j H x H' → g x (wipe σ vs) H' fun σ2 H2 => wipe σ2 vs = wipe σ vs ∧ tt σ2 H2 fun b H3 => if b = true then tb σ2 H3 N1 else N1 H3)
theorem wipe_sub {σ : L2.St} {vs us : List Nat} (h : ∀ i ∈ us, i ∈ vs) {j : Nat} {v : V} (e : (wipe σ vs)[j]? = some (some v)) : (wipe σ us)[j]? = some (some v) := by
  obtain ⟨e1, e2⟩ := wipe_some e
  rw [wipe_out fun z => e2 (h j z)]
  exact e1
end
section
variable {B : Cx}
theorem body_last {elt : Expr} {te : TE} {D : Addr} (hx : B.xe = NoE) (he : PE B elt te) : BodyOk B (GLast B.prog B.w B.A B.env elt (.ref D)) [] (tEm te D) := by
  intro pins s σ H Nx Post I h k
  have z := he.run pins s σ H _ I h
  rw [hx] at z
  refine thnF z fun u s1 ⟨y, H1, I1, ry, acc, hD, hz, nx⟩ => app_ok (X := B) I1 hD hz ry fun s2 I2 => k s2 _ I2 nx
theorem body_mid {e : Expr} {d1 : Nat} {nx tg : Expr} {ifs : List Expr} {acc : Value} {G : (Shared → Prop) → Shared → Prop} {wi : TI} {g : TG} {tt : TT} {tb : L2.St → Hp → (Hp → Prop) → Prop} {vs us : List Nat} (hc : B.calm = true) (hx : B.xe = NoE)
    (L : LoopRule B.prog B.w B.A B.env e d1 acc tg ifs G) (S : StartRule B.prog B.w B.A B.env e d1 acc) (hb : BodyOk B G us tb) (hus : ∀ i ∈ us, i ∈ vs)
    (hi : PI B tg nx wi) (hg : PG B tg g) (ht : PTs B ifs tt) : BodyOk B (GMid B.prog B.w B.A B.env e d1 nx acc) vs (tCl wi g tt tb vs) := by
  intro pins s σ H Nx Post I h k
  have z := hi.run pins s σ H _ I h
  rw [hx] at z
  refine thnF z fun x s1 z1 => thnF z1 fun jv s2 ⟨it, fp, tn, J, H1, ej, I1, T, st1, f1, W, ⟨m0, w0⟩, turn⟩ => ?_
  subst ej
  have ok1 : ∀ {H' : Hp}, (∀ b ∈ fp, H' b = none) → ∀ b ∈ fp, FpOk B pins H' b := fun hn b hb => ⟨hn b hb, (f1 b hb).2⟩
  have loop : codeAny (model B.prog B.w) B.A (.compLoop e d1 (.ref it) acc B.env) (fun r s' => match r with
      | .ok _ => Post s'
      | .error _ => False) s2 := by
    refine L (.ref it) _ (fun n s' => ∃ j H', Inv B pins (wipe σ vs) H' s' ∧ tn j s'.heap ∧ (∀ b ∈ fp, H' b = none) ∧ W j n H') (fun n s3 ⟨j, H3, I3, st3, n3, w3⟩ => ?_) m0 s2 ⟨0, H1, I1.weak (wipe_length _ _) (fun j v e => (wipe_some e).1), st1, fun b hb => (f1 b hb).1, w0⟩
    rcases turn j n H3 w3 with ⟨stop, nx⟩ | ⟨go, N1, hN1, step⟩
    · refine thnF (T.done B rfl rfl rfl hc j _ s3 (wipe σ vs) H3 NoE I3 (ok1 n3) st3 stop) fun r s4 ⟨hr, I4⟩ => ?_
      subst hr
      exact k s4 H3 I4 nx
    · refine thnF (T.item B rfl rfl rfl hc j _ s3 (wipe σ vs) H3 NoE I3 (ok1 n3) st3 go) fun r s4 ⟨u, hr, z4⟩ => ?_
      subst hr
      refine thnF z4 fun _ s5 ⟨y, H5, I5, ry, yl, st5, n5⟩ => ?_
      have I5' := I5.pinned (ok1 n5) (T.obj _ _ st5)
      have zg := hg.run _ s5 (wipe σ vs) H5 y u _ I5' ry (step y H5 yl)
      rw [hx] at zg
      refine thnF zg fun _ s6 ⟨σ6, H6, I6, hw6, q6⟩ => ?_
      have zt := ht.run _ s6 σ6 H6 _ I6 q6
      rw [hx] at zt
      refine thnF zt fun b s7 ⟨H7, I7, q7⟩ => ?_
      have fin : ∀ {σ' : L2.St} {s' : Shared} {H' : Hp}, Inv B (pins ++ pinsAt fp s5.heap) σ' H' s' → (wipe σ vs).length = σ'.length → (∀ (j : Nat) v, (wipe σ vs)[j]? = some (some v) → σ'[j]? = some (some v)) → N1 H' →
          ∃ m, m < n ∧ ∃ j H', Inv B pins (wipe σ vs) H' s' ∧ tn j s'.heap ∧ (∀ b ∈ fp, H' b = none) ∧ W j m H' := fun {σ' s' H'} I' hl hk nx => by
        obtain ⟨m', hm, w'⟩ := hN1 H' nx
        have pin : ∀ b ∈ fp, ∀ o, s5.heap.get? b = some o → s'.heap.get? b = some o ∧ H' b = none := fun b hb o eo =>
          have q := I'.pin (b, o) (List.mem_append_right _ (List.mem_append_right _ (mem_pinsAt hb eo)))
          ⟨q.1, q.2.1⟩
        refine ⟨m', hm, j + 1, H', I'.unpinned.weak hl hk, T.keep _ _ _ st5 fun b hb o eo => (pin b hb o eo).1, fun b hb => ?_, w'⟩
        obtain ⟨o, eo, _⟩ := T.obj _ _ st5 b hb
        exact (pin b hb o eo).2
      have hl6 : (wipe σ vs).length = σ6.length := by rw [← hw6, wipe_length]
      cases b with
      | false => exact fin I7 hl6 (fun j v e => by rw [← hw6] at e; exact (wipe_some e).1) q7
      | true => exact hb _ s7 σ6 H7 N1 _ I7 q7 fun s' H' I' nx => fin I' (hl6.trans (wipe_length _ _).symm) (fun j v e => by rw [← hw6] at e; exact wipe_sub hus e) nx
  exact S _ _ _ loop (T.self B.A 0 _ _ _ st1 loop)
end
end DL

set_option maxHeartbeats 4000000
namespace DL
open PySem L2 Evl PySem.Spec PyProof.Rows
/-! ### the first for of several -/
section
variable {X : Cx}
def tLcN (wi : TI) (g : TG) (tt : TT) (tb : Addr → L2.St → Hp → (Hp → Prop) → Prop) (vs : List Nat) : TE := fun σ H Q => wi σ H fun J H1 => ∀ D, H1 D = none → ∃ W : Nat → Nat → Hp → Prop, (∃ m, W 0 m (L2.upd H1 D (.lst []))) ∧ ∀ i m H, W i m H →
  (J.stop i H ∧ Q (.ref D) H) ∨ (J.go i H ∧ ∃ N1 : Hp → Prop, (∀ H', N1 H' → ∃ k, k < m ∧ W (i + 1) k H') ∧ ∀ x H', J.yld i H x H' → g x (wipe σ vs) H' fun σ2 H2 => wipe σ2 vs = wipe σ vs ∧ tt σ2 H2 fun b H3 => if b = true then tb D σ2 H3 N1 else N1 H3)
/-- of a block: where it stands -/
abbrev BlkOf (X : Cx) (scope : Scope) (P : Cx → Prop) : Prop := ∀ (s : Shared) (H : Hp) (C : Addr) (cl : List (Str × Addr)) (fp : List Addr), P (X.blk s H scope (compEnvC scope cl C X.env) fp)
theorem lcN_core {pins : List (Addr × Obj)} {s : Shared} {σ : L2.St} {H : Hp} {Q : VK} {elt tg iter nx : Expr} {ifs : List Expr} {rest : List Comprehension} {scope : Scope} {own : List (Str × Nat)} {us : List Nat} {pos pos' : Pos} {wi : TI} {g : TG} {tt : TT}
    {tb : Addr → L2.St → Hp → (Hp → Prop) → Prop} {use : Option (Value → Sem Unit)} {Qf : Value → Shared → Prop} (hc : X.calm = true) (hN : X.N.Nodup) (I : Inv X pins σ H s) (hi : PI X tg iter wi) (ok : BlkOk X.N X.env.scope scope own) (hv : ∀ i ∈ us, i ∈ own.map (·.2))
    (hL : ∀ (en : Env) (acc : Value), LoopRule X.prog X.w X.A en (.ListComp elt (⟨tg, iter, ifs, 0⟩ :: rest) scope pos) 0 acc tg ifs (GMid X.prog X.w X.A en (.ListComp elt (⟨tg, iter, ifs, 0⟩ :: rest) scope pos) 1 nx acc))
    (hg : BlkOf X scope fun B => PG B tg g) (ht : BlkOf X scope fun B => PTs B ifs tt)
    (hb : BlkOf X scope fun B => ∀ D : Addr, BodyOk B (GMid X.prog X.w X.A B.env (.ListComp elt (⟨tg, iter, ifs, 0⟩ :: rest) scope pos) 1 nx (.ref D)) us (tb D)) (hs : ∀ x, foldedSetIterable iter X.env x = pure x) (h : tLcN wi g tt tb (own.map (·.2)) σ H Q)
    (hRR : ∀ D C s' m H', Inv X pins σ H' s' → Q (.ref D) H' → s'.heap.Ns C m → FpOk X pins H' C → compPost (model X.prog X.w) X.A X.xe use Qf (.ref D) C (.ok .next) s') :
    wpAny (model X.prog X.w) X.A (comprehension (.ListComp elt (⟨tg, iter, ifs, 0⟩ :: rest) scope pos) scope X.env pos' (newList []) false (eval iter X.env) use) Qf X.xe s := by
  generalize he : (Expr.ListComp elt (⟨tg, iter, ifs, 0⟩ :: rest) scope pos) = e at *
  have hcl : clausesOf e = ⟨tg, iter, ifs, 0⟩ :: rest := by rw [← he]; rfl
  have free : ∀ y ∈ scope.names, y.2 = .free → ∃ c, X.env.cells.lookup y.1 = some c := fun y hy q => (ok.free y hy q).elim (fun k => I.ok.has _ (.inl k)) fun k => I.ok.has _ (.inr k)
  refine wpAny_comprehension_free (use := use) hcl hs (closure_ok free) ok.kind (fun y hy q => by rw [ok.uniq y hy, q]) (thn (hi.run pins s σ H _ I h) fun xv s1 z1 => thn z1 fun itv s2 ⟨it, fp, tn, J, H2, ei, I2, T, st2, f2, q⟩ => ?_)
  subst ei
  refine wpAny_newObj_type (newEnv_comp ?_) (by show 0 ≤ sizeLine; decide)
  generalize hD : s2.heap.objs.size = D
  have nD : H2 D = none := I2.hok.fresh (Nat.le_of_eq hD)
  obtain ⟨W, ⟨m0, w0⟩, turn⟩ := q D nD
  generalize hs3 : ({ s2 with heap := s2.heap.push { cls := .type "list", data := .seq ([] : List Value).toArray } } : Shared) = s3
  have e3 : s3.heap = s2.heap.push { cls := .type "list", data := .seq ([] : List Value).toArray } := by rw [← hs3]
  generalize hH3 : L2.upd H2 D (.lst []) = H3 at w0
  have I3 : Inv X pins σ H3 s3 := by
    rw [← hs3, ← hH3]
    refine I2.laid (t' := s2.toks) (fun b o q => Heap.get?_push_of_some _ q) (Nat.le_of_eq hD) ⟨Nat.zero_le _, [], 0, .nil, ?_⟩
    rw [← hD]
    exact Heap.get?_push_size _ rfl
  have f3 : ∀ b ∈ fp, FpOk X pins H3 b ∧ b < s3.heap.objs.size := fun b hb => by
    obtain ⟨o, eo, _⟩ := T.obj _ _ st2 b hb
    have lt := Heap.lt_size eo
    refine ⟨⟨?_, (f2 b hb).2⟩, by rw [e3, Heap.size_push]; exact Nat.lt_succ_of_lt lt⟩
    rw [← hH3, upd_ne (by rw [← hD]; exact Nat.ne_of_lt lt)]
    exact (f2 b hb).1
  have st3 : tn 0 s3.heap := T.keep _ _ _ st2 fun b _ o q => by rw [e3]; exact Heap.get?_push_of_some _ q
  have I4 := block_start I3 ok hN f3
  have pg := hg s3 H3 s3.heap.objs.size (cellsFrom (s3.heap.objs.size + 1) scope.names (cloFrom X.env.cells scope.names [])) fp
  have pt := ht s3 H3 s3.heap.objs.size (cellsFrom (s3.heap.objs.size + 1) scope.names (cloFrom X.env.cells scope.names [])) fp
  have pb := hb s3 H3 s3.heap.objs.size (cellsFrom (s3.heap.objs.size + 1) scope.names (cloFrom X.env.cells scope.names [])) fp D
  have hL' := hL (compEnvC scope (cellsFrom (s3.heap.objs.size + 1) scope.names (cloFrom X.env.cells scope.names [])) s3.heap.objs.size X.env) (.ref D)
  show codeAny _ _ (.compStart e 0 (.ref it) (.ref D) (compEnvC scope (cellsFrom (s3.heap.objs.size + 1) scope.names (cloFrom X.env.cells scope.names [])) s3.heap.objs.size X.env)) (compPost (model X.prog X.w) X.A X.xe use Qf (.ref D) s3.heap.objs.size)
    { s3 with heap := pushCells (s3.heap.push { cls := .type "dict", data := .dict #[] }) scope.names }
  have eL : (compEnvC scope (cellsFrom (s3.heap.objs.size + 1) scope.names (cloFrom X.env.cells scope.names [])) s3.heap.objs.size X.env).locals = s3.heap.objs.size := rfl
  generalize compEnvC scope (cellsFrom (s3.heap.objs.size + 1) scope.names (cloFrom X.env.cells scope.names [])) s3.heap.objs.size X.env = ce at I4 pg pt pb hL' eL ⊢
  generalize hs4 : ({ s3 with heap := pushCells (s3.heap.push { cls := .type "dict", data := .dict #[] }) scope.names } : Shared) = s4 at I4 ⊢
  have st4 : tn 0 s4.heap := T.keep _ _ _ st3 fun b _ o q => by rw [← hs4]; exact pushCells_keeps _ _ _ _ (Heap.get?_push_of_some _ q)
  have mine : ∀ {σ' : L2.St} {H' : Hp} {s' : Shared}, Inv (X.blk s3 H3 scope ce fp) [] σ' H' s' → (∀ b ∈ fp, H' b = none) → ∀ b ∈ fp, FpOk (X.blk s3 H3 scope ce fp) [] H' b := fun {σ' H' s'} I' hn b hb =>
    ⟨hn b hb, (I'.ok.exf b hb).1, I'.ok.exfs b hb, .inl hb, fun x c q => (I'.ok.exf b hb).2 x c q, fun p hp => absurd (show p ∈ ([] : List (Addr × Obj)) ++ [] from hp) List.not_mem_nil⟩
  have loop : codeAny (model X.prog X.w) X.A (.compLoop e 0 (.ref it) (.ref D) ce) (compPost (model X.prog X.w) X.A X.xe use Qf (.ref D) s3.heap.objs.size) s4 := by
    refine hL' (.ref it) _ (fun n s' => ∃ i H', Inv (X.blk s3 H3 scope ce fp) [] (wipe σ (own.map (·.2))) H' s' ∧ tn i s'.heap ∧ (∀ b ∈ fp, H' b = none) ∧ W i n H') (fun n s5 ⟨i, H5, I5, st5, n5, w5⟩ => ?_) m0 s4 ⟨0, H3, I4, st4, fun b hb => (f3 b hb).1.1, w0⟩
    rcases turn i n H5 w5 with ⟨stop, qq⟩ | ⟨go, N1, hN1, step⟩
    · refine thnF (T.done (X.blk s3 H3 scope ce fp) rfl rfl rfl hc i [] s5 _ H5 NoE I5 (mine I5 n5) st5 stop) fun r s6 ⟨hr, I6⟩ => ?_
      subst hr
      have I7 : Inv X pins σ H5 s6 := I3.call' (ch := fp) I6.os I6.base I6.hok I6.bare fun b hb => have f := (f3 b hb).1.2; ⟨f.2.2.1, f.1, f.2.2.2.1, f.2.2.2.2⟩
      have nC : H5 s3.heap.objs.size = none := by rw [← eL]; exact I6.free
      obtain ⟨m, hn, _⟩ := I6.loc
      have hn : s6.heap.Ns ce.locals m := hn
      rw [eL] at hn
      exact hRR D s3.heap.objs.size s6 m H5 I7 qq hn (I3.fpOk (Nat.le_refl _) nC)
    · refine thnF (T.item (X.blk s3 H3 scope ce fp) rfl rfl rfl hc i [] s5 _ H5 NoE I5 (mine I5 n5) st5 go) fun r s6 ⟨u, hr, z6⟩ => ?_
      subst hr
      refine thnF z6 fun _ s7 ⟨x, H7, I7, rx, yl, st7, n7⟩ => ?_
      have I7' := I7.pinned (mine I7 n7) (T.obj _ _ st7)
      refine thnF (pg.run _ s7 _ H7 x u _ I7' rx (step x H7 yl)) fun _ s8 ⟨σ8, H8, I8, hw8, q8⟩ => ?_
      refine thnF (pt.run _ s8 σ8 H8 _ I8 q8) fun b s9 ⟨H9, I9, q9⟩ => ?_
      have fin : ∀ {σ' : L2.St} {s' : Shared} {H' : Hp}, Inv (X.blk s3 H3 scope ce fp) ([] ++ pinsAt fp s7.heap) σ' H' s' → (wipe σ (own.map (·.2))).length = σ'.length →
          (∀ (j : Nat) v, (wipe σ (own.map (·.2)))[j]? = some (some v) → σ'[j]? = some (some v)) → N1 H' → ∃ m, m < n ∧ ∃ i H', Inv (X.blk s3 H3 scope ce fp) [] (wipe σ (own.map (·.2))) H' s' ∧ tn i s'.heap ∧ (∀ b ∈ fp, H' b = none) ∧ W i m H' := fun {σ' s' H'} I' hl hk nx => by
        obtain ⟨m', hm, w'⟩ := hN1 H' nx
        have pin : ∀ b ∈ fp, ∀ o, s7.heap.get? b = some o → s'.heap.get? b = some o ∧ H' b = none := fun b hb o eo =>
          have q := I'.pin (b, o) (List.mem_append_right _ (List.mem_append_right _ (mem_pinsAt hb eo)))
          ⟨q.1, q.2.1⟩
        refine ⟨m', hm, i + 1, H', (I'.unpinned (pins := [])).weak hl hk, T.keep _ _ _ st7 fun b hb o eo => (pin b hb o eo).1, fun b hb => ?_, w'⟩
        obtain ⟨o, eo, _⟩ := T.obj _ _ st7 b hb
        exact (pin b hb o eo).2
      have hl8 : (wipe σ (own.map (·.2))).length = σ8.length := by rw [← hw8, wipe_length]
      cases b with
      | false => exact fin I9 hl8 (fun j v q => by rw [← hw8] at q; exact (wipe_some q).1) q9
      | true => exact pb _ s9 σ8 H9 N1 _ I9 q9 fun s' H' I' nx => fin I' (hl8.trans (wipe_length _ _).symm) (fun j v q => by rw [← hw8] at q; exact wipe_sub hv q) nx
  rw [← he] at loop ⊢
  exact codeAny_compStart_list loop (T.self X.A 0 _ _ _ st4 loop)
theorem pe_lcN {elt tg iter nx : Expr} {ifs : List Expr} {rest : List Comprehension} {scope : Scope} {own : List (Str × Nat)} {us : List Nat} {pos : Pos} {wi : TI} {g : TG} {tt : TT} {tb : Addr → L2.St → Hp → (Hp → Prop) → Prop}
    (hc : X.calm = true) (hN : X.N.Nodup) (hi : PI X tg iter wi) (ok : BlkOk X.N X.env.scope scope own) (hv : ∀ i ∈ us, i ∈ own.map (·.2))
    (hL : ∀ (en : Env) (acc : Value), LoopRule X.prog X.w X.A en (.ListComp elt (⟨tg, iter, ifs, 0⟩ :: rest) scope pos) 0 acc tg ifs (GMid X.prog X.w X.A en (.ListComp elt (⟨tg, iter, ifs, 0⟩ :: rest) scope pos) 1 nx acc))
    (hg : BlkOf X scope fun B => PG B tg g) (ht : BlkOf X scope fun B => PTs B ifs tt)
    (hb : BlkOf X scope fun B => ∀ D : Addr, BodyOk B (GMid X.prog X.w X.A B.env (.ListComp elt (⟨tg, iter, ifs, 0⟩ :: rest) scope pos) 1 nx (.ref D)) us (tb D)) (hs : ∀ x, foldedSetIterable iter X.env x = pure x) :
    PE X (.ListComp elt (⟨tg, iter, ifs, 0⟩ :: rest) scope pos) (tLcN wi g tt tb (own.map (·.2))) := by
  refine ⟨fun pins s σ H Q I h => ?_⟩
  rw [eval_ListComp]
  exact lcN_core hc hN I hi ok hv hL hg ht hb hs h fun D C s' m H' I' q hn ⟨f0, f1, f2, f3, f4, f5⟩ => ⟨m, hn, fun h'' sb => ⟨.ref D, H', I'.turned (t' := s'.toks) (fun b o hb eo => (sb.2 b hb).trans eo) f0 f1 f3 f4 f5, rfl, q⟩⟩
theorem ps_setLcN {i : Nat} {y : Str} {py : Pos} {elt tg iter nx : Expr} {ifs : List Expr} {rest : List Comprehension} {scope : Scope} {own : List (Str × Nat)} {us : List Nat} {pos spos : Pos} {wi : TI} {g : TG} {tt : TT} {tb : Addr → L2.St → Hp → (Hp → Prop) → Prop}
    (hc : X.calm = true) (hN : X.N.Nodup) (hy : X.N[i]? = some y) (hyl : X.env.scope.names.lookup y = some .local) (hsw : swapsWith (.ListComp elt (⟨tg, iter, ifs, 0⟩ :: rest) scope pos) (some (.Name y py)) spos.line X.env = pure true)
    (hi : PI X tg iter wi) (ok : BlkOk X.N X.env.scope scope own) (hv : ∀ i ∈ us, i ∈ own.map (·.2))
    (hL : ∀ (en : Env) (acc : Value), LoopRule X.prog X.w X.A en (.ListComp elt (⟨tg, iter, ifs, 0⟩ :: rest) scope pos) 0 acc tg ifs (GMid X.prog X.w X.A en (.ListComp elt (⟨tg, iter, ifs, 0⟩ :: rest) scope pos) 1 nx acc))
    (hg : BlkOf X scope fun B => PG B tg g) (ht : BlkOf X scope fun B => PTs B ifs tt)
    (hb : BlkOf X scope fun B => ∀ D : Addr, BodyOk B (GMid X.prog X.w X.A B.env (.ListComp elt (⟨tg, iter, ifs, 0⟩ :: rest) scope pos) 1 nx (.ref D)) us (tb D)) (hs : ∀ x, foldedSetIterable iter X.env x = pure x) :
    PS X (.Assign [.Name y py] (.ListComp elt (⟨tg, iter, ifs, 0⟩ :: rest) scope pos) spos) (tAsg (tLcN wi g tt tb (own.map (·.2))) (gName i)) := by
  refine ⟨fun pins s σ H D I h => ?_⟩
  rw [exec_Assign_Name_used _ _ _ _ hsw]
  refine wpAny_bind (wpAny_standAt (wpAny_bind ?_))
  have h : tLcN wi g tt tb (own.map (·.2)) σ H (fun x H1 => gName i x σ H1 D.nx) := h
  show wpAny _ X.A (do
    let _ ← comprehension (.ListComp elt (⟨tg, iter, ifs, 0⟩ :: rest) scope pos) scope X.env
      (firstIterPos (⟨tg, iter, ifs, 0⟩ :: rest) pos) (newList []) false (eval iter X.env) (some (assign (.Name y py) X.env))) _ _ s
  refine wpAny_bind (thn (lcN_core (Qf := fun _ s' => SP X pins D .next s') hc hN I hi ok hv hL hg ht hb hs h fun L C s' m H' I' q hn ⟨f0, f1, f2, f3, f4, f5⟩ => ?_) fun _ s' hq => wpAny_pure (wpAny_pure hq))
  show wpAny _ _ (assign (.Name y py) X.env (.ref L)) _ _ _
  refine wpAny_assign_Name (store_ok2 (v := V.ref L) I' hN hy (.inl hyl) rfl (fun s2 I2 ⟨a, sb, ha⟩ => ?_) (.inr hyl))
  have nCa : C ≠ a := ha.elim (fun z => by rw [z]; exact f1) fun z q => f4 y a z q.symm
  exact ⟨m, hn.sameBut sb nCa, fun h3 sb3 => ⟨_, H', I2.turned (t' := s2.toks) (fun b o hb eo => (sb3.2 b hb).trans eo) f0 f1 f3 f4 f5, q⟩⟩
end
/-! ### three fors -/
section
variable {X : Cx} {elt tg iter tg1 iter1 tg2 iter2 : Expr} {ifs ifs1 ifs2 : List Expr} {scope : Scope} {pos : Pos}
abbrev lc3 (elt tg iter tg1 iter1 tg2 iter2 : Expr) (ifs ifs1 ifs2 : List Expr) (scope : Scope) (pos : Pos) : Expr := .ListComp elt [⟨tg, iter, ifs, 0⟩, ⟨tg1, iter1, ifs1, 0⟩, ⟨tg2, iter2, ifs2, 0⟩] scope pos
theorem lc3_0 {prog : Program} {w : World} {A : Around} (en : Env) (acc : Value) (hs : ∀ x, foldedSetIterable iter1 en x = pure x) :
    LoopRule prog w A en (lc3 elt tg iter tg1 iter1 tg2 iter2 ifs ifs1 ifs2 scope pos) 0 acc tg ifs (GMid prog w A en (lc3 elt tg iter tg1 iter1 tg2 iter2 ifs ifs1 ifs2 scope pos) 1 iter1 acc) :=
  rule_mid (src := iter) (fun _ => rfl) hs (fun _ => rfl) (fun _ => rfl) fun _ => by rfl
theorem lc3_1 {prog : Program} {w : World} {A : Around} (en : Env) (acc : Value) (hs : ∀ x, foldedSetIterable iter2 en x = pure x) :
    LoopRule prog w A en (lc3 elt tg iter tg1 iter1 tg2 iter2 ifs ifs1 ifs2 scope pos) 1 acc tg1 ifs1 (GMid prog w A en (lc3 elt tg iter tg1 iter1 tg2 iter2 ifs ifs1 ifs2 scope pos) 2 iter2 acc) :=
  rule_mid (src := iter1) (fun _ => rfl) hs (fun _ => rfl) (fun _ => rfl) fun _ => by rfl
theorem lc3_2 {prog : Program} {w : World} {A : Around} (en : Env) (acc : Value) :
    LoopRule prog w A en (lc3 elt tg iter tg1 iter1 tg2 iter2 ifs ifs1 ifs2 scope pos) 2 acc tg2 ifs2 (GLast prog w A en elt acc) :=
  rule_last (src := iter2) (fun _ => rfl) (fun _ => rfl) (fun _ => rfl) fun _ => by rfl
theorem start_of {prog : Program} {w : World} {A : Around} {en : Env} {e : Expr} {d : Nat} {acc : Value} {c : Comprehension} (hcl : (clausesOf e)[d]? = some c) (ha : (c.is_async != 0) = false) (hu : ∀ it, A.under (.compStart e d it acc en) = A) (hq : ∀ it, (Code.compLoop e d it acc en).quiet = true)
    (hd : ∀ it, (model prog w).den (.compStart e d it acc en) = (compStart e d it acc en).onRaise (fun x => do noteFrame x en; standAt theWindowsPlace)) : StartRule prog w A en e d acc := by
  intro it R s h0 h
  refine codeAny_of_tree ?_
  rw [hu it, hd it]
  refine wpAny_notedAt ?_
  unfold compStart
  simp only [hcl, Option.elim_some, ha, Bool.false_eq_true, if_false, pure_bind]
  refine wpAny_bind (wpAny_askSetting ?_)
  split
  · first
      | exact wpAny_bind (wpAny_pure (wpAny_pure (And.intro (hq it) h0)))
      | exact wpAny_pure (And.intro (hq it) h0)
  · exact wpAny_bind (wpAny_rule (wpAny_bind (wpAny_standAt (wpAny_bind (thnF h fun j s' z => wpAny_pure (And.intro (hq j) z))))))
/-- [elt for .. for .. for ..] -/
abbrev tLc3 (wi : TI) (g : TG) (tt : TT) (wi1 : TI) (g1 : TG) (tt1 : TT) (wi2 : TI) (g2 : TG) (tt2 : TT) (te : TE) (vs vs1 vs2 : List Nat) : TE :=
  tLcN wi g tt (fun D => tCl wi1 g1 tt1 (tCl wi2 g2 tt2 (tEm te D) vs2) vs1) vs
theorem body3 {own : List (Str × Nat)} {vs1 vs2 : List Nat} {wi1 wi2 : TI} {g1 g2 : TG} {tt1 tt2 : TT} {te : TE} (hc : X.calm = true) (h2 : ∀ i ∈ vs2, i ∈ vs1)
    (hi1 : BlkOf X scope fun B => PI B tg1 iter1 wi1) (hg1 : BlkOf X scope fun B => PG B tg1 g1) (ht1 : BlkOf X scope fun B => PTs B ifs1 tt1)
    (hi2 : BlkOf X scope fun B => PI B tg2 iter2 wi2) (hg2 : BlkOf X scope fun B => PG B tg2 g2) (ht2 : BlkOf X scope fun B => PTs B ifs2 tt2) (he : BlkOf X scope fun B => PE B elt te) (hs2 : ∀ en x, foldedSetIterable iter2 en x = pure x) :
    BlkOf X scope fun B => ∀ D : Addr, BodyOk B (GMid X.prog X.w X.A B.env (lc3 elt tg iter tg1 iter1 tg2 iter2 ifs ifs1 ifs2 scope pos) 1 iter1 (.ref D)) vs1 (tCl wi1 g1 tt1 (tCl wi2 g2 tt2 (tEm te D) vs2) vs1) := by
  intro s H C cl fp D
  have b2 := body_last (B := X.blk s H scope (compEnvC scope cl C X.env) fp) (D := D) rfl (he s H C cl fp)
  have b1 := body_mid (B := X.blk s H scope (compEnvC scope cl C X.env) fp) (e := lc3 elt tg iter tg1 iter1 tg2 iter2 ifs ifs1 ifs2 scope pos) (d1 := 2) (acc := .ref D) (us := []) (vs := vs2) hc rfl (lc3_2 _ _) (start_of (c := ⟨tg2, iter2, ifs2, 0⟩) rfl rfl (fun _ => rfl) (fun _ => rfl) fun _ => rfl) b2 (fun i h => absurd h List.not_mem_nil) (hi2 s H C cl fp) (hg2 s H C cl fp) (ht2 s H C cl fp)
  exact body_mid (B := X.blk s H scope (compEnvC scope cl C X.env) fp) (e := lc3 elt tg iter tg1 iter1 tg2 iter2 ifs ifs1 ifs2 scope pos) (d1 := 1) (acc := .ref D) hc rfl (lc3_1 _ _ (hs2 _)) (start_of (c := ⟨tg1, iter1, ifs1, 0⟩) rfl rfl (fun _ => rfl) (fun _ => rfl) fun _ => rfl) b1 h2 (hi1 s H C cl fp) (hg1 s H C cl fp) (ht1 s H C cl fp)
theorem ps_setLc3 {i : Nat} {y : Str} {py spos : Pos} {own : List (Str × Nat)} {vs1 vs2 : List Nat} {wi wi1 wi2 : TI} {g g1 g2 : TG} {tt tt1 tt2 : TT} {te : TE} (hc : X.calm = true) (hN : X.N.Nodup) (hy : X.N[i]? = some y) (hyl : X.env.scope.names.lookup y = some .local)
    (hsw : swapsWith (lc3 elt tg iter tg1 iter1 tg2 iter2 ifs ifs1 ifs2 scope pos) (some (.Name y py)) spos.line X.env = pure true) (hi : PI X tg iter wi) (ok : BlkOk X.N X.env.scope scope own) (h1 : ∀ i ∈ vs1, i ∈ own.map (·.2)) (h2 : ∀ i ∈ vs2, i ∈ vs1)
    (hg : BlkOf X scope fun B => PG B tg g) (ht : BlkOf X scope fun B => PTs B ifs tt)
    (hi1 : BlkOf X scope fun B => PI B tg1 iter1 wi1) (hg1 : BlkOf X scope fun B => PG B tg1 g1) (ht1 : BlkOf X scope fun B => PTs B ifs1 tt1)
    (hi2 : BlkOf X scope fun B => PI B tg2 iter2 wi2) (hg2 : BlkOf X scope fun B => PG B tg2 g2) (ht2 : BlkOf X scope fun B => PTs B ifs2 tt2) (he : BlkOf X scope fun B => PE B elt te)
    (hs : ∀ x, foldedSetIterable iter X.env x = pure x := by intro _; rfl) (hs1 : ∀ en x, foldedSetIterable iter1 en x = pure x := by intro _ _; rfl) (hs2 : ∀ en x, foldedSetIterable iter2 en x = pure x := by intro _ _; rfl) :
    PS X (.Assign [.Name y py] (lc3 elt tg iter tg1 iter1 tg2 iter2 ifs ifs1 ifs2 scope pos) spos) (tAsg (tLc3 wi g tt wi1 g1 tt1 wi2 g2 tt2 te (own.map (·.2)) vs1 vs2) (gName i)) :=
  ps_setLcN hc hN hy hyl hsw hi ok h1 (fun en acc => lc3_0 en acc (hs1 en)) hg ht (body3 (own := own) hc h2 hi1 hg1 ht1 hi2 hg2 ht2 he hs2) hs
end
end DL

set_option maxHeartbeats 4000000
namespace K4
open PySem L2 Evl DL
def top (i : Nat) : Stmt := PySem.Challenge.pw_leastkept_k04_whole_programs_judged.main.body.getD i (.Pass ⟨0, 0, 0, 0⟩)
abbrev s_wall : Stmt := top 0
abbrev s_is_whole : Stmt := top 9
abbrev s_is_number : Stmt := top 10
abbrev s_is_tuple_of : Stmt := top 11
abbrev s_is_short_tuple : Stmt := top 12
abbrev s_are_unlike : Stmt := top 13
abbrev s_is_one_of : Stmt := top 14
abbrev s_is_name : Stmt := top 15
abbrev s_is_atom : Stmt := top 16
-- class KeptError : top 18
-- class InvalidProgram : top 19
abbrev s_InvalidProgram_init : Stmt := inClass (top 19) 0
abbrev s_are_atoms : Stmt := top 29
abbrev s_are_params : Stmt := top 30
abbrev s_is_right_side : Stmt := top 31
abbrev s_is_statement : Stmt := top 32
abbrev s_is_end : Stmt := top 33
abbrev s_is_layer_body : Stmt := top 34
abbrev s_bodies_in : Stmt := top 35
abbrev s_is_body : Stmt := top 36
abbrev s_is_top : Stmt := top 37
-- class Point : top 38
abbrev s_Point_init : Stmt := inClass (top 38) 0
-- class Plan : top 39
abbrev s_Plan_init : Stmt := inClass (top 39) 0
abbrev s_Plan_add_block : Stmt := inClass (top 39) 1
abbrev s_Plan_behind : Stmt := inClass (top 39) 2
abbrev s_Plan_first_of : Stmt := inClass (top 39) 3
abbrev s_Plan_is_fun : Stmt := inClass (top 39) 4
abbrev s_is_fun_let : Stmt := top 40
abbrev s_atoms_of_right : Stmt := top 41
abbrev s_atoms_in : Stmt := top 42
abbrev s_bound_in : Stmt := top 43
abbrev s_names_bound : Stmt := top 44
-- class Scoping : top 45
abbrev s_Scoping_init : Stmt := inClass (top 45) 0
abbrev s_Scoping_see : Stmt := inClass (top 45) 1
abbrev s_Scoping_body : Stmt := inClass (top 45) 2
abbrev s_is_right_program : Stmt := top 46
abbrev s_top_names : Stmt := top 47
abbrev s_check_program : Stmt := top 49
abbrev s_is_program : Stmt := top 51
abbrev s_tops : Stmt := top 52
abbrev s_point_number : Stmt := top 53
abbrev s_law_pail : Stmt := top 55
abbrev s_law_deal : Stmt := top 56
abbrev s_law_any : Stmt := top 57
abbrev s_law_shuffled : Stmt := top 58
abbrev s_law_size : Stmt := top 59
abbrev s_law_drawn_right : Stmt := top 60
abbrev s_law_drawn_body : Stmt := top 61
abbrev s_law_program : Stmt := top 62
abbrev s_law_is : Stmt := top 63
abbrev s_law_points : Stmt := top 64
abbrev s_law_wrongs : Stmt := top 65
abbrev s_law_heads : Stmt := top 66
abbrev s_law_deep : Stmt := top 67
abbrev s_law_right : Stmt := top 68
abbrev s_law : Stmt := top 69
theorem scs_wall : FnScope ["k"] ["k"] (defScope s_wall) := ⟨rfl, rfl, rfl, by decide +kernel, rfl, by decide +kernel, by decide +kernel⟩
theorem scs_is_whole : FnScope ["value"] ["value"] (defScope s_is_whole) := ⟨rfl, rfl, rfl, by decide +kernel, rfl, by decide +kernel, by decide +kernel⟩
theorem scs_is_number : FnScope ["value", "low", "high"] ["value", "low", "high"] (defScope s_is_number) := ⟨rfl, rfl, rfl, by decide +kernel, rfl, by decide +kernel, by decide +kernel⟩
theorem scs_is_tuple_of : FnScope ["value", "many"] ["value", "many"] (defScope s_is_tuple_of) := ⟨rfl, rfl, rfl, by decide +kernel, rfl, by decide +kernel, by decide +kernel⟩
theorem scs_is_short_tuple : FnScope ["value", "low", "high"] ["value", "low", "high"] (defScope s_is_short_tuple) := ⟨rfl, rfl, rfl, by decide +kernel, rfl, by decide +kernel, by decide +kernel⟩
theorem scs_are_unlike : FnScope ["values", "index", "value"] ["values"] (defScope s_are_unlike) := ⟨rfl, rfl, rfl, by decide +kernel, rfl, by decide +kernel, by decide +kernel⟩
theorem scs_is_one_of : FnScope ["value", "some"] ["value", "some"] (defScope s_is_one_of) := ⟨rfl, rfl, rfl, by decide +kernel, rfl, by decide +kernel, by decide +kernel⟩
theorem scs_is_name : FnScope ["value", "sign"] ["value"] (defScope s_is_name) := ⟨rfl, rfl, rfl, by decide +kernel, rfl, by decide +kernel, by decide +kernel⟩
theorem scs_is_atom : FnScope ["value"] ["value"] (defScope s_is_atom) := ⟨rfl, rfl, rfl, by decide +kernel, rfl, by decide +kernel, by decide +kernel⟩
theorem scs_are_atoms : FnScope ["value", "each"] ["value"] (defScope s_are_atoms) := ⟨rfl, rfl, rfl, by decide +kernel, rfl, by decide +kernel, by decide +kernel⟩
theorem scs_are_params : FnScope ["value", "each"] ["value"] (defScope s_are_params) := ⟨rfl, rfl, rfl, by decide +kernel, rfl, by decide +kernel, by decide +kernel⟩
theorem scs_is_right_side : FnScope ["value", "each"] ["value"] (defScope s_is_right_side) := ⟨rfl, rfl, rfl, by decide +kernel, rfl, by decide +kernel, by decide +kernel⟩
theorem scs_is_statement : FnScope ["value"] ["value"] (defScope s_is_statement) := ⟨rfl, rfl, rfl, by decide +kernel, rfl, by decide +kernel, by decide +kernel⟩
theorem scs_is_end : FnScope ["value"] ["value"] (defScope s_is_end) := ⟨rfl, rfl, rfl, by decide +kernel, rfl, by decide +kernel, by decide +kernel⟩
theorem scs_is_layer_body : FnScope ["value", "each"] ["value"] (defScope s_is_layer_body) := ⟨rfl, rfl, rfl, by decide +kernel, rfl, by decide +kernel, by decide +kernel⟩
theorem scs_bodies_in : FnScope ["statement"] ["statement"] (defScope s_bodies_in) := ⟨rfl, rfl, rfl, by decide +kernel, rfl, by decide +kernel, by decide +kernel⟩
theorem scs_is_body : FnScope ["value", "layer", "_", "body", "statement", "inner"] ["value"] (defScope s_is_body) := ⟨rfl, rfl, rfl, by decide +kernel, rfl, by decide +kernel, by decide +kernel⟩
theorem scs_is_top : FnScope ["value"] ["value"] (defScope s_is_top) := ⟨rfl, rfl, rfl, by decide +kernel, rfl, by decide +kernel, by decide +kernel⟩
theorem scs_Point_init : FnScope ["self", "number", "statement", "top", "block", "place"] ["self", "number", "statement", "top", "block", "place"] (defScope s_Point_init) := ⟨rfl, rfl, rfl, by decide +kernel, rfl, by decide +kernel, by decide +kernel⟩
theorem scs_Plan_init : FnScope ["self", "program", "name", "_", "body", "params"] ["self", "program"] (defScope s_Plan_init) := ⟨rfl, rfl, rfl, by decide +kernel, rfl, by decide +kernel, by decide +kernel⟩
theorem scs_Plan_add_block : FnScope ["self", "top", "body", "fun", "number", "place", "statement", "point", "inner", "each"] ["self", "top", "body", "fun"] (defScope s_Plan_add_block) := ⟨rfl, rfl, rfl, by decide +kernel, rfl, by decide +kernel, by decide +kernel⟩
theorem scs_Plan_behind : FnScope ["self", "point"] ["self", "point"] (defScope s_Plan_behind) := ⟨rfl, rfl, rfl, by decide +kernel, rfl, by decide +kernel, by decide +kernel⟩
theorem scs_Plan_first_of : FnScope ["self", "block"] ["self", "block"] (defScope s_Plan_first_of) := ⟨rfl, rfl, rfl, by decide +kernel, rfl, by decide +kernel, by decide +kernel⟩
theorem scs_Plan_is_fun : FnScope ["self", "point"] ["self", "point"] (defScope s_Plan_is_fun) := ⟨rfl, rfl, rfl, by decide +kernel, rfl, by decide +kernel, by decide +kernel⟩
theorem scs_is_fun_let : FnScope ["statement"] ["statement"] (defScope s_is_fun_let) := ⟨rfl, rfl, rfl, by decide +kernel, rfl, by decide +kernel, by decide +kernel⟩
theorem scs_atoms_of_right : FnScope ["right"] ["right"] (defScope s_atoms_of_right) := ⟨rfl, rfl, rfl, by decide +kernel, rfl, by decide +kernel, by decide +kernel⟩
theorem scs_atoms_in : FnScope ["statement"] ["statement"] (defScope s_atoms_in) := ⟨rfl, rfl, rfl, by decide +kernel, rfl, by decide +kernel, by decide +kernel⟩
theorem scs_bound_in : FnScope ["statement"] ["statement"] (defScope s_bound_in) := ⟨rfl, rfl, rfl, by decide +kernel, rfl, by decide +kernel, by decide +kernel⟩
theorem scs_names_bound : FnScope ["plan", "top", "own", "point", "name"] ["plan", "top"] (defScope s_names_bound) := ⟨rfl, rfl, rfl, by decide +kernel, rfl, by decide +kernel, by decide +kernel⟩
theorem scs_Scoping_init : FnScope ["self", "tops"] ["self", "tops"] (defScope s_Scoping_init) := ⟨rfl, rfl, rfl, by decide +kernel, rfl, by decide +kernel, by decide +kernel⟩
theorem scs_Scoping_see : FnScope ["self", "names", "statement", "atom"] ["self", "names", "statement"] (defScope s_Scoping_see) := ⟨rfl, rfl, rfl, by decide +kernel, rfl, by decide +kernel, by decide +kernel⟩
theorem scs_Scoping_body : FnScope ["self", "names", "body", "funs", "ifs", "held", "statement", "inner"] ["self", "names", "body", "funs", "ifs"] (defScope s_Scoping_body) := ⟨rfl, rfl, rfl, by decide +kernel, rfl, by decide +kernel, by decide +kernel⟩
theorem scs_is_right_program : FnScope ["value", "tops", "scoping", "plan", "name", "params", "body", "names", "each", "_", "own"] ["value"] (defScope s_is_right_program) := ⟨rfl, rfl, rfl, by decide +kernel, rfl, by decide +kernel, by decide +kernel⟩
theorem scs_top_names : FnScope ["program", "name", "_"] ["program"] (defScope s_top_names) := ⟨rfl, rfl, rfl, by decide +kernel, rfl, by decide +kernel, by decide +kernel⟩
theorem scs_check_program : FnScope ["value"] ["value"] (defScope s_check_program) := ⟨rfl, rfl, rfl, by decide +kernel, rfl, by decide +kernel, by decide +kernel⟩
theorem scs_is_program : FnScope ["value"] ["value"] (defScope s_is_program) := ⟨rfl, rfl, rfl, by decide +kernel, rfl, by decide +kernel, by decide +kernel⟩
theorem scs_tops : FnScope ["program"] ["program"] (defScope s_tops) := ⟨rfl, rfl, rfl, by decide +kernel, rfl, by decide +kernel, by decide +kernel⟩
theorem scs_point_number : FnScope ["program"] ["program"] (defScope s_point_number) := ⟨rfl, rfl, rfl, by decide +kernel, rfl, by decide +kernel, by decide +kernel⟩
theorem scs_law_pail : FnScope ["script", "turn", "mixed", "cell", "own"] ["script", "turn"] (defScope s_law_pail) := ⟨rfl, rfl, rfl, by decide +kernel, rfl, by decide +kernel, by decide +kernel⟩
theorem scs_law_deal : FnScope ["pail", "top", "figure", "mixed"] ["pail", "top"] (defScope s_law_deal) := ⟨rfl, rfl, rfl, by decide +kernel, rfl, by decide +kernel, by decide +kernel⟩
theorem scs_law_any : FnScope ["pail", "some"] ["pail", "some"] (defScope s_law_any) := ⟨rfl, rfl, rfl, by decide +kernel, rfl, by decide +kernel, by decide +kernel⟩
theorem scs_law_shuffled : FnScope ["pail", "some", "left", "found", "turn"] ["pail", "some"] (defScope s_law_shuffled) := ⟨rfl, rfl, rfl, by decide +kernel, rfl, by decide +kernel, by decide +kernel⟩
theorem scs_law_size : FnScope ["body", "total", "each"] ["body"] (defScope s_law_size) := ⟨rfl, rfl, rfl, by decide +kernel, rfl, by decide +kernel, by decide +kernel⟩
theorem scs_law_drawn_right : FnScope ["pail", "box", "scope", "deep", "sort", "some", "one", "two", "params", "k", "body", "called"] ["pail", "box", "scope", "deep"] (defScope s_law_drawn_right) := ⟨rfl, rfl, rfl, by decide +kernel, rfl, by decide +kernel, by decide +kernel⟩
theorem scs_law_drawn_body : FnScope ["pail", "box", "scope", "deep", "most", "found", "turn", "right", "name", "sort", "some", "arms", "called", "k"] ["pail", "box", "scope", "deep", "most"] (defScope s_law_drawn_body) := ⟨rfl, rfl, rfl, by decide +kernel, rfl, by decide +kernel, by decide +kernel⟩
theorem scs_law_program : FnScope ["pail", "box", "made", "name", "params", "step", "loop", "body"] ["pail"] (defScope s_law_program) := ⟨rfl, rfl, rfl, by decide +kernel, rfl, by decide +kernel, by decide +kernel⟩
theorem scs_law_is : FnScope ["had", "due"] ["had", "due"] (defScope s_law_is) := ⟨rfl, rfl, rfl, by decide +kernel, rfl, by decide +kernel, by decide +kernel⟩
theorem scs_law_points : FnScope ["body", "found", "each", "inner", "own"] ["body"] (defScope s_law_points) := ⟨rfl, rfl, rfl, by decide +kernel, rfl, by decide +kernel, by decide +kernel⟩
theorem scs_law_wrongs : FnScope ["give", "some", "rights", "right", "name"] [] (defScope s_law_wrongs) := ⟨rfl, rfl, rfl, by decide +kernel, rfl, by decide +kernel, by decide +kernel⟩
theorem scs_law_heads : FnScope ["program", "end", "found", "rest", "own"] ["program"] (defScope s_law_heads) := ⟨rfl, rfl, rfl, by decide +kernel, rfl, by decide +kernel, by decide +kernel⟩
theorem scs_law_deep : FnScope ["many", "word", "body", "lap", "name"] ["many", "word"] (defScope s_law_deep) := ⟨rfl, rfl, rfl, by decide +kernel, rfl, by decide +kernel, by decide +kernel⟩
theorem scs_law_right : FnScope ["pail", "program", "some", "had", "spot", "name", "params", "body", "wrong", "at", "other", "lets", "end", "cases", "own", "k", "due"] ["pail"] (defScope s_law_right) := ⟨rfl, rfl, rfl, by decide +kernel, rfl, by decide +kernel, by decide +kernel⟩
theorem scs_law : FnScope ["script", "turn"] ["script"] (defScope s_law) := ⟨rfl, rfl, rfl, by decide +kernel, rfl, by decide +kernel, by decide +kernel⟩
structure Txt (K : PySem.W.Frag) (mg : Str → Option Value) : Prop where
  d_wall : DefAt K mg "_wall" s_wall
  c_MOST : ConstAt mg "MOST" (.int 2147483647)
  c_MOST_SIGNS : ConstAt mg "MOST_SIGNS" (.int 8)
  c_MAIN : ConstAt mg "MAIN" (.str "main")
  c_LETTERS : ConstAt mg "LETTERS" (.str "abcdefghijklmnopqrstuvwxyz")
  c_FIGURES : ConstAt mg "FIGURES" (.str "0123456789")
  c_WORDS : TupAt K mg "WORDS" [.str "def", .str "else", .str "fun", .str "give", .str "if", .str "left", .str "pair", .str "paired", .str "right", .str "say"]
  c_OPS : TupAt K mg "OPS" [.str "+", .str "-", .str "*", .str "<", .str "="]
  d_is_whole : DefAt K mg "is_whole" s_is_whole
  d_is_number : DefDf K mg "is_number" s_is_number [V.non]
  d_is_tuple_of : DefAt K mg "is_tuple_of" s_is_tuple_of
  d_is_short_tuple : DefAt K mg "is_short_tuple" s_is_short_tuple
  d_are_unlike : DefAt K mg "are_unlike" s_are_unlike
  d_is_one_of : DefAt K mg "is_one_of" s_is_one_of
  d_is_name : DefAt K mg "is_name" s_is_name
  d_is_atom : DefAt K mg "is_atom" s_is_atom
  c_MOST_TOPS : ConstAt mg "MOST_TOPS" (.int 8)
  c_MOST_PARAMS : ConstAt mg "MOST_PARAMS" (.int 4)
  c_MOST_STATEMENTS : ConstAt mg "MOST_STATEMENTS" (.int 120)
  c_MOST_FUNS : ConstAt mg "MOST_FUNS" (.int 3)
  c_MOST_IFS : ConstAt mg "MOST_IFS" (.int 6)
  c_MOST_LAYERS : ConstAt mg "MOST_LAYERS" (.int 10)
  t_RIGHT_LONG : TabI K mg "RIGHT_LONG" [("atom", 2), ("pair", 3), ("left", 2), ("right", 2), ("paired", 2), ("fun", 3), ("call", 3)]
  c_ENDS : TupAt K mg "ENDS" [.str "give", .str "tail", .str "if"]
  d_are_atoms : DefAt K mg "are_atoms" s_are_atoms
  d_are_params : DefAt K mg "are_params" s_are_params
  d_is_right_side : DefAt K mg "is_right_side" s_is_right_side
  d_is_statement : DefAt K mg "is_statement" s_is_statement
  d_is_end : DefAt K mg "is_end" s_is_end
  d_is_layer_body : DefAt K mg "is_layer_body" s_is_layer_body
  d_bodies_in : DefAt K mg "bodies_in" s_bodies_in
  d_is_body : DefAt K mg "is_body" s_is_body
  d_is_top : DefAt K mg "is_top" s_is_top
  k_Point : ClsAt K mg "Point" ["number", "statement", "top", "block", "place", "blocks", "fun"]
  i_Point : IniAt K mg "Point" "Point.__init__" s_Point_init
  k_Plan : ClsAt K mg "Plan" ["tops", "params", "points", "blocks", "firsts"]
  i_Plan : IniAt K mg "Plan" "Plan.__init__" s_Plan_init
  m_Plan_add_block : MetAt K mg "Plan" "add_block" "Plan.add_block" s_Plan_add_block
  k_Scoping : ClsAt K mg "Scoping" ["tops", "is_right"]
  i_Scoping : IniAt K mg "Scoping" "Scoping.__init__" s_Scoping_init
  m_Scoping_see : MetAt K mg "Scoping" "see" "Scoping.see" s_Scoping_see
  m_Scoping_body : MetAt K mg "Scoping" "body" "Scoping.body" s_Scoping_body
  d_is_fun_let : DefAt K mg "is_fun_let" s_is_fun_let
  d_atoms_of_right : DefAt K mg "atoms_of_right" s_atoms_of_right
  d_atoms_in : DefAt K mg "atoms_in" s_atoms_in
  d_bound_in : DefAt K mg "bound_in" s_bound_in
  d_names_bound : DefAt K mg "names_bound" s_names_bound
  d_is_right_program : DefAt K mg "is_right_program" s_is_right_program
  d_top_names : DefAt K mg "top_names" s_top_names
  d_check_program : DefAt K mg "check_program" s_check_program
  d_is_program : DefAt K mg "is_program" s_is_program
  d_tops : DefAt K mg "tops" s_tops
  d_point_number : DefAt K mg "point_number" s_point_number
  d_law_pail : DefAt K mg "_law_pail" s_law_pail
  d_law_deal : DefAt K mg "_law_deal" s_law_deal
  d_law_any : DefAt K mg "_law_any" s_law_any
  d_law_shuffled : DefAt K mg "_law_shuffled" s_law_shuffled
  d_law_size : DefAt K mg "_law_size" s_law_size
  d_law_drawn_right : DefAt K mg "_law_drawn_right" s_law_drawn_right
  d_law_drawn_body : DefAt K mg "_law_drawn_body" s_law_drawn_body
  d_law_program : DefAt K mg "_law_program" s_law_program
  d_law_is : DefAt K mg "_law_is" s_law_is
  d_law_points : DefAt K mg "_law_points" s_law_points
  d_law_wrongs : DefAt K mg "_law_wrongs" s_law_wrongs
  d_law_heads : DefAt K mg "_law_heads" s_law_heads
  d_law_deep : DefAt K mg "_law_deep" s_law_deep
  d_law_right : DefAt K mg "_law_right" s_law_right
  d_law : DefAt K mg "law" s_law
  b_abs : mg "abs" = none
  b_all : mg "all" = none
  b_any : mg "any" = none
  b_bool : mg "bool" = none
  b_divmod : mg "divmod" = none
  b_enumerate : mg "enumerate" = none
  b_int : mg "int" = none
  b_isinstance : mg "isinstance" = none
  b_len : mg "len" = none
  b_list : mg "list" = none
  b_max : mg "max" = none
  b_min : mg "min" = none
  b_range : mg "range" = none
  b_repr : mg "repr" = none
  b_str : mg "str" = none
  b_sum : mg "sum" = none
  b_super : mg "super" = none
  b_tuple : mg "tuple" = none
end K4

set_option maxHeartbeats 4000000
namespace DL
open PySem L2 Evl PySem.Spec PyProof.Rows
/-! ### what the head looks at -/
/-- what is told of the class's object -/
def oexB (K : PySem.W.Frag) (C : Addr) : Bool := match K.lookup C with
  | some ⟨.type "type", _, .cls cd, sl⟩ => (match cd.mro, sl.toList with
    | .ref C1 :: bm, [_, _, _, _, some (.builtin n), _] => (C1 == C) && ((n == "ValueError.__new__") && ((!cd.hasDel) && (cd.hasDict && HandSPX.refsVE bm)))
    | _, _ => false)
  | _ => false
/-- its __init__ as an object: all but addresses -/
abbrev IniV : Type := Option (Str × Str × Arguments × FuncBody × Scope × Addr × List Str × Addr)
def iniObs (K : PySem.W.Frag) (x : Str) : IniV := match K.lookup (He.ma K (He.ga K x) "__init__") with
  | some ⟨_, _, .func fd, _⟩ => some (fd.name, fd.qualname, fd.params, fd.body, fd.scope, fd.globals, fd.closure.map (·.1), fd.builtins)
  | _ => none
def codeB (file : Str) (K : PySem.W.Frag) (C fI : Addr) : Bool := match K.lookup fI with
  | some ⟨_, _, .func fd, _⟩ => (match fd.code, fd.closure, fd.defaults with
    | .ref cda, [(_, cc)], .none => PySem.W.codeIn K (.ref cda) fd.qualname && ((match K.lookup cda with
        | some ⟨_, _, .fields vs, _⟩ => (match (vs[2]? : Option Value) with
          | some (.str f _) => f == file
          | _ => false)
        | _ => false) && (match K.lookup cc with
        | some ⟨_, _, .cell (some (.ref D)), _⟩ => D == C
        | _ => false))
    | _, _, _ => false)
  | _ => false
def errB (file : Str) (fld : Str) (K : PySem.W.Frag) (x : Str) : Bool :=
  let C := He.ga K x
  let fI := He.ma K C "__init__"
  oexB K C && (He.eqO (PySem.W.findIn K (.ref C) "__setattr__") (some (some (.builtin "object.__setattr__"))) && (decide (PySem.W.subIn K (.ref C) (.type "BaseException") = some true) && (decide (PySem.W.typeIn K (.ref C) = some (.type "type")) && (PySem.W.keepIn K (.ref C) &&
    (He.eqO (PySem.W.findIn K (.ref C) "__init__") (some (some (.ref fI))) && (decide (PySem.W.typeIn K (.ref fI) = some (.type "function")) && (He.eqO (PySem.W.findIn K (.ref C) fld) (some none) && (decide (PySem.W.mroIn K C (.ref C) = some true) &&
    (He.eqO (PySem.W.ks_superIn K C C "__init__") (some (some (.builtin "ValueError.__init__"))) && (decide (PySem.W.subIn K (.ref C) (.type "ValueError") = some true) && (xfB K C && (decide (PySem.W.exmOne K (.ref C) (.ref C) = some true) &&
    ((PySem.W.clsIn K C).isSome && (He.eqO (PySem.W.nsIn K PySem.cStatics "thirdparty.any") (some none) && codeB file K C fI))))))))))))))
abbrev AlX : Type := He.AlD × Bool × IniV
def frX (n : Nat) (g : Addr → Option Obj) : PySem.W.Frag := He.frG g (PySem.cStatics :: He.asD g n)
def obsX (n : Nat) (fa : List He.Fa) (fn : List He.DefD) (chk : PySem.W.Frag → Bool) (x : Str) (g : Addr → Option Obj) : AlX := (He.obsD fa fn (frX n g), chk (frX n g), iniObs (frX n g) x)
def SaysX (fa : List He.Fa) (fn : List He.DefD) (chk : PySem.W.Frag → Bool) (x : Str) (v : IniV) (K : PySem.W.Frag) : Prop := He.SaysD fa fn K ∧ chk K = true ∧ iniObs K x = v
def hookX (n : Nat) (fa : List He.Fa) (fn : List He.DefD) (chk : PySem.W.Frag → Bool) (x : Str) (v : IniV) : PySem.W.Hook where
  α := AlX
  obs := fun s => obsX n fa fn chk x s.heap.get?
  val := fun _ => (He.valD fn, true, v)
  says := fun _ h => ∃ K : PySem.W.Frag, K.In h ∧ SaysX fa fn chk x v K
  of := fun _ _ e => ⟨_, He.frG_in, congrArg (fun z : AlX => z.1) e, congrArg (fun z : AlX => z.2.1) e, congrArg (fun z : AlX => z.2.2) e⟩
  keeps := fun _ _ _ ⟨K, hK, c⟩ k => ⟨K, PySem.W.Frag.In.keeps hK k, c⟩
theorem obsX_eq {n : Nat} {fa : List He.Fa} {fn : List He.DefD} {chk : PySem.W.Frag → Bool} {x : Str} {v : IniV} {g : Addr → Option Obj} {s : Shared} (h : ∀ a, g a = s.heap.get? a) : obsX n fa fn chk x g = (hookX n fa fn chk x v).obs s := by
  have e : g = s.heap.get? := funext h
  subst e
  rfl
end DL

set_option maxHeartbeats 4000000
namespace DL
open PySem L2 Evl PySem.Spec PyProof.Rows
/-! ### what the head looks at, with the __init__ of each of some error classes -/
abbrev AlY : Type := He.AlD × Bool × List IniV
def obsY (n : Nat) (fa : List He.Fa) (fn : List He.DefD) (chk : PySem.W.Frag → Bool) (xs : List Str) (g : Addr → Option Obj) : AlY := (He.obsD fa fn (frX n g), chk (frX n g), xs.map (iniObs (frX n g)))
def SaysY (fa : List He.Fa) (fn : List He.DefD) (chk : PySem.W.Frag → Bool) (xs : List Str) (vs : List IniV) (K : PySem.W.Frag) : Prop := He.SaysD fa fn K ∧ chk K = true ∧ xs.map (iniObs K) = vs
def hookY (n : Nat) (fa : List He.Fa) (fn : List He.DefD) (chk : PySem.W.Frag → Bool) (xs : List Str) (vs : List IniV) : PySem.W.Hook where
  α := AlY
  obs := fun s => obsY n fa fn chk xs s.heap.get?
  val := fun _ => (He.valD fn, true, vs)
  says := fun _ h => ∃ K : PySem.W.Frag, K.In h ∧ SaysY fa fn chk xs vs K
  of := fun _ _ e => ⟨_, He.frG_in, congrArg (fun z : AlY => z.1) e, congrArg (fun z : AlY => z.2.1) e, congrArg (fun z : AlY => z.2.2) e⟩
  keeps := fun _ _ _ ⟨K, hK, c⟩ k => ⟨K, PySem.W.Frag.In.keeps hK k, c⟩
theorem obsY_eq {n : Nat} {fa : List He.Fa} {fn : List He.DefD} {chk : PySem.W.Frag → Bool} {xs : List Str} {vs : List IniV} {g : Addr → Option Obj} {s : Shared} (h : ∀ a, g a = s.heap.get? a) : obsY n fa fn chk xs g = (hookY n fa fn chk xs vs).obs s := by
  have e : g = s.heap.get? := funext h
  subst e
  rfl
theorem SaysY.fact {fa : List He.Fa} {fn : List He.DefD} {chk : PySem.W.Frag → Bool} {xs : List Str} {vs : List IniV} {K : PySem.W.Frag} (c : SaysY fa fn chk xs vs K) (i : Nat) {f : He.Fa} (h : fa[i]? = some f := by rfl) : f.ok K = true := He.SaysD.fact c.1 i h
theorem SaysY.def_ {fa : List He.Fa} {fn : List He.DefD} {chk : PySem.W.Frag → Bool} {xs : List Str} {vs : List IniV} {K : PySem.W.Frag} (c : SaysY fa fn chk xs vs K) (i : Nat) {d : He.DefD} (h : fn[i]? = some d := by rfl) : ∃ fd, L2.FunD K d.name d.qual d.params d.body d.scope (d.dvs K) (d.kws K) (He.fAd K d.at_) fd := He.SaysD.def_ c.1 i h
theorem SaysY.ini {fa : List He.Fa} {fn : List He.DefD} {chk : PySem.W.Frag → Bool} {xs : List Str} {vs : List IniV} {K : PySem.W.Frag} (c : SaysY fa fn chk xs vs K) (i : Nat) {x : Str} {v : IniV} (h : xs[i]? = some x := by rfl) (hv : vs[i]? = some v := by rfl) : iniObs K x = v := by
  have e : (xs.map (iniObs K))[i]? = vs[i]? := by rw [c.2.2]
  rw [List.getElem?_map, h, hv] at e
  exact Option.some.inj e
/-- conjuncts of a check -/
def allB (K : PySem.W.Frag) : List (PySem.W.Frag → Bool) → Bool
  | [] => true
  | f :: r => f K && allB K r
theorem allB_at {K : PySem.W.Frag} : ∀ {l : List (PySem.W.Frag → Bool)} (i : Nat) {f : PySem.W.Frag → Bool}, allB K l = true → l[i]? = some f → f K = true
  | _ :: _, 0, _, h, e => by
    cases e
    exact (Bool.and_eq_true_iff.mp h).1
  | _ :: r, i + 1, _, h, e => allB_at (l := r) i (Bool.and_eq_true_iff.mp h).2 e
  | [], _, _, _, e => by cases e
end DL

set_option maxHeartbeats 0
namespace K4
open PySem L2 Evl DL PySem.Spec PyProof.Rows
def fn : List He.DefD := [
  ⟨("_wall", none), "_wall", "_wall", defArgs s_wall, defBody s_wall, defScope s_wall, [], []⟩,
  ⟨("is_whole", none), "is_whole", "is_whole", defArgs s_is_whole, defBody s_is_whole, defScope s_is_whole, [], []⟩,
  ⟨("is_number", none), "is_number", "is_number", defArgs s_is_number, defBody s_is_number, defScope s_is_number, [.non], []⟩,
  ⟨("is_tuple_of", none), "is_tuple_of", "is_tuple_of", defArgs s_is_tuple_of, defBody s_is_tuple_of, defScope s_is_tuple_of, [], []⟩,
  ⟨("is_short_tuple", none), "is_short_tuple", "is_short_tuple", defArgs s_is_short_tuple, defBody s_is_short_tuple, defScope s_is_short_tuple, [], []⟩,
  ⟨("are_unlike", none), "are_unlike", "are_unlike", defArgs s_are_unlike, defBody s_are_unlike, defScope s_are_unlike, [], []⟩,
  ⟨("is_one_of", none), "is_one_of", "is_one_of", defArgs s_is_one_of, defBody s_is_one_of, defScope s_is_one_of, [], []⟩,
  ⟨("is_name", none), "is_name", "is_name", defArgs s_is_name, defBody s_is_name, defScope s_is_name, [], []⟩,
  ⟨("is_atom", none), "is_atom", "is_atom", defArgs s_is_atom, defBody s_is_atom, defScope s_is_atom, [], []⟩,
  ⟨("are_atoms", none), "are_atoms", "are_atoms", defArgs s_are_atoms, defBody s_are_atoms, defScope s_are_atoms, [], []⟩,
  ⟨("are_params", none), "are_params", "are_params", defArgs s_are_params, defBody s_are_params, defScope s_are_params, [], []⟩,
  ⟨("is_right_side", none), "is_right_side", "is_right_side", defArgs s_is_right_side, defBody s_is_right_side, defScope s_is_right_side, [], []⟩,
  ⟨("is_statement", none), "is_statement", "is_statement", defArgs s_is_statement, defBody s_is_statement, defScope s_is_statement, [], []⟩,
  ⟨("is_end", none), "is_end", "is_end", defArgs s_is_end, defBody s_is_end, defScope s_is_end, [], []⟩,
  ⟨("is_layer_body", none), "is_layer_body", "is_layer_body", defArgs s_is_layer_body, defBody s_is_layer_body, defScope s_is_layer_body, [], []⟩,
  ⟨("bodies_in", none), "bodies_in", "bodies_in", defArgs s_bodies_in, defBody s_bodies_in, defScope s_bodies_in, [], []⟩,
  ⟨("is_body", none), "is_body", "is_body", defArgs s_is_body, defBody s_is_body, defScope s_is_body, [], []⟩,
  ⟨("is_top", none), "is_top", "is_top", defArgs s_is_top, defBody s_is_top, defScope s_is_top, [], []⟩,
  ⟨("Point", some "__init__"), "__init__", "Point.__init__", defArgs s_Point_init, defBody s_Point_init, defScope s_Point_init, [], []⟩,
  ⟨("Plan", some "__init__"), "__init__", "Plan.__init__", defArgs s_Plan_init, defBody s_Plan_init, defScope s_Plan_init, [], []⟩,
  ⟨("Plan", some "add_block"), "add_block", "Plan.add_block", defArgs s_Plan_add_block, defBody s_Plan_add_block, defScope s_Plan_add_block, [], []⟩,
  ⟨("Scoping", some "__init__"), "__init__", "Scoping.__init__", defArgs s_Scoping_init, defBody s_Scoping_init, defScope s_Scoping_init, [], []⟩,
  ⟨("Scoping", some "see"), "see", "Scoping.see", defArgs s_Scoping_see, defBody s_Scoping_see, defScope s_Scoping_see, [], []⟩,
  ⟨("Scoping", some "body"), "body", "Scoping.body", defArgs s_Scoping_body, defBody s_Scoping_body, defScope s_Scoping_body, [], []⟩,
  ⟨("is_fun_let", none), "is_fun_let", "is_fun_let", defArgs s_is_fun_let, defBody s_is_fun_let, defScope s_is_fun_let, [], []⟩,
  ⟨("atoms_of_right", none), "atoms_of_right", "atoms_of_right", defArgs s_atoms_of_right, defBody s_atoms_of_right, defScope s_atoms_of_right, [], []⟩,
  ⟨("atoms_in", none), "atoms_in", "atoms_in", defArgs s_atoms_in, defBody s_atoms_in, defScope s_atoms_in, [], []⟩,
  ⟨("bound_in", none), "bound_in", "bound_in", defArgs s_bound_in, defBody s_bound_in, defScope s_bound_in, [], []⟩,
  ⟨("names_bound", none), "names_bound", "names_bound", defArgs s_names_bound, defBody s_names_bound, defScope s_names_bound, [], []⟩,
  ⟨("is_right_program", none), "is_right_program", "is_right_program", defArgs s_is_right_program, defBody s_is_right_program, defScope s_is_right_program, [], []⟩,
  ⟨("top_names", none), "top_names", "top_names", defArgs s_top_names, defBody s_top_names, defScope s_top_names, [], []⟩,
  ⟨("check_program", none), "check_program", "check_program", defArgs s_check_program, defBody s_check_program, defScope s_check_program, [], []⟩,
  ⟨("is_program", none), "is_program", "is_program", defArgs s_is_program, defBody s_is_program, defScope s_is_program, [], []⟩,
  ⟨("tops", none), "tops", "tops", defArgs s_tops, defBody s_tops, defScope s_tops, [], []⟩,
  ⟨("point_number", none), "point_number", "point_number", defArgs s_point_number, defBody s_point_number, defScope s_point_number, [], []⟩,
  ⟨("_law_pail", none), "_law_pail", "_law_pail", defArgs s_law_pail, defBody s_law_pail, defScope s_law_pail, [], []⟩,
  ⟨("_law_deal", none), "_law_deal", "_law_deal", defArgs s_law_deal, defBody s_law_deal, defScope s_law_deal, [], []⟩,
  ⟨("_law_any", none), "_law_any", "_law_any", defArgs s_law_any, defBody s_law_any, defScope s_law_any, [], []⟩,
  ⟨("_law_shuffled", none), "_law_shuffled", "_law_shuffled", defArgs s_law_shuffled, defBody s_law_shuffled, defScope s_law_shuffled, [], []⟩,
  ⟨("_law_size", none), "_law_size", "_law_size", defArgs s_law_size, defBody s_law_size, defScope s_law_size, [], []⟩,
  ⟨("_law_drawn_right", none), "_law_drawn_right", "_law_drawn_right", defArgs s_law_drawn_right, defBody s_law_drawn_right, defScope s_law_drawn_right, [], []⟩,
  ⟨("_law_drawn_body", none), "_law_drawn_body", "_law_drawn_body", defArgs s_law_drawn_body, defBody s_law_drawn_body, defScope s_law_drawn_body, [], []⟩,
  ⟨("_law_program", none), "_law_program", "_law_program", defArgs s_law_program, defBody s_law_program, defScope s_law_program, [], []⟩,
  ⟨("_law_is", none), "_law_is", "_law_is", defArgs s_law_is, defBody s_law_is, defScope s_law_is, [], []⟩,
  ⟨("_law_points", none), "_law_points", "_law_points", defArgs s_law_points, defBody s_law_points, defScope s_law_points, [], []⟩,
  ⟨("_law_wrongs", none), "_law_wrongs", "_law_wrongs", defArgs s_law_wrongs, defBody s_law_wrongs, defScope s_law_wrongs, [], []⟩,
  ⟨("_law_heads", none), "_law_heads", "_law_heads", defArgs s_law_heads, defBody s_law_heads, defScope s_law_heads, [], []⟩,
  ⟨("_law_deep", none), "_law_deep", "_law_deep", defArgs s_law_deep, defBody s_law_deep, defScope s_law_deep, [], []⟩,
  ⟨("_law_right", none), "_law_right", "_law_right", defArgs s_law_right, defBody s_law_right, defScope s_law_right, [], []⟩,
  ⟨("law", none), "law", "law", defArgs s_law, defBody s_law, defScope s_law, [], []⟩]
def fa : List He.Fa := [
  .glo "_wall",
  .int "MOST" (2147483647),
  .int "MOST_SIGNS" (8),
  .str "MAIN" "main",
  .str "LETTERS" "abcdefghijklmnopqrstuvwxyz",
  .str "FIGURES" "0123456789",
  .glo "WORDS",
  .glo "OPS",
  .glo "is_whole",
  .glo "is_number",
  .glo "is_tuple_of",
  .glo "is_short_tuple",
  .glo "are_unlike",
  .glo "is_one_of",
  .glo "is_name",
  .glo "is_atom",
  .int "MOST_TOPS" (8),
  .int "MOST_PARAMS" (4),
  .int "MOST_STATEMENTS" (120),
  .int "MOST_FUNS" (3),
  .int "MOST_IFS" (6),
  .int "MOST_LAYERS" (10),
  .glo "RIGHT_LONG",
  .glo "ENDS",
  .glo "are_atoms",
  .glo "are_params",
  .glo "is_right_side",
  .glo "is_statement",
  .glo "is_end",
  .glo "is_layer_body",
  .glo "bodies_in",
  .glo "is_body",
  .glo "is_top",
  .cls "Point",
  .glo "Point",
  .mkr "Point",
  .cls "Plan",
  .glo "Plan",
  .mkr "Plan",
  .meth "Plan" "add_block",
  .cls "Scoping",
  .glo "Scoping",
  .mkr "Scoping",
  .meth "Scoping" "see",
  .meth "Scoping" "body",
  .glo "is_fun_let",
  .glo "atoms_of_right",
  .glo "atoms_in",
  .glo "bound_in",
  .glo "names_bound",
  .glo "is_right_program",
  .glo "top_names",
  .glo "check_program",
  .glo "is_program",
  .glo "tops",
  .glo "point_number",
  .glo "_law_pail",
  .glo "_law_deal",
  .glo "_law_any",
  .glo "_law_shuffled",
  .glo "_law_size",
  .glo "_law_drawn_right",
  .glo "_law_drawn_body",
  .glo "_law_program",
  .glo "_law_is",
  .glo "_law_points",
  .glo "_law_wrongs",
  .glo "_law_heads",
  .glo "_law_deep",
  .glo "_law_right",
  .glo "law",
  .free "abs",
  .free "all",
  .free "any",
  .free "bool",
  .free "divmod",
  .free "enumerate",
  .free "int",
  .free "isinstance",
  .free "len",
  .free "list",
  .free "max",
  .free "min",
  .free "range",
  .free "repr",
  .free "str",
  .free "sum",
  .free "super",
  .free "tuple"]
def chk (K : PySem.W.Frag) : Bool := allB K [
  fun K => He.tupB K "WORDS" [.str "def", .str "else", .str "fun", .str "give", .str "if", .str "left", .str "pair", .str "paired", .str "right", .str "say"],
  fun K => He.tupB K "OPS" [.str "+", .str "-", .str "*", .str "<", .str "="],
  fun K => tabB K "RIGHT_LONG" [("atom", 2), ("pair", 3), ("left", 2), ("right", 2), ("paired", 2), ("fun", 3), ("call", 3)],
  fun K => He.tupB K "ENDS" [.str "give", .str "tail", .str "if"],
  fun K => (["number", "statement", "top", "block", "place", "blocks", "fun"] : List Str).all fun f => (He.Fa.noat "Point" f).ok K,
  fun K => (["tops", "params", "points", "blocks", "firsts"] : List Str).all fun f => (He.Fa.noat "Plan" f).ok K,
  fun K => (["tops", "is_right"] : List Str).all fun f => (He.Fa.noat "Scoping" f).ok K]
def ers : List Str := []
def iniV : List IniV := []
abbrev R : PySem.W.OpenRow := PySem.W.OpenLaw.row PySem.Challenge.rw_leastkept_k04_whole_programs_judged
abbrev hk : PySem.W.Hook := hookY 5 fa fn chk ers iniV
def ob (s : PySem.W.SharedT) : AlY := obsY 5 fa fn chk ers (HandSHeadRun.getT s)
theorem ob_eq (s : PySem.W.SharedT) : ob s = hk.obs s.abs := obsY_eq (HandSHeadRun.getT_eq s)
def loose : List Str := [("_wall" : Str), ("MOST" : Str), ("MOST_SIGNS" : Str), ("MAIN" : Str), ("LETTERS" : Str), ("FIGURES" : Str), ("WORDS" : Str), ("OPS" : Str), ("is_whole" : Str), ("is_number" : Str), ("is_tuple_of" : Str), ("is_short_tuple" : Str), ("are_unlike" : Str), ("is_one_of" : Str), ("is_name" : Str), ("is_atom" : Str), ("KeptError" : Str), ("InvalidProgram" : Str), ("MOST_TOPS" : Str), ("MOST_PARAMS" : Str), ("MOST_STATEMENTS" : Str), ("MOST_FUNS" : Str), ("MOST_IFS" : Str), ("MOST_LAYERS" : Str), ("RIGHT_LONG" : Str), ("ENDS" : Str), ("are_atoms" : Str), ("are_params" : Str), ("is_right_side" : Str), ("is_statement" : Str), ("is_end" : Str), ("is_layer_body" : Str), ("bodies_in" : Str), ("is_body" : Str), ("is_top" : Str), ("Point" : Str), ("Plan" : Str), ("is_fun_let" : Str), ("atoms_of_right" : Str), ("atoms_in" : Str), ("bound_in" : Str), ("names_bound" : Str), ("Scoping" : Str), ("is_right_program" : Str), ("top_names" : Str), ("check_program" : Str), ("is_program" : Str), ("tops" : Str), ("point_number" : Str), ("_law_pail" : Str), ("_law_deal" : Str), ("_law_any" : Str), ("_law_shuffled" : Str), ("_law_size" : Str), ("_law_drawn_right" : Str), ("_law_drawn_body" : Str), ("_law_program" : Str), ("_law_is" : Str), ("_law_points" : Str), ("_law_wrongs" : Str), ("_law_heads" : Str), ("_law_deep" : Str), ("_law_right" : Str)]
theorem run_f (w : World) : HandSHeadRun.RunEq R (PySem.W.view R.prog [69]) hk ob 12000 loose (w.withFollow "special-get-raises" false) := by
  intro os
  kernel_rfl
theorem run_t (w : World) : HandSHeadRun.RunEq R (PySem.W.view R.prog [69]) hk ob 12000 loose (w.withFollow "special-get-raises" true) := by
  intro os
  kernel_rfl
theorem run (w : World) : HandSHeadRun.RunEq R (PySem.W.view R.prog [69]) hk ob 12000 loose w := PySem.W.byRow2 "special-get-raises" (P := fun w => HandSHeadRun.RunEq R (PySem.W.view R.prog [69]) hk ob 12000 loose w) run_f run_t w
end K4

set_option maxHeartbeats 0
namespace K4
open PySem PySem.W PySem.Calls PyProof.Rows
abbrev qL : Program := view R.prog [69]
abbrev dL : DefRec := HandSHeadRun.topDef R.prog 69
theorem h_open : opening R.prog = plainProg R.prog.main.scope.names := by kernel_rfl
theorem h_fence : ∀ s, fenceModules? R.prog s = some s := fun s => by kernel_rfl
theorem h_def : defOf qL R.name = some (dL, []) := by kernel_rfl
theorem h_the : R.prog.theDef R.name = some (dL.params, dL.body, dL.scope) := by kernel_rfl
theorem h_kw : kwWritten? dL.params.kwonlyargs dL.params.kw_defaults = some [] := by kernel_rfl
theorem h_ok : (chainsOk qL && opensWell R.prog && (frees R.toRowW && R.within.isEmpty)) = true := by decide +kernel
theorem h_bare : R.prog.bare := ⟨rfl, rfl, rfl, rfl, rfl, by decide +kernel⟩
theorem h_said : R.wellSaid = true := by decide +kernel
theorem h_wit : R.toRowW.promised := by w_witness2
theorem h_name : dL.name = ("law" : PySem.Str) := by kernel_rfl
theorem h_dfl : dL.params.defaults = [] := by kernel_rfl
theorem h_room : L2.Room 19 callerA := ⟨rfl, by decide, by decide⟩
theorem holds_of (c : WalkO qL loose (XL qL []) hk.says R.toRowW dL [] fun f vs => PySem.call f vs) : PySem.Challenge.rw_leastkept_k04_whole_programs_judged.Holds := by
  w_on; o_law
  exact HandSHeadRun.head_any (r := R) (q := qL) (H := hk) (ob := ob) (M := 12000) (loose := loose) (d := dL) (kwd := []) ob_eq h_open h_fence run h_def h_the h_kw (by rfl) h_said h_ok h_bare h_wit c
end K4

set_option maxHeartbeats 4000000
namespace PG
open PySem L2 Evl DL TL
/-! ### programs as data -/
inductive At where
  | num (n : Int)
  | nm (x : Str)
  deriving DecidableEq
def At.enc : At → PyData
  | .num n => .int n
  | .nm x => .str x
mutual
/-- a right side: (w, a, b); (w, a); a call; a fun -/
inductive Rt where
  | two (w : Str) (a b : At)
  | one (w : Str) (a : At)
  | call (f : At) (xs : List At)
  | fn (ps : List Str) (b : Bd)
/-- a body -/
inductive Bd where
  | give (a : At)
  | tail (f : At) (xs : List At)
  | cond (a : At) (b c : Bd)
  | lets (x : Str) (r : Rt) (rest : Bd)
  | says (a : At) (rest : Bd)
end
mutual
def Rt.enc : Rt → PyData
  | .two w a b => .tuple [.str w, a.enc, b.enc]
  | .one w a => .tuple [.str w, a.enc]
  | .call f xs => .tuple [.str "call", f.enc, .tuple (xs.map At.enc)]
  | .fn ps b => .tuple [.str "fun", .tuple (ps.map PyData.str), .tuple b.encs]
def Bd.encs : Bd → List PyData
  | .give a => [.tuple [.str "give", a.enc]]
  | .tail f xs => [.tuple [.str "tail", f.enc, .tuple (xs.map At.enc)]]
  | .cond a b c => [.tuple [.str "if", a.enc, .tuple b.encs, .tuple c.encs]]
  | .lets x r rest => .tuple [.str "let", .str x, r.enc] :: rest.encs
  | .says a rest => .tuple [.str "say", a.enc] :: rest.encs
end
mutual
/-- how many points -/
def Rt.size : Rt → Nat
  | .fn _ b => b.size
  | _ => 0
def Bd.size : Bd → Nat
  | .give _ => 1
  | .tail _ _ => 1
  | .cond _ b c => 1 + b.size + c.size
  | .lets _ r rest => 1 + r.size + rest.size
  | .says _ rest => 1 + rest.size
end
theorem Bd.size_pos : ∀ b : Bd, 0 < b.size
  | .give _ => by simp [Bd.size]
  | .tail _ _ => by simp [Bd.size]
  | .cond _ b c => by simp only [Bd.size]; omega
  | .lets _ r rest => by simp only [Bd.size]; omega
  | .says _ rest => by simp only [Bd.size]; omega
theorem Bd.encs_len : ∀ b : Bd, b.encs.length ≤ b.size ∧ 0 < b.encs.length
  | .give _ => by simp [Bd.size, Bd.encs]
  | .tail _ _ => by simp [Bd.size, Bd.encs]
  | .cond _ b c => by simp only [Bd.size, Bd.encs, List.length_singleton]; omega
  | .lets _ r rest => by
    have h := Bd.encs_len rest
    simp only [Bd.size, Bd.encs, List.length_cons]; omega
  | .says _ rest => by
    have h := Bd.encs_len rest
    simp only [Bd.size, Bd.encs, List.length_cons]; omega
mutual
/-- how deep bodies stand -/
def Rt.deep : Rt → Nat
  | .fn _ b => b.deep
  | _ => 0
def Bd.deep : Bd → Nat
  | .give _ => 1
  | .tail _ _ => 1
  | .cond _ b c => 1 + max b.deep c.deep
  | .lets _ r rest => max (1 + r.deep) rest.deep
  | .says _ rest => rest.deep
end
theorem Bd.deep_pos : ∀ b : Bd, 0 < b.deep
  | .give _ => by simp [Bd.deep]
  | .tail _ _ => by simp [Bd.deep]
  | .cond _ b c => by simp only [Bd.deep]; omega
  | .lets _ r rest => by simp only [Bd.deep]; omega
  | .says _ rest => by simp only [Bd.deep]; exact Bd.deep_pos rest
/-! ### drawn names -/
def nmK (c : Str) (k : Nat) : Str := c ++ Str.ofString (toString (k : Int))
theorem tl_nmK (c : Str) (k : Nat) : tl (nmK c k) = tl c ++ numL k := by
  unfold nmK
  rw [tl_append, tl_num]
def nN (k : Nat) : Str := nmK "n" k
def nP (k : Nat) : Str := nmK "p" k
theorem tl_nN (k : Nat) : tl (nN k) = 110 :: numL k := tl_nmK "n" k
theorem tl_nP (k : Nat) : tl (nP k) = 112 :: numL k := tl_nmK "p" k
theorem nN_inj {a b : Nat} (h : nN a = nN b) : a = b := by
  have e := congrArg tl h
  rw [tl_nN, tl_nN] at e
  exact numL_inj (List.cons.inj e).2
theorem nP_inj {a b : Nat} (h : nP a = nP b) : a = b := by
  have e := congrArg tl h
  rw [tl_nP, tl_nP] at e
  exact numL_inj (List.cons.inj e).2
theorem nN_ne_nP {a b : Nat} : nN a ≠ nP b := fun h => by
  have e := congrArg tl h
  rw [tl_nN, tl_nP] at e
  exact absurd (List.cons.inj e).1 (by decide)
def nPs (k n : Nat) : List Str := (List.range n).map fun i => nP (k + 1 + i)
/-! ### what is drawn -/
def okA (sc : List Str) : At → Prop
  | .num n => 0 ≤ n ∧ n ≤ 7
  | .nm x => x ∈ sc
def okF (sc : List Str) : At → Prop
  | .num _ => False
  | .nm x => x = "g" ∨ x = "h" ∨ x ∈ sc
def wOps : List Str := ["+", "-", "*", "<", "="]
def wSides : List Str := ["left", "right", "paired"]
def wTwo : List Str := wOps ++ (["pair"] : List Str)
def wOne : List Str := wSides ++ (["atom"] : List Str)
mutual
/-- a drawn right side: names in scope, the box ahead, funs so deep; the box behind -/
def okR (sc : List Str) (bx dp : Nat) : Rt → Nat → Prop
  | .two w a b, bx' => bx' = bx ∧ w ∈ wTwo ∧ okA sc a ∧ okA sc b
  | .one w a, bx' => bx' = bx ∧ w ∈ wOne ∧ okA sc a
  | .call f xs, bx' => bx' = bx ∧ okF sc f ∧ xs.length ≤ 2 ∧ ∀ a ∈ xs, okA sc a
  | .fn ps b, bx' => ∃ n dq, n ≤ 2 ∧ dp = dq + 1 ∧ ps = nPs bx n ∧ okB (sc ++ ps) (bx + n) dq 1 4 b bx'
/-- a drawn body: most ifs in one another, so many statements at most -/
def okB (sc : List Str) (bx dp mo st : Nat) : Bd → Nat → Prop
  | .give a, bx' => bx' = bx ∧ okA sc a
  | .tail f xs, bx' => bx' = bx ∧ okF sc f ∧ ∃ a, xs = [a] ∧ okA sc a
  | .cond a b c, bx' => okA sc a ∧ ∃ mq b1, mo = mq + 1 ∧ okB sc bx dp mq 4 b b1 ∧ okB sc b1 dp mq 4 c bx'
  | .lets x r rest, bx' => ∃ sq b1, st = sq + 1 ∧ okR sc bx dp r b1 ∧ x = nN (b1 + 1) ∧ okB (sc ++ [x]) (b1 + 1) dp mo sq rest bx'
  | .says a rest, bx' => ∃ sq, st = sq + 1 ∧ okA sc a ∧ okB sc bx dp mo sq rest bx'
end
section
variable {sc : List Str} {bx dp mo st : Nat}
theorem okR_two {w : Str} {a b : At} (h : w ∈ wTwo) (ha : okA sc a) (hb : okA sc b) : okR sc bx dp (.two w a b) bx := by unfold okR; exact ⟨rfl, h, ha, hb⟩
theorem okR_one {w : Str} {a : At} (h : w ∈ wOne) (ha : okA sc a) : okR sc bx dp (.one w a) bx := by unfold okR; exact ⟨rfl, h, ha⟩
theorem okR_call {f : At} {xs : List At} (hf : okF sc f) (hl : xs.length ≤ 2) (hx : ∀ a ∈ xs, okA sc a) : okR sc bx dp (.call f xs) bx := by unfold okR; exact ⟨rfl, hf, hl, hx⟩
theorem okR_fn {n bx' : Nat} {b : Bd} (hn : n ≤ 2) (h : okB (sc ++ nPs bx n) (bx + n) dp 1 4 b bx') : okR sc bx (dp + 1) (.fn (nPs bx n) b) bx' := by unfold okR; exact ⟨n, dp, hn, rfl, rfl, h⟩
theorem okB_give {a : At} (ha : okA sc a) : okB sc bx dp mo st (.give a) bx := by unfold okB; exact ⟨rfl, ha⟩
theorem okB_tail {f a : At} (hf : okF sc f) (ha : okA sc a) : okB sc bx dp mo st (.tail f [a]) bx := by unfold okB; exact ⟨rfl, hf, a, rfl, ha⟩
theorem okB_cond {a : At} {b c : Bd} {b1 bx' : Nat} (ha : okA sc a) (hb : okB sc bx dp mo 4 b b1) (hc : okB sc b1 dp mo 4 c bx') : okB sc bx dp (mo + 1) st (.cond a b c) bx' := by unfold okB; exact ⟨ha, mo, b1, rfl, hb, hc⟩
theorem okB_lets {r : Rt} {rest : Bd} {b1 bx' : Nat} (hr : okR sc bx dp r b1) (h : okB (sc ++ [nN (b1 + 1)]) (b1 + 1) dp mo st rest bx') : okB sc bx dp mo (st + 1) (.lets (nN (b1 + 1)) r rest) bx' := by unfold okB; exact ⟨st, b1, rfl, hr, rfl, h⟩
theorem okB_says {a : At} {rest : Bd} {bx' : Nat} (ha : okA sc a) (h : okB sc bx dp mo st rest bx') : okB sc bx dp mo (st + 1) (.says a rest) bx' := by unfold okB; exact ⟨st, rfl, ha, h⟩
end
mutual
theorem okR_le {sc : List Str} {bx dp : Nat} : ∀ {r : Rt} {bx' : Nat}, okR sc bx dp r bx' → bx ≤ bx' ∧ bx' ≤ bx + 3 * r.size + 2
  | .two _ _ _, _, h => by simp only [okR] at h; have := h.1; omega
  | .one _ _, _, h => by simp only [okR] at h; have := h.1; omega
  | .call _ _, _, h => by simp only [okR] at h; have := h.1; omega
  | .fn ps b, _, h => by
    simp only [okR] at h
    obtain ⟨n, dq, hn, _, _, h⟩ := h
    have := okB_le h
    simp only [Rt.size]
    omega
theorem okB_le {sc : List Str} {bx dp mo st : Nat} : ∀ {b : Bd} {bx' : Nat}, okB sc bx dp mo st b bx' → bx ≤ bx' ∧ bx' ≤ bx + 3 * b.size
  | .give _, _, h => by simp only [okB] at h; simp only [Bd.size]; have := h.1; omega
  | .tail _ _, _, h => by simp only [okB] at h; simp only [Bd.size]; have := h.1; omega
  | .cond _ b c, _, h => by
    simp only [okB] at h
    obtain ⟨_, mq, b1, _, h1, h2⟩ := h
    have := okB_le h1
    have := okB_le h2
    simp only [Bd.size]
    omega
  | .lets _ r rest, _, h => by
    simp only [okB] at h
    obtain ⟨sq, b1, _, h1, _, h2⟩ := h
    have := okR_le h1
    have := okB_le h2
    simp only [Bd.size]
    omega
  | .says _ rest, _, h => by
    simp only [okB] at h
    obtain ⟨sq, _, _, h2⟩ := h
    have := okB_le h2
    simp only [Bd.size]
    omega
end
/-- the greatest sizes -/
def mxB : Nat → Nat → Nat
  | 0, 0 => 5
  | 0, m + 1 => 5 + 2 * mxB 0 m
  | d + 1, 0 => 5 + 4 * mxB d 1
  | d + 1, m + 1 => 5 + 4 * mxB d 1 + 2 * mxB (d + 1) m
def mxR : Nat → Nat
  | 0 => 0
  | d + 1 => mxB d 1
theorem mxB_eq (d m : Nat) : mxB d m = 5 + 4 * mxR d + (match m with | 0 => 0 | m + 1 => 2 * mxB d m) := by
  cases d <;> cases m <;> simp [mxB, mxR]
mutual
theorem okR_size {sc : List Str} {bx dp : Nat} : ∀ {r : Rt} {bx' : Nat}, okR sc bx dp r bx' → r.size ≤ mxR dp
  | .two _ _ _, _, h => by simp [Rt.size]
  | .one _ _, _, h => by simp [Rt.size]
  | .call _ _, _, h => by simp [Rt.size]
  | .fn ps b, _, h => by
    simp only [okR] at h
    obtain ⟨n, dq, hn, rfl, _, h⟩ := h
    have h2 := okB_size h
    have e := mxB_eq dq 1
    simp only [Rt.size, mxR]
    omega
theorem okB_size {sc : List Str} {bx dp mo st : Nat} : ∀ {b : Bd} {bx' : Nat}, okB sc bx dp mo st b bx' → b.size + 4 * (1 + mxR dp) ≤ mxB dp mo + st * (1 + mxR dp)
  | .give _, _, h => by
    have e := mxB_eq dp mo
    simp only [Bd.size]
    have : 0 ≤ st * (1 + mxR dp) := Nat.zero_le _
    omega
  | .tail _ _, _, h => by
    have e := mxB_eq dp mo
    simp only [Bd.size]
    have : 0 ≤ st * (1 + mxR dp) := Nat.zero_le _
    omega
  | .cond _ b c, _, h => by
    simp only [okB] at h
    obtain ⟨_, mq, b1, rfl, h1, h2⟩ := h
    have h1 := okB_size h1
    have h2 := okB_size h2
    have e := mxB_eq dp (mq + 1)
    simp only at e
    simp only [Bd.size]
    have : 0 ≤ st * (1 + mxR dp) := Nat.zero_le _
    omega
  | .lets _ r rest, _, h => by
    simp only [okB] at h
    obtain ⟨sq, b1, rfl, h1, _, h2⟩ := h
    have h1 := okR_size h1
    have h2 := okB_size h2
    simp only [Bd.size]
    have e : (sq + 1) * (1 + mxR dp) = sq * (1 + mxR dp) + (1 + mxR dp) := Nat.succ_mul _ _
    omega
  | .says _ rest, _, h => by
    simp only [okB] at h
    obtain ⟨sq, rfl, _, h2⟩ := h
    have h2 := okB_size h2
    simp only [Bd.size]
    have e : (sq + 1) * (1 + mxR dp) = sq * (1 + mxR dp) + (1 + mxR dp) := Nat.succ_mul _ _
    omega
end
mutual
theorem okR_deep {sc : List Str} {bx dp : Nat} : ∀ {r : Rt} {bx' : Nat}, okR sc bx dp r bx' → r.deep ≤ 2 * dp
  | .two _ _ _, _, h => by simp [Rt.deep]
  | .one _ _, _, h => by simp [Rt.deep]
  | .call _ _, _, h => by simp [Rt.deep]
  | .fn ps b, _, h => by
    simp only [okR] at h
    obtain ⟨n, dq, hn, rfl, _, h⟩ := h
    have h2 := okB_deep h
    simp only [Rt.deep]
    omega
theorem okB_deep {sc : List Str} {bx dp mo st : Nat} : ∀ {b : Bd} {bx' : Nat}, okB sc bx dp mo st b bx' → b.deep ≤ 1 + mo + 2 * dp
  | .give _, _, h => by simp only [Bd.deep]; omega
  | .tail _ _, _, h => by simp only [Bd.deep]; omega
  | .cond _ b c, _, h => by
    simp only [okB] at h
    obtain ⟨_, mq, b1, rfl, h1, h2⟩ := h
    have h1 := okB_deep h1
    have h2 := okB_deep h2
    simp only [Bd.deep]
    omega
  | .lets _ r rest, _, h => by
    simp only [okB] at h
    obtain ⟨sq, b1, rfl, h1, _, h2⟩ := h
    have h1 := okR_deep h1
    have h2 := okB_deep h2
    simp only [Bd.deep]
    omega
  | .says _ rest, _, h => by
    simp only [okB] at h
    obtain ⟨sq, rfl, _, h2⟩ := h
    have h2 := okB_deep h2
    simp only [Bd.deep]
    omega
end
end PG

set_option maxHeartbeats 4000000
namespace PJ
open PySem L2 Evl DL TL PG
/-! ### data that may be judged -/
mutual
def wt : PyData → Nat
  | .str x => x.length + 1
  | .list l => wts l + 1
  | .tuple l => wts l + 1
  | _ => 1
def wts : List PyData → Nat
  | [] => 0
  | d :: r => wt d + wts r
end
def okd (d : PyData) : Bool := SeqAt.shaped d && decide (wt d ≤ 1000000)
theorem wts_mem : ∀ {l : List PyData} {d : PyData}, d ∈ l → wt d ≤ wts l
  | x :: l, d, h => by
    rcases List.mem_cons.mp h with rfl | h
    · simp only [wts]; omega
    · have := wts_mem h
      simp only [wts]; omega
theorem wt_pos (d : PyData) : 0 < wt d := by cases d <;> simp [wt]
theorem wts_len : ∀ l : List PyData, l.length ≤ wts l
  | [] => Nat.le_refl _
  | d :: r => by
    have h1 := wts_len r
    have h2 := wt_pos d
    simp only [wts, List.length_cons]; omega
theorem lay_mem : ∀ {l : List PyData} {d : PyData}, PyData.canLayAll0 l = true → d ∈ l → d.canLay0 = true
  | x :: l, d, h, hd => by
    rw [PyData.canLayAll0, Bool.and_eq_true] at h
    rcases List.mem_cons.mp hd with rfl | hd
    · exact h.1
    · exact lay_mem h.2 hd
theorem dep_mem : ∀ {l : List PyData} {d : PyData}, d ∈ l → d.depth ≤ PyData.depthAll l
  | x :: l, d, hd => by
    rw [PyData.depthAll]
    rcases List.mem_cons.mp hd with rfl | hd
    · omega
    · have := dep_mem hd; omega
theorem okd_iff {d : PyData} : okd d = true ↔ d.canLay0 = true ∧ d.depth ≤ 64 ∧ wt d ≤ 1000000 := by
  simp only [okd, SeqAt.shaped, Bool.and_eq_true, decide_eq_true_eq, and_assoc]
theorem okd_shaped {d : PyData} (h : okd d = true) : SeqAt.shaped d = true := (Bool.and_eq_true_iff.mp h).1
theorem okd_mem {l : List PyData} {d : PyData} (h : okd (.tuple l) = true) (hd : d ∈ l) : okd d = true := by
  rw [okd_iff] at h ⊢
  rw [PyData.canLay0, PyData.depth, wt] at h
  have h1 := wts_mem hd
  have h2 := dep_mem hd
  exact ⟨lay_mem h.1 hd, by omega, by omega⟩
theorem okd_len {l : List PyData} (h : okd (.tuple l) = true) : l.length ≤ 1000000 := by
  rw [okd_iff, wt] at h
  have := wts_len l
  omega
theorem okd_str {x : Str} (h : okd (.str x) = true) : x.length ≤ 1000000 := by
  rw [okd_iff, wt] at h
  omega
/-! ### words, numbers, names, atoms -/
def ltrs : Str := "abcdefghijklmnopqrstuvwxyz"
def figs : Str := "0123456789"
def wordsL : List Str := ["def", "else", "fun", "give", "if", "left", "pair", "paired", "right", "say"]
def opsL : List Str := ["+", "-", "*", "<", "="]
def inS (c : Nat) (x : Str) : Bool := decide (c ∈ x.cps.toList)
def nmS (x : Str) : Bool := decide (1 ≤ x.length) && decide (x.length ≤ 8) && !wordsL.contains x && ((tl x).head?.any fun c => inS c ltrs) && (tl x).all fun c => inS c ltrs || inS c figs
def isS : PyData → Bool
  | .str _ => true
  | _ => false
def isT : PyData → Bool
  | .tuple _ => true
  | _ => false
def numD (d : PyData) (lo hi : Int) : Bool := match d with
  | .int i => decide (lo ≤ i) && decide (i ≤ hi)
  | _ => false
def nmD : PyData → Bool
  | .str x => nmS x
  | _ => false
def atD (d : PyData) : Bool := numD d 0 2147483647 || nmD d
def strOf : PyData → Str
  | .str x => x
  | _ => ""
def tupOf (d : PyData) (n : Nat) : Bool := match d with
  | .tuple l => decide (l.length = n)
  | _ => false
def shortD (d : PyData) (lo hi : Nat) : Bool := match d with
  | .tuple l => decide (lo ≤ l.length) && decide (l.length ≤ hi)
  | _ => false
def atsD : PyData → Bool
  | .tuple l => decide (l.length ≤ 4) && l.all atD
  | _ => false
def parD : PyData → Bool
  | .tuple l => decide (l.length ≤ 4) && (l.all nmD && decide (l.map strOf).Nodup)
  | _ => false
def oneD : List Str := ["atom", "left", "right", "paired"]
def two (r : List PyData) (f : PyData → PyData → Bool) : Bool := match r with
  | [a, b] => f a b
  | _ => false
def rsOth (w : Str) : List PyData → Bool
  | [a] => oneD.contains w && atD a
  | [a, b] => if w = "pair" then atD a && atD b else if w = "fun" then parD a && isT b else if w = "call" then atD a && atsD b else false
  | _ => false
def rsD : PyData → Bool
  | .tuple (.str w :: r) => if opsL.contains w = true then two r (fun a b => atD a && atD b) else rsOth w r
  | _ => false
def oneS (d : PyData) (ws : List Str) : Bool := match d with
  | .str x => ws.contains x
  | _ => false
def stL : List PyData → Bool
  | [d0, d1] => oneS d0 ["say"] && atD d1
  | [d0, d1, d2] => oneS d0 ["let"] && (nmD d1 && rsD d2)
  | _ => false
def stD : PyData → Bool
  | .tuple l => stL l
  | _ => false
theorem stD2 (a b : PyData) : stD (.tuple [a, b]) = (oneS a ["say"] && atD b) := rfl
theorem stD3 (a b c : PyData) : stD (.tuple [a, b, c]) = (oneS a ["let"] && (nmD b && rsD c)) := rfl
theorem st_no {d : PyData} (h2 : tupOf d 2 = false) (h3 : tupOf d 3 = false) : stD d = false := by
  cases d with
  | tuple l =>
    have h2 : l.length ≠ 2 := of_decide_eq_false h2
    have h3 : l.length ≠ 3 := of_decide_eq_false h3
    show stL l = false
    match l, h2, h3 with
    | [], _, _ => rfl
    | [_], _, _ => rfl
    | [_, _], h2, _ => exact absurd rfl h2
    | [_, _, _], _, h3 => exact absurd rfl h3
    | _ :: _ :: _ :: _ :: _, _, _ => rfl
  | none => rfl
  | bool _ => rfl
  | int _ => rfl
  | str _ => rfl
  | list _ => rfl
  | dict _ => rfl
def one1 (r : List PyData) (f : PyData → Bool) : Bool := match r with
  | [a] => f a
  | _ => false
def thr (r : List PyData) (f : PyData → PyData → PyData → Bool) : Bool := match r with
  | [a, b, c] => f a b c
  | _ => false
def endsL : List Str := ["give", "tail", "if"]
def enD : PyData → Bool
  | .tuple (.str w :: r) => if w = "give" then one1 r atD else if w = "tail" then two r (fun a b => atD a && atsD b) else if w = "if" then thr r (fun a b c => atD a && (isT b && isT c)) else false
  | _ => false
def laD : List PyData → Bool
  | [] => false
  | [e] => enD e
  | s :: r => stD s && laD r
/-- bodies in a statement -/
def ifB : List PyData → List PyData
  | [_, b, c] => [b, c]
  | _ => []
def funB : List PyData → List PyData
  | [_, b] => [b]
  | _ => []
def letB : List PyData → List PyData
  | [_, .tuple (.str v :: t)] => if v = "fun" then funB t else []
  | _ => []
def inn : PyData → List PyData
  | .tuple (.str w :: r) => if w = "if" then ifB r else if w = "let" then letB r else []
  | _ => []
def lisT : PyData → List PyData
  | .tuple l => l
  | _ => []
def laysD : Nat → List PyData → Bool
  | 0, L => L.isEmpty
  | n + 1, L => (L.all fun d => laD (lisT d)) && laysD n (L.flatMap fun d => (lisT d).flatMap inn)
def boD (d : PyData) : Bool := isT d && laysD 10 [d]
def topD : PyData → Bool
  | .tuple [x, ps, b] => nmD x && (parD ps && boD b)
  | _ => false
def formD : PyData → Bool
  | .tuple l => decide (1 ≤ l.length) && (decide (l.length ≤ 8) && l.all topD)
  | _ => false
end PJ

set_option maxHeartbeats 4000000
namespace PJ
open PySem L2 Evl DL TL PG
theorem cut_take {xs : List V} {j : Nat} (h : j ≤ xs.length) : cutV xs none (some (j : Int)) = xs.take j := by
  unfold cutV
  simp only [HT.sIx_nat, Nat.min_eq_left h]
  show (xs.drop 0).take (j - 0) = xs.take j
  rw [List.drop_zero, Nat.sub_zero]
theorem not_whole {n j : Nat} (h : j < n) : ¬ (HT.sIx n 0 none = 0 ∧ HT.sIx n n (some (j : Int)) = n) := by
  rintro ⟨_, e⟩
  rw [HT.sIx_nat, Nat.min_eq_left (by omega)] at e
  omega
theorem inV_strs (x : Str) : ∀ xs : List Str, inV (.str x) (xs.map V.str) = xs.contains x
  | [] => rfl
  | y :: r => by
    show (eqV (.str y) (.str x) || inV (.str x) (r.map V.str)) = _
    rw [inV_strs x r, List.contains_cons]
    show ((y == x) || _) = _
    rw [Bool.beq_comm]
theorem flat_strs : ∀ xs : List Str, (xs.map V.str).all flatV = true
  | [] => rfl
  | y :: r => by show (true && (r.map V.str).all flatV) = true; rw [flat_strs r]; rfl
def unlJ (xs : List Str) (j : Nat) : Bool := match xs[j]? with
  | some x => !(xs.take j).contains x
  | none => true
theorem unl_all (xs : List Str) : (List.range xs.length).all (unlJ xs) = decide xs.Nodup := by
  rw [Bool.eq_iff_iff, List.all_eq_true, decide_eq_true_iff, List.Nodup, List.pairwise_iff_getElem]
  constructor
  · intro h i j hi hj hij e
    have z := h j (List.mem_range.mpr hj)
    rw [unlJ, List.getElem?_eq_getElem hj] at z
    have m : xs[j] ∈ xs.take j := List.mem_of_getElem? (i := i) (by rw [List.getElem?_take_of_lt hij, List.getElem?_eq_getElem hi, e])
    simp only [Bool.not_eq_true'] at z
    rw [List.contains_iff_mem.mpr m] at z
    cases z
  · intro h j hj
    have hj := List.mem_range.mp hj
    rw [unlJ, List.getElem?_eq_getElem hj]
    simp only [Bool.not_eq_true']
    cases hc : (xs.take j).contains xs[j] with
    | false => rfl
    | true =>
      have m := List.contains_iff_mem.mp hc
      obtain ⟨i, hi, e⟩ := List.mem_iff_getElem.mp m
      rw [List.length_take] at hi
      rw [List.getElem_take] at e
      exact absurd e (h i j (by omega) hj (by omega))
end PJ

set_option maxHeartbeats 4000000
namespace PJ
open PySem L2 Evl DL TL PG
theorem ieq {i j : Int} (h : i = j) : decide (V.int i = V.int j) = true := decide_eq_true (congrArg V.int h)
theorem ine {i j : Int} (h : i ≠ j) : decide (V.int i = V.int j) = false := decide_eq_false fun z => h (by injection z)
def longs : List (Str × Int) := [("atom", 2), ("pair", 3), ("left", 2), ("right", 2), ("paired", 2), ("fun", 3), ("call", 3)]
theorem two_no {r : List PyData} {f : PyData → PyData → Bool} (h : r.length ≠ 2) : two r f = false := by
  match r, h with
  | [], _ => rfl
  | [_], _ => rfl
  | [_, _], h => exact absurd rfl h
  | _ :: _ :: _ :: _, _ => rfl
theorem rs_ops {w : Str} {r : List PyData} (h : opsL.contains w = true) : rsD (.tuple (.str w :: r)) = two r fun a b => atD a && atD b := by
  show (if opsL.contains w = true then _ else _) = _
  rw [if_pos h]
theorem rs_oth {w : Str} {r : List PyData} (h : opsL.contains w = false) : rsD (.tuple (.str w :: r)) = rsOth w r := by
  show (if opsL.contains w = true then _ else _) = _
  rw [h]
  rfl
theorem oth2 (w : Str) (a b : PyData) : rsOth w [a, b] = if w = "pair" then atD a && atD b else if w = "fun" then parD a && isT b else if w = "call" then atD a && atsD b else false := rfl
theorem rs_one {w : Str} (hw : oneD.contains w = true) (h1 : w ≠ "pair") (h2 : w ≠ "fun") (h3 : w ≠ "call") (ho : opsL.contains w = false) (ht : tabAt w longs = some 2) (r : List PyData) :
    rsD (.tuple (.str w :: r)) = (decide ((r.length : Int) + 1 = (tabAt w longs).getD 0) && (if w = "fun" then two r (fun a b => parD a && isT b) else if w = "call" then two r (fun a b => atD a && atsD b) else r.all atD)) := by
  rw [rs_oth ho, ht, if_neg h2, if_neg h3]
  match r with
  | [] => rfl
  | [a] => show (oneD.contains w && atD a) = _; rw [hw]; simp
  | [a, b] => rw [oth2, if_neg h1, if_neg h2, if_neg h3]; rfl
  | a :: b :: c :: l =>
    rw [decide_eq_false (by simp only [List.length_cons, Option.getD_some]; omega)]
    rfl
theorem rs_two {w : Str} (hw : oneD.contains w = false) (h1 : w = "pair" ∨ w = "fun" ∨ w = "call") (ho : opsL.contains w = false) (ht : tabAt w longs = some 3) (r : List PyData) :
    rsD (.tuple (.str w :: r)) = (decide ((r.length : Int) + 1 = (tabAt w longs).getD 0) && (if w = "fun" then two r (fun a b => parD a && isT b) else if w = "call" then two r (fun a b => atD a && atsD b) else r.all atD)) := by
  rw [rs_oth ho, ht]
  match r with
  | [] => rfl
  | [a] => show (oneD.contains w && atD a) = _; rw [hw]; simp
  | [a, b] =>
    rcases h1 with rfl | rfl | rfl
    · rw [oth2, if_pos rfl, if_neg (by decide +kernel), if_neg (by decide +kernel)]
      simp
    · rw [oth2, if_neg (by decide +kernel), if_pos rfl, if_pos rfl]
      rfl
    · rw [oth2, if_neg (by decide +kernel), if_neg (by decide +kernel), if_pos rfl, if_neg (by decide +kernel), if_pos rfl]
      rfl
  | a :: b :: c :: l =>
    rw [decide_eq_false (by simp only [List.length_cons, Option.getD_some]; omega)]
    rfl
theorem rs_else {w : Str} (ho : opsL.contains w = false) (r : List PyData) :
    rsD (.tuple (.str w :: r)) = (decide ((r.length : Int) + 1 = (tabAt w longs).getD 0) && (if w = "fun" then two r (fun a b => parD a && isT b) else if w = "call" then two r (fun a b => atD a && atsD b) else r.all atD)) := by
  by_cases e1 : w = "atom"
  · subst e1; exact rs_one (by decide +kernel) (by decide +kernel) (by decide +kernel) (by decide +kernel) ho (by decide +kernel) r
  by_cases e2 : w = "left"
  · subst e2; exact rs_one (by decide +kernel) (by decide +kernel) (by decide +kernel) (by decide +kernel) ho (by decide +kernel) r
  by_cases e3 : w = "right"
  · subst e3; exact rs_one (by decide +kernel) (by decide +kernel) (by decide +kernel) (by decide +kernel) ho (by decide +kernel) r
  by_cases e4 : w = "paired"
  · subst e4; exact rs_one (by decide +kernel) (by decide +kernel) (by decide +kernel) (by decide +kernel) ho (by decide +kernel) r
  by_cases e5 : w = "pair"
  · subst e5; exact rs_two (by decide +kernel) (.inl rfl) ho (by decide +kernel) r
  by_cases e6 : w = "fun"
  · subst e6; exact rs_two (by decide +kernel) (.inr (.inl rfl)) ho (by decide +kernel) r
  by_cases e7 : w = "call"
  · subst e7; exact rs_two (by decide +kernel) (.inr (.inr rfl)) ho (by decide +kernel) r
  have ht : tabAt w longs = none := by
    simp only [longs, tabAt]
    rw [if_neg e1, if_neg e5, if_neg e2, if_neg e3, if_neg e4, if_neg e6, if_neg e7]
  have hw : oneD.contains w = false := by
    simp only [oneD, List.contains_cons, Bool.or_eq_false_iff, beq_eq_false_iff_ne, List.contains_nil]
    exact ⟨e1, e2, e3, e4, trivial⟩
  rw [ht, rs_oth ho, decide_eq_false (by show ¬ ((r.length : Int) + 1 = 0); omega), Bool.false_and]
  match r with
  | [] => rfl
  | [a] => show (oneD.contains w && atD a) = _; rw [hw]; rfl
  | [a, b] => rw [oth2, if_neg e5, if_neg e6, if_neg e7]
  | a :: b :: c :: l => rfl
end PJ

set_option maxHeartbeats 4000000
namespace DL
open PySem L2 Evl PySem.Spec PyProof.Rows
/-! ### readings of comprehensions whose items are told without the heap -/
theorem wipe1_set (σ : L2.St) (i : Nat) (v : Option V) : wipe ((wipe σ [i]).set i v) [i] = wipe σ [i] := by
  show ((σ.set i none).set i v).set i none = σ.set i none
  rw [List.set_set, List.set_set]
section
variable {K : PySem.W.Frag} {σ : L2.St} {H : Hp} {Q : VK} {te ts : TE} {i : Nat} {xs : List V} {a : Addr} {R : Nat → V → Prop}
/-- [e for x in t], the slot i -/
theorem lc_tupV (hs : Ev ts σ H (.ref a)) (hS : SqT K H a xs) (hl : xs.length ≤ 1000000)
    (step : ∀ j x H', xs[j]? = some x → Ex H H' → ∀ Q' : VK, (∀ v H'', Ex H' H'' → R j v → Q' v H'') → te ((wipe σ [i]).set i (some x)) H' Q')
    (k : ∀ p vs H', H p = none → Ex H H' → H' p = some (.lst vs) → vs.length = xs.length → (∀ j v, vs[j]? = some v → R j v) → Q (.ref p) H') : tLc (iTup K ts) (gName i) tYes te [i] σ H Q := by
  refine hs H (Ex.refl H) _ fun H1 e1 => ⟨a, rfl, ⟨xs, ex_t e1 hS⟩, fun D nD => ?_⟩
  have nDH : H D = none := fresh_back e1 nD
  refine lc_tup (K := K) (a := a) (xs := xs) (fun j H' => Ex H H' ∧ ∃ vs, H' D = some (.lst vs) ∧ vs.length = j ∧ ∀ j v, vs[j]? = some v → R j v) ⟨e1.trans (Ex.new nD), [], upd_same, rfl, fun j v h => by simp at h⟩ (fun j H' _ z => ex_t z.1 hS) ?_ ?_
  · rintro j x H' hx ⟨e, vs, hD, hvl, hR⟩
    refine ⟨wipe1_set σ i _, lc_yes (step j x H' hx e _ fun v H'' e2 r => ?_)⟩
    have hjl := (List.getElem?_eq_some_iff.mp hx).1
    refine ⟨vs, e2 _ _ hD, ?_, ?_, vs ++ [v], upd_same, by simp [hvl], fun m u hm => ?_⟩
    · have : (1000000 : Nat) < sizeLine := by decide
      omega
    · intro b o hb
      have nb : b ≠ D := fun z => by rw [z, nDH] at hb; cases hb
      rw [upd_ne nb]
      exact e2 _ _ (e _ _ hb)
    · rcases Nat.lt_or_ge m vs.length with h | h
      · rw [List.getElem?_append_left h] at hm
        exact hR m u hm
      · rw [List.getElem?_append_right h] at hm
        have m0 : m - vs.length = 0 := by
          rcases Nat.eq_zero_or_pos (m - vs.length) with z | z
          · exact z
          · rw [List.getElem?_eq_none (by simp; omega)] at hm; cases hm
        rw [m0] at hm
        simp at hm
        subst hm
        have : m = j := by omega
        rw [this]
        exact r
  · rintro H' ⟨e, vs, hD, hvl, hR⟩
    exact k D vs H' nDH e hD hvl hR
/-- .. over a list -/
theorem lc_listV (hs : Ev ts σ H (.ref a)) (hS : SqL K H a xs) (hl : xs.length ≤ 1000000)
    (step : ∀ j x H', xs[j]? = some x → Ex H H' → ∀ Q' : VK, (∀ v H'', Ex H' H'' → R j v → Q' v H'') → te ((wipe σ [i]).set i (some x)) H' Q')
    (k : ∀ p vs H', H p = none → Ex H H' → H' p = some (.lst vs) → vs.length = xs.length → (∀ j v, vs[j]? = some v → R j v) → Q (.ref p) H') : tLc (iList K ts) (gName i) tYes te [i] σ H Q := by
  refine hs H (Ex.refl H) _ fun H1 e1 => ⟨a, rfl, ⟨xs, ex_l e1 hS⟩, fun D nD => ?_⟩
  have nDH : H D = none := fresh_back e1 nD
  refine lc_list (K := K) (a := a) (xs := xs) (fun j H' => Ex H H' ∧ ∃ vs, H' D = some (.lst vs) ∧ vs.length = j ∧ ∀ j v, vs[j]? = some v → R j v) ⟨e1.trans (Ex.new nD), [], upd_same, rfl, fun j v h => by simp at h⟩ (fun j H' _ z => ex_l z.1 hS) ?_ ?_
  · rintro j x H' hx ⟨e, vs, hD, hvl, hR⟩
    refine ⟨wipe1_set σ i _, lc_yes (step j x H' hx e _ fun v H'' e2 r => ?_)⟩
    have hjl := (List.getElem?_eq_some_iff.mp hx).1
    refine ⟨vs, e2 _ _ hD, ?_, ?_, vs ++ [v], upd_same, by simp [hvl], fun m u hm => ?_⟩
    · have : (1000000 : Nat) < sizeLine := by decide
      omega
    · intro b o hb
      have nb : b ≠ D := fun z => by rw [z, nDH] at hb; cases hb
      rw [upd_ne nb]
      exact e2 _ _ (e _ _ hb)
    · rcases Nat.lt_or_ge m vs.length with h | h
      · rw [List.getElem?_append_left h] at hm
        exact hR m u hm
      · rw [List.getElem?_append_right h] at hm
        have m0 : m - vs.length = 0 := by
          rcases Nat.eq_zero_or_pos (m - vs.length) with z | z
          · exact z
          · rw [List.getElem?_eq_none (by simp; omega)] at hm; cases hm
        rw [m0] at hm
        simp at hm
        subst hm
        have : m = j := by omega
        rw [this]
        exact r
  · rintro H' ⟨e, vs, hD, hvl, hR⟩
    exact k D vs H' nDH e hD hvl hR
/-- the items are these -/
theorem vs_of {vs : List V} {n : Nat} {f : Nat → V} (hl : vs.length = n) (h : ∀ j v, vs[j]? = some v → v = f j) : vs = (List.range n).map f := by
  refine List.ext_getElem? fun j => ?_
  rcases Nat.lt_or_ge j n with hj | hj
  · rw [List.getElem?_map, List.getElem?_range hj, List.getElem?_eq_getElem (by omega)]
    exact congrArg some (h j _ (List.getElem?_eq_getElem (by omega)))
  · rw [List.getElem?_eq_none (by omega), List.getElem?_eq_none (by simp; omega)]
/-- all([e for x in ..]) : from the list of bools -/
theorem all_bools {p : Addr} {vs : List V} (f : Nat → Bool) (n : Nat) (hp : H p = some (.lst vs)) (hl : vs.length = n) (h : ∀ j v, vs[j]? = some v → v = V.bl (f j)) (q : Q (.bl ((List.range n).all f)) H) : rAll K [.ref p] H Q := by
  refine ⟨p, (List.range n).map f, rfl, ?_, ?_⟩
  · have e := vs_of (f := fun j => V.bl (f j)) hl h
    rw [e] at hp
    rw [List.map_map]
    exact sq_of hp
  · rw [List.all_map]
    exact q
theorem range_all {α : Type} (l : List α) (g : α → Bool) (f : Nat → Bool) (h : ∀ j x, l[j]? = some x → f j = g x) : (List.range l.length).all f = l.all g := by
  rw [Bool.eq_iff_iff, List.all_eq_true, List.all_eq_true]
  constructor
  · intro a x hx
    obtain ⟨j, hj, e⟩ := List.mem_iff_getElem.mp hx
    rw [← h j x (by rw [List.getElem?_eq_getElem hj, e])]
    exact a j (List.mem_range.mpr hj)
  · intro a j hj
    have hj := List.mem_range.mp hj
    rw [h j _ (List.getElem?_eq_getElem hj)]
    exact a _ (List.getElem_mem hj)
end
end DL
namespace DL
open PySem L2
theorem putF_len (f : Str) (v : V) : ∀ fs : List (Str × V), (putF f v fs).length ≤ fs.length + 1
  | [] => Nat.le_refl _
  | (g, x) :: r => by
    rw [putF]
    split
    · simp
    · have := putF_len f v r
      simp only [List.length_cons]
      omega
/-- a field that is not there is put at the end -/
theorem putF_new {f : Str} {v : V} : ∀ {fs : List (Str × V)}, fs.lookup f = none → putF f v fs = fs ++ [(f, v)]
  | [], _ => rfl
  | (g, x) :: r, h => by
    have hne : ¬ g = f := fun e => by subst e; simp [List.lookup] at h
    have h' : r.lookup f = none := by
      simp only [List.lookup] at h
      split at h
      · cases h
      · exact h
    rw [putF, if_neg hne, putF_new h']
    rfl
end DL
namespace DL
open PySem L2
theorem lookup_no {f : Str} : ∀ {fs : List (Str × V)}, f ∉ fs.map (·.1) → fs.lookup f = none
  | [], _ => rfl
  | (g, x) :: r, h => by
    simp only [List.map_cons, List.mem_cons, not_or] at h
    have hb : (f == g) = false := beq_eq_false_iff_ne.mpr h.1
    simp only [List.lookup, hb]
    exact lookup_no h.2
theorem putF_app {f : Str} {v : V} {fs : List (Str × V)} {ks : List Str} (hk : fs.map (·.1) = ks) (h : f ∉ ks) : putF f v fs = fs ++ [(f, v)] := putF_new (lookup_no (hk ▸ h))
end DL

set_option maxHeartbeats 4000000
namespace DL
open PySem L2 Evl PySem.Spec PyProof.Rows
/-! ### readings of comprehensions over enumerate -/
section
variable {K : PySem.W.Frag} {σ : L2.St} {H : Hp} {Q : VK} {te ts : TE} {i1 i2 : Nat} {xs : List V} {a : Addr} {R : Nat → V → Prop}
/-- the list grown so far -/
def Grown (H : Hp) (D : Addr) (R : Nat → V → Prop) (j : Nat) (H' : Hp) : Prop := Ex H H' ∧ ∃ vs, H' D = some (.lst vs) ∧ vs.length = j ∧ ∀ m v, vs[m]? = some v → R m v
theorem Grown.next {D : Addr} {j n : Nat} {H' H'' : Hp} {v : V} (g : Grown H D R j H') (nD : H D = none) (hj : j < n) (hn : n ≤ 1000000) (e : Ex H' H'') (r : R j v) :
    ∃ acc, H'' D = some (.lst acc) ∧ acc.length < sizeLine ∧ Grown H D R (j + 1) (L2.upd H'' D (.lst (acc ++ [v]))) := by
  obtain ⟨e0, vs, hD, hl, hR⟩ := g
  refine ⟨vs, e _ _ hD, ?_, ?_, vs ++ [v], upd_same, by simp [hl], fun m u hm => ?_⟩
  · have : (1000000 : Nat) < sizeLine := by decide
    omega
  · intro b o hb
    have nb : b ≠ D := fun z => by rw [z, nD] at hb; cases hb
    rw [upd_ne nb]
    exact e _ _ (e0 _ _ hb)
  · rcases Nat.lt_or_ge m vs.length with h | h
    · rw [List.getElem?_append_left h] at hm
      exact hR m u hm
    · rw [List.getElem?_append_right h] at hm
      have m0 : m - vs.length = 0 := by
        rcases Nat.eq_zero_or_pos (m - vs.length) with z | z
        · exact z
        · rw [List.getElem?_eq_none (by simp; omega)] at hm; cases hm
      rw [m0] at hm
      simp at hm
      subst hm
      have : m = j := by omega
      rw [this]
      exact r
theorem wipe2_set (σ : L2.St) (i1 i2 : Nat) (u v : Option V) : wipe (((wipe σ [i1, i2]).set i1 u).set i2 v) [i1, i2] = wipe σ [i1, i2] := by
  show (((((σ.set i2 none).set i1 none).set i1 u).set i2 v).set i2 none).set i1 none = (σ.set i2 none).set i1 none
  refine List.ext_getElem? fun m => ?_
  simp only [List.getElem?_set, List.length_set]
  by_cases h1 : i1 = m <;> by_cases h2 : i2 = m <;> simp [h1, h2]
/-- [e for i, x in enumerate(t)] -/
theorem lc_enumTV (hs : Ev ts σ H (.ref a)) (hS : SqT K H a xs) (hl : xs.length ≤ 1000000)
    (step : ∀ j x H', xs[j]? = some x → Ex H H' → ∀ Q' : VK, (∀ v H'', Ex H' H'' → R j v → Q' v H'') → te (((wipe σ [i1, i2]).set i1 (some (.int (j : Nat)))).set i2 (some x)) H' Q')
    (k : ∀ p vs H', H p = none → Ex H H' → H' p = some (.lst vs) → vs.length = xs.length → (∀ j v, vs[j]? = some v → R j v) → Q (.ref p) H') :
    tLc (iEnumT K (tCons ts tNil)) (gTup K 2 (gCons (gName i1) (gCons (gName i2) gNil))) tYes te [i1, i2] σ H Q := by
  refine hs H (Ex.refl H) _ fun H1 e1 => ⟨a, xs, rfl, ex_t e1 hS, fun D nD => ?_⟩
  have nDH : H D = none := fresh_back e1 nD
  refine ⟨fun j m H' => m = xs.length - j ∧ j ≤ xs.length ∧ Grown H D R j H', ⟨_, rfl, Nat.zero_le _, e1.trans (Ex.new nD), [], upd_same, rfl, fun j v h => by simp at h⟩, ?_⟩
  rintro j m H' ⟨rfl, hj, g⟩
  have hS' : SqT K H' a xs := ex_t g.1 hS
  rcases Nat.lt_or_ge j xs.length with lt | ge
  · refine .inr ⟨⟨xs, xs[j], hS', List.getElem?_eq_getElem lt⟩, fun H'' => Grown H D R (j + 1) H'', fun H'' g' => ⟨_, by omega, rfl, lt, g'⟩, ?_⟩
    rintro _ _ ⟨T, x, rfl, nT, hx, rfl⟩
    have hx' := hx xs hS'
    have g2 : Grown H D R j (L2.upd H' T (.tup [.int (j : Nat), x])) := by
      obtain ⟨e0, vs, hD, hl', hR⟩ := g
      exact ⟨e0.trans (Ex.new nT), vs, (Ex.new nT) _ _ hD, hl', hR⟩
    refine ⟨T, _, rfl, st_of upd_same, rfl, _, _, rfl, _, _, rfl, rfl, wipe2_set σ i1 i2 _ _, lc_yes ?_⟩
    exact step j x _ hx' g2.1 _ fun v H'' e2 r => g2.next nDH lt hl e2 r
  · have : j = xs.length := by omega
    subst this
    obtain ⟨e0, vs, hD, hl', hR⟩ := g
    exact .inl ⟨⟨xs, hS', Nat.le_refl _⟩, k D vs H' nDH e0 hD hl' hR⟩
theorem lc_enumLV (hs : Ev ts σ H (.ref a)) (hS : SqL K H a xs) (hl : xs.length ≤ 1000000)
    (step : ∀ j x H', xs[j]? = some x → Ex H H' → ∀ Q' : VK, (∀ v H'', Ex H' H'' → R j v → Q' v H'') → te (((wipe σ [i1, i2]).set i1 (some (.int (j : Nat)))).set i2 (some x)) H' Q')
    (k : ∀ p vs H', H p = none → Ex H H' → H' p = some (.lst vs) → vs.length = xs.length → (∀ j v, vs[j]? = some v → R j v) → Q (.ref p) H') :
    tLc (iEnum K (tCons ts tNil)) (gTup K 2 (gCons (gName i1) (gCons (gName i2) gNil))) tYes te [i1, i2] σ H Q := by
  refine hs H (Ex.refl H) _ fun H1 e1 => ⟨a, xs, rfl, ex_l e1 hS, fun D nD => ?_⟩
  have nDH : H D = none := fresh_back e1 nD
  refine ⟨fun j m H' => m = xs.length - j ∧ j ≤ xs.length ∧ Grown H D R j H', ⟨_, rfl, Nat.zero_le _, e1.trans (Ex.new nD), [], upd_same, rfl, fun j v h => by simp at h⟩, ?_⟩
  rintro j m H' ⟨rfl, hj, g⟩
  have hS' : SqL K H' a xs := ex_l g.1 hS
  rcases Nat.lt_or_ge j xs.length with lt | ge
  · refine .inr ⟨⟨xs, xs[j], hS', List.getElem?_eq_getElem lt⟩, fun H'' => Grown H D R (j + 1) H'', fun H'' g' => ⟨_, by omega, rfl, lt, g'⟩, ?_⟩
    rintro _ _ ⟨T, x, rfl, nT, rfl, hx⟩
    have hx' := hx xs hS'
    have g2 : Grown H D R j (L2.upd H' T (.tup [.int (j : Nat), x])) := by
      obtain ⟨e0, vs, hD, hl', hR⟩ := g
      exact ⟨e0.trans (Ex.new nT), vs, (Ex.new nT) _ _ hD, hl', hR⟩
    refine ⟨T, _, rfl, st_of upd_same, rfl, _, _, rfl, _, _, rfl, rfl, wipe2_set σ i1 i2 _ _, lc_yes ?_⟩
    exact step j x _ hx' g2.1 _ fun v H'' e2 r => g2.next nDH lt hl e2 r
  · have : j = xs.length := by omega
    subst this
    obtain ⟨e0, vs, hD, hl', hR⟩ := g
    exact .inl ⟨⟨xs, hS', Nat.le_refl _⟩, k D vs H' nDH e0 hD hl' hR⟩
/-- [e for c in text] -/
theorem lc_strV {x : Str} {i : Nat} (hs : Ev ts σ H (.str x)) (hl : x.length ≤ 1000000)
    (step : ∀ j c H', (TL.tl x)[j]? = some c → Ex H H' → ∀ Q' : VK, (∀ v H'', Ex H' H'' → R j v → Q' v H'') → te ((wipe σ [i]).set i (some (.str ⟨#[c]⟩))) H' Q')
    (k : ∀ p vs H', H p = none → Ex H H' → H' p = some (.lst vs) → vs.length = (TL.tl x).length → (∀ j v, vs[j]? = some v → R j v) → Q (.ref p) H') :
    tLc (iStr ts) (gName i) tYes te [i] σ H Q := by
  have hz : x.cps.size = (TL.tl x).length := by simp [TL.tl]
  have hl' : x.cps.size ≤ 1000000 := hl
  refine hs H (Ex.refl H) _ fun H1 e1 => ⟨x, rfl, fun D nD => ?_⟩
  have nDH : H D = none := fresh_back e1 nD
  refine ⟨fun j m H' => m = x.cps.size - j ∧ j ≤ x.cps.size ∧ Grown H D R j H', ⟨_, rfl, Nat.zero_le _, e1.trans (Ex.new nD), [], upd_same, rfl, fun j v h => by simp at h⟩, ?_⟩
  rintro j m H' ⟨rfl, hj, g⟩
  rcases Nat.lt_or_ge j x.cps.size with lt | ge
  · refine .inr ⟨lt, fun H'' => Grown H D R (j + 1) H'', fun H'' g' => ⟨_, by omega, rfl, lt, g'⟩, ?_⟩
    rintro _ _ ⟨rfl, c, hc, rfl⟩
    refine ⟨wipe1_set σ i _, lc_yes (step j c _ (by show x.cps.toList[j]? = _; rw [Array.getElem?_toList]; exact hc) g.1 _ fun v H'' e2 r => g.next nDH lt hl' e2 r)⟩
  · have e : j = x.cps.size := by omega
    obtain ⟨e0, vs, hD, hl', hR⟩ := g
    exact .inl ⟨ge, k D vs H' nDH e0 hD (by omega) hR⟩
/-- [e for x in t[1:]] -/
theorem lc_tupS1 {i n : Nat} (hv : σ[n]? = some (some (.ref a))) (hS : SqT K H a xs) (h1 : 0 < xs.length) (hl : xs.length ≤ 1000000)
    (step : ∀ j x H', (xs.drop 1)[j]? = some x → Ex H H' → ∀ Q' : VK, (∀ v H'', Ex H' H'' → R j v → Q' v H'') → te ((wipe σ [i]).set i (some x)) H' Q')
    (k : ∀ p vs H', H p = none → Ex H H' → H' p = some (.lst vs) → vs.length = xs.length - 1 → (∀ j v, vs[j]? = some v → R j v) → Q (.ref p) H') :
    tLc (iTup K (tSl (rSlT K) (tVar n) (tPart (tC (.int 1))) tNoPart)) (gName i) tYes te [i] σ H Q := by
  refine ⟨_, hv, _, rfl, a, xs, rfl, hS, fun z => ?_, fun p hp => ?_⟩
  · have e : HT.sIx xs.length 0 (some ((1 : Nat) : Int)) = 0 := z.1
    rw [HT.sIx_nat] at e
    omega
  · have ec : cutV xs (some 1) none = xs.drop 1 := by
      unfold cutV
      rw [show HT.sIx xs.length 0 (some (1 : Int)) = min 1 xs.length from HT.sIx_nat _ _ 1, Nat.min_eq_left (by omega)]
      show (xs.drop 1).take (xs.length - 1) = _
      rw [List.take_of_length_le (by simp)]
    rw [ec]
    have e1 : Ex H (L2.upd H p (.tup (xs.drop 1))) := Ex.new hp
    refine ⟨p, rfl, ⟨_, st_of upd_same⟩, ?_⟩
    have main := lc_tupV (K := K) (σ := σ) (H := L2.upd H p (.tup (xs.drop 1))) (Q := Q) (te := te) (ts := tC (.ref p)) (i := i) (xs := xs.drop 1) (a := p) (R := R) (fun H1 _ Q q => q H1 (Ex.refl H1)) (st_of upd_same) (by simp; omega)
      (fun j x H' hx e Q' kk => step j x H' hx (e1.trans e) Q' kk) (fun p' vs H' nP e hp' hvl hR => k p' vs H' (fresh_back e1 nP) (e1.trans e) hp' (by simpa using hvl) hR)
    obtain ⟨a', ea, _, z⟩ := main
    cases ea
    exact z
/-- [e for x in t[:-1]] -/
theorem cut_last (xi : List V) (xl : V) : cutV (xi ++ [xl]) none (some (-1)) = xi := by
  unfold cutV
  have h : HT.sIx (xi ++ [xl]).length (xi ++ [xl]).length (some (-1)) = xi.length := by
    show (if (-1 : Int) < 0 then ((-1 : Int) + ((xi ++ [xl]).length : Int)).toNat else min (-1 : Int).toNat (xi ++ [xl]).length) = xi.length
    rw [if_pos (by decide), List.length_append, List.length_singleton]
    omega
  rw [h]
  show ((xi ++ [xl]).drop 0).take (xi.length - 0) = xi
  rw [List.drop_zero, Nat.sub_zero]
  simp
theorem lc_tupSM {i n : Nat} {xi : List V} {xl : V} (hv : σ[n]? = some (some (.ref a))) (hS : SqT K H a (xi ++ [xl])) (hl : xi.length ≤ 1000000)
    (step : ∀ j x H', xi[j]? = some x → Ex H H' → ∀ Q' : VK, (∀ v H'', Ex H' H'' → R j v → Q' v H'') → te ((wipe σ [i]).set i (some x)) H' Q')
    (k : ∀ p vs H', H p = none → Ex H H' → H' p = some (.lst vs) → vs.length = xi.length → (∀ j v, vs[j]? = some v → R j v) → Q (.ref p) H') :
    tLc (iTup K (tSl (rSlT K) (tVar n) tNoPart (tPart (tUn (rU fun i => .int (-i)) (tC (.int 1)))))) (gName i) tYes te [i] σ H Q := by
  refine ⟨_, hv, 1, rfl, _, rfl, a, _, rfl, hS, fun z => ?_, fun p hp => ?_⟩
  · have e : HT.sIx (xi ++ [xl]).length (xi ++ [xl]).length (some (-1)) = (xi ++ [xl]).length := z.2
    have h : (if (-1 : Int) < 0 then ((-1 : Int) + ((xi ++ [xl]).length : Int)).toNat else min (-1 : Int).toNat (xi ++ [xl]).length) = (xi ++ [xl]).length := e
    rw [if_pos (by decide), List.length_append, List.length_singleton] at h
    omega
  · have e0 : cutV (xi ++ [xl]) none (some (-(1 : Int))) = xi := cut_last xi xl
    rw [e0]
    have e1 : Ex H (L2.upd H p (.tup xi)) := Ex.new hp
    refine ⟨p, rfl, ⟨_, st_of upd_same⟩, ?_⟩
    have main := lc_tupV (K := K) (σ := σ) (H := L2.upd H p (.tup xi)) (Q := Q) (te := te) (ts := tC (.ref p)) (i := i) (xs := xi) (a := p) (R := R) (fun H1 _ Q q => q H1 (Ex.refl H1)) (st_of upd_same) hl
      (fun j x H' hx e Q' kk => step j x H' hx (e1.trans e) Q' kk) (fun p' vs H' nP e hp' hvl hR => k p' vs H' (fresh_back e1 nP) (e1.trans e) hp' hvl hR)
    obtain ⟨a', ea, _, z⟩ := main
    cases ea
    exact z
theorem dpa_snoc {H : Hp} : ∀ {xs : List V} {ds : List PyData} {d : PyData}, DpAll K H xs (ds ++ [d]) → ∃ xi xl, xs = xi ++ [xl] ∧ DpAll K H xi ds ∧ Dp K H xl d
  | [], [], _, h => by cases h
  | [x], [], d, .cons g .nil => ⟨[], x, rfl, .nil, g⟩
  | x :: y :: r, [], d, h => by cases h with | cons g h => cases h
  | [], _ :: _, _, h => by cases h
  | x :: r, e :: ds, d, .cons g h => by
    obtain ⟨xi, xl, rfl, h1, h2⟩ := dpa_snoc h
    exact ⟨x :: xi, xl, rfl, .cons g h1, h2⟩
/-- for i, x in enumerate(t) -/
theorem for_enumT {g : TG} {tb : TS} {D : Ends} (Pv : Nat → L2.St → Hp → Prop) (h0 : Pv 0 σ H) (hl : ∀ i σ H, i ≤ xs.length → Pv i σ H → SqT K H a xs)
    (hs : ∀ i x σ H T, xs[i]? = some x → Pv i σ H → H T = none → g (.ref T) σ (L2.upd H T (.tup [.int ((i : Nat) : Int), x])) fun σ2 H2 => tb { D with nx := Pv (i + 1), ct := Pv (i + 1), bk := D.nx } σ2 H2) (hd : ∀ σ H, Pv xs.length σ H → D.nx σ H) :
    ∃ W : Nat → Nat → L2.St → Hp → Prop, (∃ m, W 0 m σ H) ∧ ∀ i m σ H, W i m σ H → ((ItN K a).stop i H ∧ D.nx σ H) ∨
      ((ItN K a).go i H ∧ ∃ N : L2.St → Hp → Prop, (∀ σ' H', N σ' H' → ∃ m', m' < m ∧ W (i + 1) m' σ' H') ∧ ∀ x H', (ItN K a).yld i H x H' → g x σ H' fun σ2 H2 => tb { D with nx := N, ct := N, bk := D.nx } σ2 H2) := by
  refine ⟨fun i m σ H => m = xs.length - i ∧ i ≤ xs.length ∧ Pv i σ H, ⟨_, rfl, Nat.zero_le _, h0⟩, ?_⟩
  rintro i m σ H ⟨rfl, hi, p⟩
  have hS := hl i σ H hi p
  rcases Nat.lt_or_ge i xs.length with lt | ge
  · refine .inr ⟨⟨xs, xs[i], hS, List.getElem?_eq_getElem lt⟩, Pv (i + 1), fun σ' H' p' => ⟨_, by omega, rfl, lt, p'⟩, ?_⟩
    rintro _ _ ⟨T, x, rfl, nT, hx, rfl⟩
    exact hs i x σ H T (hx xs hS) p nT
  · have e : i = xs.length := by omega
    subst e
    exact .inl ⟨⟨xs, hS, Nat.le_refl _⟩, hd σ H p⟩
end
end DL

set_option maxHeartbeats 4000000
namespace K4
open PySem L2 Evl DL PJ PG TL
section
variable {P : Program} {w : World} {K : PySem.W.Frag} {mg : Str → Option Value} {base : Heap}
/-! ### judging data -/
def spB (K : PySem.W.Frag) (f : PyData → Bool) (pre : PyData → Prop) : Sp := fun vs H Q _ => ∃ v d, vs = [v] ∧ Dp K H v d ∧ pre d ∧ ∀ H', Ex H H' → Q (.bl (f d)) H'
theorem len_spB {f : PyData → Bool} {pre : PyData → Prop} {x : Str} : ∀ vs H Q E, spB K f pre vs H Q E → vs.length = ([x] : List Str).length := fun vs H Q E h => by
  obtain ⟨v, d, rfl, _⟩ := h
  rfl
def whD : PyData → Bool
  | .int _ => true
  | _ => false
theorem whD_eq (d : PyData) : (isaD d "int" && !isaD d "bool") = whD d := by
  cases d <;> simp only [isaD, tyD, whD] <;> decide +kernel
theorem bd_whole : BindP "is_whole" s_is_whole ["value"] := fun _ _ _ _ _ _ us hl => match us, hl with | [_], _ => rfl
theorem ok_whole (T : Txt K mg) : DefOk P w K mg base CX0 false 1 "is_whole" s_is_whole ["value"] (spB K whD fun _ => True) := by
  refine T.d_is_whole.ok scs_is_whole len_spB (fun f cdv A outer s H vs Q E hr h => ?_)
  obtain ⟨v, d, rfl, hd, _, k⟩ := h
  refine ⟨_, pss_one (ps_ret (pe_and (pe_callB call_isa (by rfl) T.b_isinstance (by decide +kernel) (pa_cons (pv 0) (pa_cons (pe_bltn (v := .ty "int") (by rfl) T.b_int (by decide +kernel) rfl) pa_nil)))
    (pe_one (pe_not (pe_callB call_isa (by rfl) T.b_isinstance (by decide +kernel) (pa_cons (pv 0) (pa_cons (pe_bltn (v := .ty "bool") (by rfl) T.b_bool (by decide +kernel) rfl) pa_nil))))))), ?_⟩
  refine ⟨_, rfl, _, _, d, rfl, hd, .inl rfl, _, rfl, ?_⟩
  have q := k H (Ex.refl H)
  rw [← whD_eq] at q
  cases h1 : isaD d "int" with
  | false =>
    rw [h1] at q
    exact itF rfl q
  | true =>
    rw [h1] at q
    exact itT rfl ⟨_, rfl, _, _, d, rfl, hd, .inr (.inl rfl), _, rfl, q⟩
def spNum (K : PySem.W.Frag) : Sp := fun vs H Q _ => ∃ v d lo hi, vs = [v, .int lo, .int hi] ∧ Dp K H v d ∧ ∀ H', Ex H H' → Q (.bl (numD d lo hi)) H'
theorem ok_number (T : Txt K mg) : DfOk P w K mg base CX0 2 "is_number" ["value", "low", "high"] (spNum K) := by
  refine T.d_is_number.ok (List.cons_ne_nil _ _) scs_is_number (fun vs H Q E h => ?_) (fun Tp kV doc pm an cdv ct us its l1 l2 => ?_) (fun f cdv A outer s H vs Q E hr h => ?_)
  · obtain ⟨v, d, lo, hi, rfl, _⟩ := h
    rfl
  · match us, l1, its, l2 with
    | [a, b, c], _, [i], _ => exact ⟨_, rfl, rfl⟩
  · obtain ⟨v, d, lo, hi, rfl, hd, k⟩ := h
    refine ⟨_, pss_one (ps_ret (pe_and (pe_callD (ok_whole T) hr (.inl rfl) bd_whole pass0 (pa_cons (pv 0) pa_nil)) (pe_and (pe_cmpR op_le (pv 1) (pv 0) (nomark _)) (pe_one (pe_or (pe_cmpR op_isN (pv 2) pe_non (nomark _)) (pe_one (pe_cmpR op_le (pv 0) (pv 2) (nomark _)))))))), ?_⟩
    refine ⟨_, rfl, v, d, rfl, hd, trivial, fun H1 e1 => ⟨_, rfl, ?_⟩⟩
    have q := k H1 e1
    cases hd with
    | int i =>
      refine itT rfl ⟨_, rfl, _, rfl, _, _, rfl, rfl, _, rfl, ?_⟩
      by_cases h1 : lo ≤ i
      · refine itT (decide_eq_true h1) ⟨_, rfl, rfl, _, rfl, itF (decide_eq_false (fun z => nomatch z)) ⟨_, rfl, _, rfl, _, _, rfl, rfl, ?_⟩⟩
        have e : numD (.int i) lo hi = decide (i ≤ hi) := by show (decide (lo ≤ i) && decide (i ≤ hi)) = _; rw [decide_eq_true h1, Bool.true_and]
        rw [e] at q
        exact q
      · refine itF (decide_eq_false h1) ?_
        have e : numD (.int i) lo hi = false := by show (decide (lo ≤ i) && decide (i ≤ hi)) = _; rw [decide_eq_false h1, Bool.false_and]
        rw [e] at q
        exact q
    | non => exact itF rfl q
    | bl b => exact itF rfl q
    | str x => exact itF rfl q
    | lst a b => exact itF rfl q
    | tup a b => exact itF rfl q
def spTO (K : PySem.W.Frag) : Sp := fun vs H Q _ => ∃ v d n, vs = [v, .int ((n : Nat) : Int)] ∧ Dp K H v d ∧ ∀ H', Ex H H' → Q (.bl (tupOf d n)) H'
theorem bd_tupof : BindP "is_tuple_of" s_is_tuple_of ["value", "many"] := fun _ _ _ _ _ _ us hl => match us, hl with | [_, _], _ => rfl
theorem ok_tupof (T : Txt K mg) : DefOk P w K mg base CX0 false 1 "is_tuple_of" s_is_tuple_of ["value", "many"] (spTO K) := by
  refine T.d_is_tuple_of.ok scs_is_tuple_of (fun vs H Q E h => ?_) (fun f cdv A outer s H vs Q E hr h => ?_)
  · obtain ⟨v, d, n, rfl, _⟩ := h
    rfl
  · obtain ⟨v, d, n, rfl, hd, k⟩ := h
    refine ⟨_, pss_one (ps_ret (pe_and (pe_callB call_isa (by rfl) T.b_isinstance (by decide +kernel) (pa_cons (pv 0) (pa_cons (pe_bltn (v := .ty "tuple") (by rfl) T.b_tuple (by decide +kernel) rfl) pa_nil)))
      (pe_one (pe_cmpR op_eq (pe_callB call_len_seq (by rfl) T.b_len PySem.boot_len (pa_cons (pv 0) pa_nil)) (pv 1) (nomark _))))), ?_⟩
    refine ⟨_, rfl, _, _, d, rfl, hd, by simp, _, rfl, ?_⟩
    have q := k H (Ex.refl H)
    cases hd with
    | @tup a xs ds hS hxs =>
      refine itT rfl ⟨_, rfl, a, xs, rfl, .inr hS, _, rfl, rfl, ?_⟩
      have e : decide (V.int (xs.length : Int) = V.int (n : Int)) = tupOf (.tuple ds) n := by
        show _ = decide (ds.length = n)
        rw [dpa_len hxs]
        exact decide_eq_decide.mpr ⟨fun z => by injection z with z; omega, fun z => by rw [z]⟩
      rw [← e] at q
      exact q
    | int i => exact itF rfl q
    | non => exact itF rfl q
    | bl b => exact itF rfl q
    | str x => exact itF rfl q
    | lst a b => exact itF rfl q
def spSh (K : PySem.W.Frag) : Sp := fun vs H Q _ => ∃ v d lo hi, vs = [v, .int ((lo : Nat) : Int), .int ((hi : Nat) : Int)] ∧ Dp K H v d ∧ ∀ H', Ex H H' → Q (.bl (shortD d lo hi)) H'
theorem bd_short : BindP "is_short_tuple" s_is_short_tuple ["value", "low", "high"] := fun _ _ _ _ _ _ us hl => match us, hl with | [_, _, _], _ => rfl
theorem ok_short (T : Txt K mg) : DefOk P w K mg base CX0 false 1 "is_short_tuple" s_is_short_tuple ["value", "low", "high"] (spSh K) := by
  refine T.d_is_short_tuple.ok scs_is_short_tuple (fun vs H Q E h => ?_) (fun f cdv A outer s H vs Q E hr h => ?_)
  · obtain ⟨v, d, lo, hi, rfl, _⟩ := h
    rfl
  · obtain ⟨v, d, lo, hi, rfl, hd, k⟩ := h
    refine ⟨_, pss_one (ps_ret (pe_and (pe_callB call_isa (by rfl) T.b_isinstance (by decide +kernel) (pa_cons (pv 0) (pa_cons (pe_bltn (v := .ty "tuple") (by rfl) T.b_tuple (by decide +kernel) rfl) pa_nil)))
      (pe_one (pe_chain op_le op_le (pv 1) (pe_callB call_len_seq (by rfl) T.b_len PySem.boot_len (pa_cons (pv 0) pa_nil)) (pv 2))))), ?_⟩
    refine ⟨_, rfl, _, _, d, rfl, hd, by simp, _, rfl, ?_⟩
    have q := k H (Ex.refl H)
    cases hd with
    | @tup a xs ds hS hxs =>
      have ln := dpa_len hxs
      refine itT rfl ⟨_, rfl, _, rfl, a, xs, rfl, .inr hS, _, _, rfl, rfl, _, rfl, ?_⟩
      have e : shortD (.tuple ds) lo hi = (decide (lo ≤ xs.length) && decide (xs.length ≤ hi)) := by rw [ln]; rfl
      rw [e] at q
      by_cases h1 : lo ≤ xs.length
      · refine itT (decide_eq_true (by omega)) ⟨_, rfl, _, _, rfl, rfl, ?_⟩
        rw [decide_eq_true h1, Bool.true_and] at q
        have e2 : decide (xs.length ≤ hi) = decide ((xs.length : Int) ≤ (hi : Int)) := decide_eq_decide.mpr (by omega)
        rw [e2] at q
        exact q
      · refine itF (decide_eq_false (by omega)) ?_
        rw [decide_eq_false h1, Bool.false_and] at q
        exact q
    | int i => exact itF rfl q
    | non => exact itF rfl q
    | bl b => exact itF rfl q
    | str x => exact itF rfl q
    | lst a b => exact itF rfl q
/-! ### unlike values -/
def spUnT (K : PySem.W.Frag) : Sp := fun vs H Q _ => ∃ (a : Addr) (xs : List Str), vs = [.ref a] ∧ SqT K H a (xs.map V.str) ∧ xs.length ≤ 1000000 ∧ ∀ H', Ex H H' → Q (.bl (decide xs.Nodup)) H'
def spUnL (K : PySem.W.Frag) : Sp := fun vs H Q _ => ∃ (a : Addr) (xs : List Str), vs = [.ref a] ∧ SqL K H a (xs.map V.str) ∧ xs.length ≤ 1000000 ∧ ∀ H', Ex H H' → Q (.bl (decide xs.Nodup)) H'
theorem bd_unlike : BindP "are_unlike" s_are_unlike ["values"] := fun _ _ _ _ _ _ us hl => match us, hl with | [_], _ => rfl
theorem ok_unlikeT (T : Txt K mg) : DefOk P w K mg base CX0 false 1 "are_unlike" s_are_unlike ["values"] (spUnT K) := by
  refine T.d_are_unlike.ok scs_are_unlike (fun vs H Q E h => ?_) (fun f cdv A outer s H vs Q E hr h => ?_)
  · obtain ⟨a, xs, rfl, _⟩ := h
    rfl
  · obtain ⟨a, xs, rfl, hS, hl, k⟩ := h
    have nd := scs_are_unlike.nd
    refine ⟨_, pss_one (ps_ret (pe_callB (cr_all rfl) (by rfl) T.b_all (by decide +kernel) (pa_cons (pe_lc (own := [("index", 1), ("value", 2)]) (g := gTup K 2 (gCons (gName 1) (gCons (gName 2) gNil))) (tt := tYes) (te := tOp (rIn K true) (tVar 2) (tSl (rSlT K) (tVar 0) tNoPart (tPart (tVar 1)))) rfl nd (pi_enumT (by rfl) T.b_enumerate (pa_cons (pv 0) pa_nil)) (blkOk_by (N := ["values", "index", "value"]) (sc := defScope s_are_unlike) (by decide +kernel))
      (fun _ _ _ _ _ => pg_tup rfl (pgs_cons (pg_name (i := 1) nd rfl (.inl rfl)) (pgs_cons (pg_name (i := 2) nd rfl (.inl rfl)) pgs_nil))) (fun _ _ _ _ _ => pts_nil)
      (fun _ _ _ _ _ => pe_cmpR op_notIn_seq (pv 2) (pe_slice sl_tup (pv 0) po_none (po_some (pv 1))) (by with_unfolding_all rfl))) pa_nil))), ?_⟩
    dsimp only [tRet, tCB, tCons, tNil]
    refine lc_enumTV (K := K) (a := a) (xs := xs.map V.str) (R := fun j v => v = .bl (unlJ xs j)) (σ := [some (.ref a), none, none]) (ts := tVar 0) (ev_var rfl) hS (by simpa using hl) (fun j x H' hx e Q' kk => ?_) (fun p vs H' nP e hp hvl hR => ?_)
    · rw [List.getElem?_map] at hx
      cases hj : xs[j]? with
      | none => rw [hj] at hx; cases hx
      | some y =>
        rw [hj] at hx
        cases hx
        have lt := (List.getElem?_eq_some_iff.mp hj).1
        refine ⟨_, rfl, _, rfl, _, rfl, _, rfl, a, _, rfl, ex_t e hS, not_whole (by simpa using lt), fun p hp => ?_⟩
        have e2 : cutV (xs.map V.str) none (some (j : Int)) = (xs.take j).map V.str := by rw [cut_take (by simp; omega), List.map_take]
        rw [e2]
        refine ⟨p, _, rfl, .inr (st_of upd_same), rfl, flat_strs _, ?_⟩
        rw [inV_strs]
        refine kk _ _ (Ex.new hp) ?_
        rw [unlJ, hj]
        rfl
    · refine all_bools (unlJ xs) xs.length hp (by simpa using hvl) hR ?_
      rw [unl_all]
      exact k H' e
theorem ok_unlikeL (T : Txt K mg) : DefOk P w K mg base CX0 false 1 "are_unlike" s_are_unlike ["values"] (spUnL K) := by
  refine T.d_are_unlike.ok scs_are_unlike (fun vs H Q E h => ?_) (fun f cdv A outer s H vs Q E hr h => ?_)
  · obtain ⟨a, xs, rfl, _⟩ := h
    rfl
  · obtain ⟨a, xs, rfl, hS, hl, k⟩ := h
    have nd := scs_are_unlike.nd
    refine ⟨_, pss_one (ps_ret (pe_callB (cr_all rfl) (by rfl) T.b_all (by decide +kernel) (pa_cons (pe_lc (own := [("index", 1), ("value", 2)]) (g := gTup K 2 (gCons (gName 1) (gCons (gName 2) gNil))) (tt := tYes) (te := tOp (rIn K true) (tVar 2) (tSl (rSlL K) (tVar 0) tNoPart (tPart (tVar 1)))) rfl nd (pi_enum (by rfl) T.b_enumerate (pa_cons (pv 0) pa_nil)) (blkOk_by (N := ["values", "index", "value"]) (sc := defScope s_are_unlike) (by decide +kernel))
      (fun _ _ _ _ _ => pg_tup rfl (pgs_cons (pg_name (i := 1) nd rfl (.inl rfl)) (pgs_cons (pg_name (i := 2) nd rfl (.inl rfl)) pgs_nil))) (fun _ _ _ _ _ => pts_nil)
      (fun _ _ _ _ _ => pe_cmpR op_notIn_seq (pv 2) (pe_slice sl_list (pv 0) po_none (po_some (pv 1))) (by with_unfolding_all rfl))) pa_nil))), ?_⟩
    dsimp only [tRet, tCB, tCons, tNil]
    refine lc_enumLV (K := K) (a := a) (xs := xs.map V.str) (R := fun j v => v = .bl (unlJ xs j)) (σ := [some (.ref a), none, none]) (ts := tVar 0) (ev_var rfl) hS (by simpa using hl) (fun j x H' hx e Q' kk => ?_) (fun p vs H' nP e hp hvl hR => ?_)
    · rw [List.getElem?_map] at hx
      cases hj : xs[j]? with
      | none => rw [hj] at hx; cases hx
      | some y =>
        rw [hj] at hx
        cases hx
        have lt := (List.getElem?_eq_some_iff.mp hj).1
        refine ⟨_, rfl, _, rfl, _, rfl, _, rfl, a, _, rfl, ex_l e hS, fun p hp => ?_⟩
        have e2 : cutV (xs.map V.str) none (some (j : Int)) = (xs.take j).map V.str := by rw [cut_take (by simp; omega), List.map_take]
        rw [e2]
        refine ⟨p, _, rfl, .inl (sq_of upd_same), rfl, flat_strs _, ?_⟩
        rw [inV_strs]
        refine kk _ _ (Ex.new hp) ?_
        rw [unlJ, hj]
        rfl
    · refine all_bools (unlJ xs) xs.length hp (by simpa using hvl) hR ?_
      rw [unl_all]
      exact k H' e
/-! ### names, atoms -/
def spOne (K : PySem.W.Frag) : Sp := fun vs H Q _ => ∃ (v : V) (d : PyData) (b : Addr) (ws : List Str), vs = [v, .ref b] ∧ Dp K H v d ∧ SqT K H b (ws.map V.str) ∧ ∀ H', Ex H H' → Q (.bl (oneS d ws)) H'
theorem bd_oneof : BindP "is_one_of" s_is_one_of ["value", "some"] := fun _ _ _ _ _ _ us hl => match us, hl with | [_, _], _ => rfl
theorem ok_oneof (T : Txt K mg) : DefOk P w K mg base CX0 false 1 "is_one_of" s_is_one_of ["value", "some"] (spOne K) := by
  refine T.d_is_one_of.ok scs_is_one_of (fun vs H Q E h => ?_) (fun f cdv A outer s H vs Q E hr h => ?_)
  · obtain ⟨v, d, b, ws, rfl, _⟩ := h
    rfl
  · obtain ⟨v, d, b, ws, rfl, hd, hb, k⟩ := h
    refine ⟨_, pss_one (ps_ret (pe_and (pe_callB call_isa (by rfl) T.b_isinstance (by decide +kernel) (pa_cons (pv 0) (pa_cons (pe_bltn (v := .ty "str") (by rfl) T.b_str (by decide +kernel) rfl) pa_nil)))
      (pe_one (pe_cmpR op_in_seq (pv 0) (pv 1) (by with_unfolding_all rfl))))), ?_⟩
    refine ⟨_, rfl, _, _, d, rfl, hd, by simp, _, rfl, ?_⟩
    have q := k H (Ex.refl H)
    cases hd with
    | str x =>
      refine itT rfl ⟨_, rfl, _, rfl, b, _, rfl, .inr hb, rfl, flat_strs ws, ?_⟩
      rw [inV_strs]
      exact q
    | int i => exact itF rfl q
    | non => exact itF rfl q
    | bl b => exact itF rfl q
    | tup x y => exact itF rfl q
    | lst a b => exact itF rfl q
theorem bd_name : BindP "is_name" s_is_name ["value"] := fun _ _ _ _ _ _ us hl => match us, hl with | [_], _ => rfl
theorem ok_name (T : Txt K mg) : DefOk P w K mg base CX0 false 1 "is_name" s_is_name ["value"] (spB K nmD fun d => okd d = true) := by
  refine T.d_is_name.ok scs_is_name len_spB (fun f cdv A outer s H vs Q E hr h => ?_)
  obtain ⟨v, d, rfl, hd, ok, k⟩ := h
  have nd := scs_is_name.nd
  refine ⟨_, pss_cons (ps_if (PW.pt (pw_or (pt_not (pt_val (pe_callB call_isa (by rfl) T.b_isinstance (by decide +kernel) (pa_cons (pv 0) (pa_cons (pe_bltn (v := .ty "str") (by rfl) T.b_str (by decide +kernel) rfl) pa_nil)))))
      (pw_or (pt_not (pt_chain op_le op_le pe_int (pe_callB call_len_str (by rfl) T.b_len PySem.boot_len (pa_cons (pv 0) pa_nil)) (pe_const T.c_MOST_SIGNS)))
        (pw_or1 (pt_cmpR op_in_seq (pv 0) (pe_tupc T.c_WORDS) (by with_unfolding_all rfl)))))) (pss_one (ps_ret pe_bl)) pss_nil)
    (pss_one (ps_ret (pe_and (pe_cmpR op_in_sign (pe_ix ix_str (pv 0) pe_int (fun _ _ => rfl)) (pe_const T.c_LETTERS) (by with_unfolding_all rfl))
      (pe_one (pe_callB (cr_all rfl) (by rfl) T.b_all (by decide +kernel) (pa_cons (pe_lc (own := [("sign", 1)]) (g := gName 1) (tt := tYes) rfl nd (pi_str (pv 0)) (blkOk_by (N := ["value", "sign"]) (sc := defScope s_is_name) (by decide +kernel))
        (fun _ _ _ _ _ => pg_name (i := 1) nd rfl (.inl rfl)) (fun _ _ _ _ _ => pts_nil)
        (fun _ _ _ _ _ => pe_or (pe_cmpR op_in_sign (pv 1) (pe_const T.c_LETTERS) (by with_unfolding_all rfl)) (pe_one (pe_cmpR op_in_sign (pv 1) (pe_const T.c_FIGURES) (by with_unfolding_all rfl))))) pa_nil)))))), ?_⟩
  refine ⟨_, rfl, _, _, d, rfl, hd, by simp, _, rfl, ?_⟩
  have q := k H (Ex.refl H)
  cases hd with
  | str x =>
    have hx := okd_str ok
    have hz : x.length ≤ sizeLine := Nat.le_trans hx (by decide)
    refine itF rfl ⟨_, rfl, x, rfl, hz, _, _, rfl, rfl, _, rfl, ?_⟩
    have no : nmS x = false → Q (.bl false) H := fun e => by
      have q : Q (.bl (nmS x)) H := q
      rw [e] at q; exact q
    by_cases h1 : 1 ≤ x.length
    · refine itT (decide_eq_true (by omega)) ⟨_, _, rfl, rfl, _, rfl, ?_⟩
      by_cases h2 : x.length ≤ 8
      · refine itF (by rw [decide_eq_true (show (x.length : Int) ≤ 8 by omega)]; rfl) ⟨_, rfl, fun b hb => ⟨b, _, rfl, .inr (hb H), rfl, rfl, _, rfl, ?_⟩⟩
        have ei : inV (.str x) [.str "def", .str "else", .str "fun", .str "give", .str "if", .str "left", .str "pair", .str "paired", .str "right", .str "say"] = wordsL.contains x := inV_strs x wordsL
        by_cases h3 : wordsL.contains x = true
        · exact itT (ei.trans h3) (no (by unfold nmS; rw [h3]; simp))
        · have h3 : wordsL.contains x = false := by simpa using h3
          refine itF (ei.trans h3) ?_
          have hlt : 0 < (tl x).length := by rw [← len_tl]; omega
          have hc : (tl x)[0]? = some (tl x)[0] := List.getElem?_eq_getElem hlt
          have hh : (tl x).head? = some (tl x)[0] := by rw [List.head?_eq_getElem?]; exact hc
          generalize (tl x)[0] = c at hc hh
          refine ⟨_, rfl, x, _, c, rfl, rfl, hz, atI_nat (j := 0) hc, c, _, rfl, rfl, _, rfl, ?_⟩
          have enm : nmS x = (inS c ltrs && (tl x).all fun c => inS c ltrs || inS c figs) := by
            unfold nmS
            rw [h3, hh, decide_eq_true h1, decide_eq_true h2]
            rfl
          by_cases h4 : inS c ltrs = true
          · refine itT h4 ?_
            dsimp only [tCB, tCons, tNil]
            refine lc_strV (x := x) (R := fun j v => v = .bl ((fun j => match (tl x)[j]? with | some c => inS c ltrs || inS c figs | none => true) j)) (σ := [some (.str x), none]) (ts := tVar 0) (ev_var rfl) hx (fun j c H' hx e Q' kk => ?_) (fun p vs H' nP e hp hvl hR => ?_)
            · have kk' := kk (.bl (inS c ltrs || inS c figs)) H' (Ex.refl _) (by dsimp only; rw [hx])
              refine ⟨_, rfl, c, _, rfl, rfl, _, rfl, ?_⟩
              by_cases h5 : inS c ltrs = true
              · rw [h5] at kk'
                exact itT h5 kk'
              · have h5 : inS c ltrs = false := by simpa using h5
                rw [h5, Bool.false_or] at kk'
                exact itF h5 ⟨_, rfl, c, _, rfl, rfl, kk'⟩
            · refine all_bools _ (tl x).length hp hvl hR ?_
              rw [range_all (tl x) (fun c => inS c ltrs || inS c figs) _ (fun j c hc => by rw [hc])]
              rw [h4, Bool.true_and] at enm
              have q := k H' e
              have q : Q (.bl (nmS x)) H' := q
              rw [enm] at q
              exact q
          · have h4' : inS c ltrs = false := by simpa using h4
            exact itF h4' (no (by rw [enm]; simp only [Bool.not_eq_true] at h4; rw [h4, Bool.false_and]))
      · refine itT (by rw [decide_eq_false (show ¬ (x.length : Int) ≤ 8 by omega)]; rfl) (no (by unfold nmS; rw [decide_eq_false h2]; simp))
    · exact itF (decide_eq_false (by omega)) ⟨_, rfl, itT rfl (no (by unfold nmS; rw [decide_eq_false h1]; simp))⟩
  | int i => exact itT rfl q
  | non => exact itT rfl q
  | bl b => exact itT rfl q
  | tup x y => exact itT rfl q
  | lst a b => exact itT rfl q
theorem bd_atom : BindP "is_atom" s_is_atom ["value"] := fun _ _ _ _ _ _ us hl => match us, hl with | [_], _ => rfl
theorem ok_atom (T : Txt K mg) : DefOk P w K mg base CX0 false 3 "is_atom" s_is_atom ["value"] (spB K atD fun d => okd d = true) := by
  refine T.d_is_atom.ok scs_is_atom len_spB (fun f cdv A outer s H vs Q E hr h => ?_)
  obtain ⟨v, d, rfl, hd, ok, k⟩ := h
  refine ⟨_, pss_one (ps_ret (pe_or (pe_callDf (ok_number T) hr pass0 (pa_cons (pv 0) (pa_cons pe_int (pa_cons (pe_const T.c_MOST) pa_nil)))) (pe_one (pe_callD (ok_name T) (hr.mono (by decide)) (.inl rfl) bd_name pass0 (pa_cons (pv 0) pa_nil))))), ?_⟩
  refine ⟨_, rfl, v, d, 0, 2147483647, rfl, hd, fun H1 e1 => ⟨_, rfl, ?_⟩⟩
  cases h1 : numD d 0 2147483647 with
  | true =>
    have q := k H1 e1
    rw [atD, h1] at q
    exact itT rfl q
  | false =>
    refine itF rfl ⟨_, rfl, v, d, rfl, dp_ex e1 hd, ok, fun H2 e2 => ?_⟩
    have q := k H2 (e1.trans e2)
    rw [atD, h1] at q
    exact q
theorem bd_atoms : BindP "are_atoms" s_are_atoms ["value"] := fun _ _ _ _ _ _ us hl => match us, hl with | [_], _ => rfl
theorem ok_atoms (T : Txt K mg) : DefOk P w K mg base CX0 false 4 "are_atoms" s_are_atoms ["value"] (spB K atsD fun d => okd d = true) := by
  refine T.d_are_atoms.ok scs_are_atoms len_spB (fun f cdv A outer s H vs Q E hr h => ?_)
  obtain ⟨v, d, rfl, hd, ok, k⟩ := h
  have nd := scs_are_atoms.nd
  refine ⟨_, pss_one (ps_ret (pe_and (pe_callD (ok_short T) (hr.mono (by decide)) (.inl rfl) bd_short pass0 (pa_cons (pv 0) (pa_cons pe_int (pa_cons (pe_const T.c_MOST_PARAMS) pa_nil))))
    (pe_one (pe_callB (cr_all rfl) (by rfl) T.b_all (by decide +kernel) (pa_cons (pe_lc (own := [("each", 1)]) (g := gName 1) (tt := tYes) rfl nd (pi_tup (pv 0)) (blkOk_by (N := ["value", "each"]) (sc := defScope s_are_atoms) (by decide +kernel))
        (fun _ _ _ _ _ => pg_name (i := 1) nd rfl (.inl rfl)) (fun _ _ _ _ _ => pts_nil) (fun _ _ _ _ _ => pe_callD (ok_atom T) hr (.inl rfl) bd_atom pass0 (pa_cons (pv 1) pa_nil))) pa_nil))))), ?_⟩
  refine ⟨_, rfl, v, d, 0, 4, rfl, hd, fun H1 e1 => ⟨_, rfl, ?_⟩⟩
  have q := fun H' (e : Ex H1 H') => k H' (e1.trans e)
  cases hd with
  | @tup a xs ds hS hxs =>
    have e2 : shortD (.tuple ds) 0 4 = decide (ds.length ≤ 4) := by show (decide (0 ≤ ds.length) && _) = _; rw [decide_eq_true (Nat.zero_le _)]; rfl
    rw [e2]
    have ln := dpa_len hxs
    by_cases h4 : ds.length ≤ 4
    · refine itT (decide_eq_true h4) ?_
      dsimp only [tCB, tCons, tNil]
      refine lc_tupV (K := K) (a := a) (xs := xs) (R := fun j v => v = .bl ((fun j => match ds[j]? with | some c => atD c | none => true) j)) (σ := [some (.ref a), none]) (ts := tVar 0) (ev_var rfl) (ex_t e1 hS) (by omega) (fun j x H' hx e Q' kk => ?_) (fun p vs H' nP e hp hvl hR => ?_)
      · obtain ⟨c, hc, hdc⟩ := dpa_getV hxs hx
        exact ⟨_, rfl, x, c, rfl, dp_ex (e1.trans e) hdc, okd_mem ok (List.mem_of_getElem? hc), fun H2 e2 => kk _ H2 e2 (by dsimp only; rw [hc])⟩
      · refine all_bools _ ds.length hp (by omega) hR ?_
        rw [range_all ds atD _ (fun j c hc => by rw [hc])]
        have q := q H' e
        rw [atsD, decide_eq_true h4, Bool.true_and] at q
        exact q
    · refine itF (decide_eq_false h4) ?_
      have q := q H1 (Ex.refl _)
      rw [atsD, decide_eq_false h4, Bool.false_and] at q
      exact q
  | int i => exact itF rfl (q H1 (Ex.refl _))
  | non => exact itF rfl (q H1 (Ex.refl _))
  | bl b => exact itF rfl (q H1 (Ex.refl _))
  | str x => exact itF rfl (q H1 (Ex.refl _))
  | lst a b => exact itF rfl (q H1 (Ex.refl _))
theorem names_strs {H : Hp} : ∀ {xs : List V} {ds : List PyData}, DpAll K H xs ds → ds.all nmD = true → xs = (ds.map strOf).map V.str
  | _, _, .nil, _ => rfl
  | _, _, .cons (d := d) h r, e => by
    simp only [List.all_cons, Bool.and_eq_true] at e
    cases h with
    | str x => rw [names_strs r e.2]; rfl
    | int i => exact absurd e.1 (by simp [nmD])
    | non => exact absurd e.1 (by simp [nmD])
    | bl i => exact absurd e.1 (by simp [nmD])
    | lst _ _ => exact absurd e.1 (by simp [nmD])
    | tup _ _ => exact absurd e.1 (by simp [nmD])
theorem bd_params : BindP "are_params" s_are_params ["value"] := fun _ _ _ _ _ _ us hl => match us, hl with | [_], _ => rfl
theorem ok_params (T : Txt K mg) : DefOk P w K mg base CX0 false 2 "are_params" s_are_params ["value"] (spB K parD fun d => okd d = true) := by
  refine T.d_are_params.ok scs_are_params len_spB (fun f cdv A outer s H vs Q E hr h => ?_)
  obtain ⟨v, d, rfl, hd, ok, k⟩ := h
  have nd := scs_are_params.nd
  refine ⟨_, pss_one (ps_ret (pe_and (pe_callD (ok_short T) hr (.inl rfl) bd_short pass0 (pa_cons (pv 0) (pa_cons pe_int (pa_cons (pe_const T.c_MOST_PARAMS) pa_nil))))
    (pe_and (pe_callB (cr_all rfl) (by rfl) T.b_all (by decide +kernel) (pa_cons (pe_lc (own := [("each", 1)]) (g := gName 1) (tt := tYes) rfl nd (pi_tup (pv 0)) (blkOk_by (N := ["value", "each"]) (sc := defScope s_are_params) (by decide +kernel))
        (fun _ _ _ _ _ => pg_name (i := 1) nd rfl (.inl rfl)) (fun _ _ _ _ _ => pts_nil) (fun _ _ _ _ _ => pe_callD (ok_name T) hr (.inl rfl) bd_name pass0 (pa_cons (pv 1) pa_nil))) pa_nil))
      (pe_one (pe_callD (ok_unlikeT T) hr (.inl rfl) bd_unlike pass0 (pa_cons (pv 0) pa_nil)))))), ?_⟩
  refine ⟨_, rfl, v, d, 0, 4, rfl, hd, fun H1 e1 => ⟨_, rfl, ?_⟩⟩
  have q := fun H' (e : Ex H1 H') => k H' (e1.trans e)
  cases hd with
  | @tup a xs ds hS hxs =>
    have e2 : shortD (.tuple ds) 0 4 = decide (ds.length ≤ 4) := by show (decide (0 ≤ ds.length) && _) = _; rw [decide_eq_true (Nat.zero_le _)]; rfl
    rw [e2]
    have ln := dpa_len hxs
    by_cases h4 : ds.length ≤ 4
    · refine itT (decide_eq_true h4) ?_
      dsimp only [tAndV, tCB, tCons, tNil]
      refine lc_tupV (K := K) (a := a) (xs := xs) (R := fun j v => v = .bl ((fun j => match ds[j]? with | some c => nmD c | none => true) j)) (σ := [some (.ref a), none]) (ts := tVar 0) (ev_var rfl) (ex_t e1 hS) (by omega) (fun j x H' hx e Q' kk => ?_) (fun p vs H' nP e hp hvl hR => ?_)
      · obtain ⟨c, hc, hdc⟩ := dpa_getV hxs hx
        exact ⟨_, rfl, x, c, rfl, dp_ex (e1.trans e) hdc, okd_mem ok (List.mem_of_getElem? hc), fun H2 e2 => kk _ H2 e2 (by dsimp only; rw [hc])⟩
      · refine all_bools _ ds.length hp (by omega) hR ?_
        rw [range_all ds nmD _ (fun j c hc => by rw [hc])]
        refine ⟨_, rfl, ?_⟩
        have q := fun H2 e2 => q H2 (e.trans e2)
        cases h5 : ds.all nmD with
        | false =>
          refine itF rfl ?_
          have q := q H' (Ex.refl _)
          rw [parD, h5, Bool.false_and, Bool.and_false] at q
          exact q
        | true =>
          have hS2 := ex_t (e1.trans e) hS
          rw [names_strs hxs h5] at hS2
          refine itT rfl ⟨_, rfl, a, _, rfl, hS2, by simp; omega, fun H2 e2 => ?_⟩
          have q := q H2 e2
          rw [parD, h5, decide_eq_true h4, Bool.true_and, Bool.true_and] at q
          exact q
    · refine itF (decide_eq_false h4) ?_
      have q := q H1 (Ex.refl _)
      rw [parD, decide_eq_false h4, Bool.false_and] at q
      exact q
  | int i => exact itF rfl (q H1 (Ex.refl _))
  | non => exact itF rfl (q H1 (Ex.refl _))
  | bl b => exact itF rfl (q H1 (Ex.refl _))
  | str x => exact itF rfl (q H1 (Ex.refl _))
  | lst a b => exact itF rfl (q H1 (Ex.refl _))
end
end K4

set_option maxHeartbeats 4000000
namespace K4
open PySem L2 Evl DL PJ PG TL
section
variable {P : Program} {w : World} {K : PySem.W.Frag} {mg : Str → Option Value} {base : Heap}
/-! ### right sides -/
theorem ne_nil {H : Hp} {a p : Addr} {xs : List V} {d0 : PyData} {dr : List PyData} (hS : SqT K H a xs) (hxs : DpAll K H xs (d0 :: dr)) (ok : okd (.tuple (d0 :: dr)) = true) (hp : H p = some (.tup [])) {Q : VK} (q : Q (.bl false) H) : rEqD K (.ref a) (.ref p) H Q :=
  ⟨.tuple (d0 :: dr), .tuple [], .tup hS hxs, .tup (st_of hp) .nil, okd_shaped ok, rfl, q⟩
theorem bd_rside : BindP "is_right_side" s_is_right_side ["value"] := fun _ _ _ _ _ _ us hl => match us, hl with | [_], _ => rfl
theorem ok_rside (T : Txt K mg) : DefOk P w K mg base CX0 false 5 "is_right_side" s_is_right_side ["value"] (spB K rsD fun d => okd d = true) := by
  refine T.d_is_right_side.ok scs_is_right_side len_spB (fun f cdv A outer s H vs Q E hr h => ?_)
  obtain ⟨v, d, rfl, hd, ok, k⟩ := h
  have nd := scs_is_right_side.nd
  refine ⟨_, pss_cons (ps_if (PW.pt (pw_or (pt_not (pt_val (pe_callB call_isa (by rfl) T.b_isinstance (by decide +kernel) (pa_cons (pv 0) (pa_cons (pe_bltn (v := .ty "tuple") (by rfl) T.b_tuple (by decide +kernel) rfl) pa_nil)))))
      (pw_or (pt_cmpR (op_eqD hr.units) (pv 0) (pe_tup pa_nil) (nomark _))
        (pw_or1 (pt_not (pt_val (pe_callB call_isa (by rfl) T.b_isinstance (by decide +kernel) (pa_cons (pe_ix ix_tup (pv 0) pe_int (fun _ _ => rfl)) (pa_cons (pe_bltn (v := .ty "str") (by rfl) T.b_str (by decide +kernel) rfl) pa_nil))))))))) (pss_one (ps_ret pe_bl)) pss_nil)
    (pss_cons (ps_if (pt_cmpR op_in_seq (pe_ix ix_tup (pv 0) pe_int (fun _ _ => rfl)) (pe_tupc T.c_OPS) (by with_unfolding_all rfl))
      (pss_one (ps_ret (pe_and (pe_cmpR op_eq (pe_callB call_len_seq (by rfl) T.b_len PySem.boot_len (pa_cons (pv 0) pa_nil)) pe_int (nomark _))
        (pe_and (pe_callD (ok_atom T) (hr.mono (by decide)) (.inl rfl) bd_atom pass0 (pa_cons (pe_ix ix_tup (pv 0) pe_int (fun _ _ => rfl)) pa_nil)) (pe_one (pe_callD (ok_atom T) (hr.mono (by decide)) (.inl rfl) bd_atom pass0 (pa_cons (pe_ix ix_tup (pv 0) pe_int (fun _ _ => rfl)) pa_nil))))))) pss_nil)
    (pss_cons (ps_if (pt_cmpR op_ne (pe_callB call_len_seq (by rfl) T.b_len PySem.boot_len (pa_cons (pv 0) pa_nil)) (pe_tget2 T.t_RIGHT_LONG (pe_ix ix_tup (pv 0) pe_int (fun _ _ => rfl)) pe_int ⟨rfl, rfl, rfl, rfl⟩) (nomark _)) (pss_one (ps_ret pe_bl)) pss_nil)
    (pss_cons (ps_if (pt_cmpR op_eq (pe_ix ix_tup (pv 0) pe_int (fun _ _ => rfl)) pe_str (nomark _))
      (pss_one (ps_ret (pe_and (pe_callD (ok_params T) (hr.mono (by decide)) (.inl rfl) bd_params pass0 (pa_cons (pe_ix ix_tup (pv 0) pe_int (fun _ _ => rfl)) pa_nil)) (pe_one (pe_callB call_isa (by rfl) T.b_isinstance (by decide +kernel) (pa_cons (pe_ix ix_tup (pv 0) pe_int (fun _ _ => rfl)) (pa_cons (pe_bltn (v := .ty "tuple") (by rfl) T.b_tuple (by decide +kernel) rfl) pa_nil))))))) pss_nil)
    (pss_cons (ps_if (pt_cmpR op_eq (pe_ix ix_tup (pv 0) pe_int (fun _ _ => rfl)) pe_str (nomark _))
      (pss_one (ps_ret (pe_and (pe_callD (ok_atom T) (hr.mono (by decide)) (.inl rfl) bd_atom pass0 (pa_cons (pe_ix ix_tup (pv 0) pe_int (fun _ _ => rfl)) pa_nil)) (pe_one (pe_callD (ok_atoms T) hr (.inl rfl) bd_atoms pass0 (pa_cons (pe_ix ix_tup (pv 0) pe_int (fun _ _ => rfl)) pa_nil)))))) pss_nil)
    (pss_one (ps_ret (pe_callB (cr_all rfl) (by rfl) T.b_all (by decide +kernel) (pa_cons (pe_lc (own := [("each", 1)]) (g := gName 1) (tt := tYes) rfl nd (pi_tup (pe_slice sl_tup (pv 0) (po_some pe_int) po_none)) (blkOk_by (N := ["value", "each"]) (sc := defScope s_is_right_side) (by decide +kernel))
        (fun _ _ _ _ _ => pg_name (i := 1) nd rfl (.inl rfl)) (fun _ _ _ _ _ => pts_nil) (fun _ _ _ _ _ => pe_callD (ok_atom T) (hr.mono (by decide)) (.inl rfl) bd_atom pass0 (pa_cons (pv 1) pa_nil))) pa_nil)))))))), ?_⟩
  refine ⟨_, rfl, _, _, d, rfl, hd, by simp, _, rfl, ?_⟩
  cases hd with
  | @tup a xs ds hS hxs =>
    refine itF rfl ⟨_, rfl, sz_of (Nat.zero_le _), fun p hp => ?_⟩
    have e1 : Ex H (L2.upd H p (.tup [])) := Ex.new hp
    cases hxs with
    | nil => exact ⟨.tuple [], .tuple [], .tup (ex_t e1 hS) .nil, .tup (st_of upd_same) .nil, rfl, rfl, _, rfl, itT rfl (k _ e1)⟩
    | @cons x0 xr d0 dr h0 hr0 =>
      have hS1 := ex_t e1 hS
      refine ne_nil hS1 (dpa_ex e1 (.cons h0 hr0)) ok upd_same ⟨_, rfl, itF rfl ?_⟩
      refine ⟨_, rfl, a, _, 0, x0, rfl, rfl, hS1, atI_nat (j := 0) rfl, x0, "str", d0, rfl, dp_ex e1 h0, by simp, _, rfl, ?_⟩
      cases h0 with
      | str w =>
        refine itF rfl ⟨_, rfl, a, _, 0, _, rfl, rfl, hS1, atI_nat (j := 0) rfl, fun b hb => ⟨b, _, rfl, .inr (hb _), rfl, rfl, _, rfl, ?_⟩⟩
        have ei : inV (.str w) [.str "+", .str "-", .str "*", .str "<", .str "="] = opsL.contains w := inV_strs w opsL
        have hr1 := dpa_ex e1 hr0
        have lr := dpa_len hr0
        have okm : ∀ {x : PyData}, x ∈ dr → okd x = true := fun hm => okd_mem ok (List.mem_cons_of_mem _ hm)
        cases ho : opsL.contains w with
        | true =>
          have q := k
          rw [rs_ops ho] at q
          refine itT (ei.trans ho) ⟨_, rfl, a, _, rfl, .inr hS1, rfl, _, rfl, ?_⟩
          by_cases h2 : dr.length = 2
          · match dr, xr, hr1, h2, lr with
            | [d1, d2], [x1, x2], .cons g1 (.cons g2 .nil), _, _ =>
              refine itT (ieq rfl) ⟨_, rfl, a, _, 1, _, rfl, rfl, hS1, atI_nat (j := 1) rfl, x1, d1, rfl, g1, okm (by simp), fun H2 e2 => ⟨_, rfl, ?_⟩⟩
              have q := fun H' e => q H' ((e1.trans e2).trans e)
              cases h3 : atD d1 with
              | false =>
                have q := q H2 (Ex.refl _)
                rw [two, h3, Bool.false_and] at q
                exact itF rfl q
              | true =>
                refine itT rfl ⟨_, rfl, a, _, 2, _, rfl, rfl, ex_t e2 hS1, atI_nat (j := 2) rfl, x2, d2, rfl, dp_ex e2 g2, okm (by simp), fun H3 e3 => ?_⟩
                have q := q H3 e3
                rw [two, h3, Bool.true_and] at q
                exact q
          · have q := q _ e1
            rw [two_no h2] at q
            refine itF (ine ?_) q
            simp only [List.length_cons]
            omega
        | false =>
          have q := k
          rw [rs_else ho] at q
          refine itF (ei.trans ho) ⟨_, rfl, a, _, rfl, .inr hS1, _, rfl, a, _, 0, _, rfl, rfl, hS1, atI_nat (j := 0) rfl, w, rfl, ?_⟩
          have hn : (((tabAt w [("atom", 2), ("pair", 3), ("left", 2), ("right", 2), ("paired", 2), ("fun", 3), ("call", 3)]).map V.int).getD (V.int 0)) = V.int ((tabAt w longs).getD 0) := by
            show ((tabAt w longs).map V.int).getD (V.int 0) = _
            cases tabAt w longs <;> rfl
          rw [hn]
          refine ⟨rfl, _, rfl, ?_⟩
          by_cases hl : (dr.length : Int) + 1 = (tabAt w longs).getD 0
          · rw [decide_eq_true hl, Bool.true_and] at q
            refine itF (by rw [ieq (by simp only [List.length_cons]; omega)]; rfl) ⟨_, rfl, a, _, 0, _, rfl, rfl, hS1, atI_nat (j := 0) rfl, rfl, _, rfl, ?_⟩
            by_cases hf : w = "fun"
            · rw [if_pos hf] at q
              have l2 : dr.length = 2 := by
                rw [hf, show tabAt "fun" longs = some 3 by decide +kernel] at hl
                simp only [Option.getD_some] at hl
                omega
              match dr, xr, hr1, l2, lr with
              | [d1, d2], [x1, x2], .cons g1 (.cons g2 .nil), _, _ =>
                refine itT (str_eq hf) ⟨_, rfl, a, _, 1, _, rfl, rfl, hS1, atI_nat (j := 1) rfl, x1, d1, rfl, g1, okm (by simp), fun H2 e2 => ⟨_, rfl, ?_⟩⟩
                have q := fun H' e => q H' ((e1.trans e2).trans e)
                cases h3 : parD d1 with
                | false =>
                  have q := q H2 (Ex.refl _)
                  rw [two, h3, Bool.false_and] at q
                  exact itF rfl q
                | true =>
                  refine itT rfl ⟨_, rfl, a, _, 2, _, rfl, rfl, ex_t e2 hS1, atI_nat (j := 2) rfl, x2, "tuple", d2, rfl, dp_ex e2 g2, by simp, ?_⟩
                  have q := q H2 (Ex.refl _)
                  rw [two, h3, Bool.true_and] at q
                  rw [show isaD d2 "tuple" = isT d2 by cases d2 <;> rfl]
                  exact q
            · rw [if_neg hf] at q
              refine itF (str_ne hf) ⟨_, rfl, a, _, 0, _, rfl, rfl, hS1, atI_nat (j := 0) rfl, rfl, _, rfl, ?_⟩
              by_cases hc : w = "call"
              · rw [if_pos hc] at q
                have l2 : dr.length = 2 := by
                  rw [hc, show tabAt "call" longs = some 3 by decide +kernel] at hl
                  simp only [Option.getD_some] at hl
                  omega
                match dr, xr, hr1, l2, lr with
                | [d1, d2], [x1, x2], .cons g1 (.cons g2 .nil), _, _ =>
                  refine itT (str_eq hc) ⟨_, rfl, a, _, 1, _, rfl, rfl, hS1, atI_nat (j := 1) rfl, x1, d1, rfl, g1, okm (by simp), fun H2 e2 => ⟨_, rfl, ?_⟩⟩
                  have q := fun H' e => q H' ((e1.trans e2).trans e)
                  cases h3 : atD d1 with
                  | false =>
                    have q := q H2 (Ex.refl _)
                    rw [two, h3, Bool.false_and] at q
                    exact itF rfl q
                  | true =>
                    refine itT rfl ⟨_, rfl, a, _, 2, _, rfl, rfl, ex_t e2 hS1, atI_nat (j := 2) rfl, x2, d2, rfl, dp_ex e2 g2, okm (by simp), fun H3 e3 => ?_⟩
                    have q := q H3 e3
                    rw [two, h3, Bool.true_and] at q
                    exact q
              · rw [if_neg hc] at q
                refine itF (str_ne hc) ?_
                dsimp only [tNext, tRet, tCB, tCons, tNil]
                have hne : dr.length + 1 ≤ 1000000 := okd_len ok
                refine lc_tupS1 (K := K) (a := a) (xs := .str w :: xr) (R := fun j v => v = .bl ((fun j => match dr[j]? with | some c => atD c | none => true) j)) (σ := [some (.ref a), none]) (n := 0) rfl hS1 (by simp) (by simp; omega) (fun j x H' hx e Q' kk => ?_) (fun p vs H' nP e hp hvl hR => ?_)
                · obtain ⟨c, hc, hdc⟩ := dpa_getV hr0 hx
                  exact ⟨_, rfl, x, c, rfl, dp_ex (e1.trans e) hdc, okm (List.mem_of_getElem? hc), fun H2 e2 => kk _ H2 e2 (by dsimp only; rw [hc])⟩
                · refine all_bools _ dr.length hp (by simp at hvl; omega) hR ?_
                  rw [range_all dr atD _ (fun j c hc => by rw [hc])]
                  exact q H' (e1.trans e)
          · rw [decide_eq_false hl, Bool.false_and] at q
            refine itT (by rw [ine (by simp only [List.length_cons]; omega)]; rfl) (q _ e1)
      | int i => exact itT rfl (k _ e1)
      | non => exact itT rfl (k _ e1)
      | bl b => exact itT rfl (k _ e1)
      | lst _ _ => exact itT rfl (k _ e1)
      | tup _ _ => exact itT rfl (k _ e1)
  | int i => exact itT rfl (k _ (Ex.refl _))
  | non => exact itT rfl (k _ (Ex.refl _))
  | bl b => exact itT rfl (k _ (Ex.refl _))
  | str x => exact itT rfl (k _ (Ex.refl _))
  | lst a b => exact itT rfl (k _ (Ex.refl _))
end
end K4

set_option maxHeartbeats 4000000
namespace K4
open PySem L2 Evl DL PJ PG TL
section
variable {P : Program} {w : World} {K : PySem.W.Frag} {mg : Str → Option Value} {base : Heap}
theorem bd_stmt : BindP "is_statement" s_is_statement ["value"] := fun _ _ _ _ _ _ us hl => match us, hl with | [_], _ => rfl
theorem ok_stmt (T : Txt K mg) : DefOk P w K mg base CX0 false 6 "is_statement" s_is_statement ["value"] (spB K stD fun d => okd d = true) := by
  refine T.d_is_statement.ok scs_is_statement len_spB (fun f cdv A outer s H vs Q E hr h => ?_)
  obtain ⟨v, d, rfl, hd, ok, k⟩ := h
  have nd := scs_is_statement.nd
  refine ⟨_, pss_cons (ps_if (pt_val (pe_callD (ok_tupof T) (hr.mono (by decide)) (.inl rfl) bd_tupof pass0 (pa_cons (pv 0) (pa_cons pe_int pa_nil))))
      (pss_one (ps_ret (pe_and (pe_callD (ok_oneof T) (hr.mono (by decide)) (.inl rfl) bd_oneof pass0 (pa_cons (pe_ix ix_tup (pv 0) pe_int (fun _ _ => rfl)) (pa_cons (pe_tup (pa_cons pe_str pa_nil)) pa_nil))) (pe_one (pe_callD (ok_atom T) (hr.mono (by decide)) (.inl rfl) bd_atom pass0 (pa_cons (pe_ix ix_tup (pv 0) pe_int (fun _ _ => rfl)) pa_nil)))))) pss_nil)
    (pss_one (ps_ret (pe_and (pe_callD (ok_tupof T) (hr.mono (by decide)) (.inl rfl) bd_tupof pass0 (pa_cons (pv 0) (pa_cons pe_int pa_nil)))
      (pe_and (pe_callD (ok_oneof T) (hr.mono (by decide)) (.inl rfl) bd_oneof pass0 (pa_cons (pe_ix ix_tup (pv 0) pe_int (fun _ _ => rfl)) (pa_cons (pe_tup (pa_cons pe_str pa_nil)) pa_nil)))
      (pe_and (pe_callD (ok_name T) (hr.mono (by decide)) (.inl rfl) bd_name pass0 (pa_cons (pe_ix ix_tup (pv 0) pe_int (fun _ _ => rfl)) pa_nil))
      (pe_one (pe_callD (ok_rside T) hr (.inl rfl) bd_rside pass0 (pa_cons (pe_ix ix_tup (pv 0) pe_int (fun _ _ => rfl)) pa_nil)))))))), ?_⟩
  refine ⟨_, rfl, v, d, 2, rfl, hd, fun H1 e1 => ⟨_, rfl, ?_⟩⟩
  have out : ∀ {H'} (e : Ex H1 H'), tupOf d 2 = false → tupOf d 3 = false → Q (.bl false) H' := fun e h2 h3 => by
    have q := k _ (e1.trans e)
    rw [st_no h2 h3] at q
    exact q
  by_cases h2 : tupOf d 2 = true
  · refine itT h2 ?_
    cases hd with
    | @tup a xs ds hS hxs =>
      have l2 : ds.length = 2 := of_decide_eq_true h2
      have lr := dpa_len hxs
      match ds, xs, hxs, l2, lr with
      | [d0, d1], [x0, x1], .cons g0 (.cons g1 .nil), _, _ =>
        have hS1 := ex_t e1 hS
        refine ⟨_, rfl, a, _, 0, x0, rfl, rfl, hS1, atI_nat (j := 0) rfl, sz_of (by simp), fun b hb => ?_⟩
        have e2 : Ex H1 (L2.upd H1 b (.tup [.str "say"])) := Ex.new hb
        refine ⟨x0, d0, b, ["say"], rfl, dp_ex (e1.trans e2) g0, st_of upd_same, fun H3 e3 => ⟨_, rfl, ?_⟩⟩
        have q := fun H' e => k H' ((e1.trans (e2.trans e3)).trans e)
        cases h3 : oneS d0 ["say"] with
        | false =>
          have q := q _ (Ex.refl _)
          rw [stD2, h3, Bool.false_and] at q
          exact itF rfl q
        | true =>
          refine itT rfl ⟨_, rfl, a, _, 1, x1, rfl, rfl, ex_t (e2.trans e3) hS1, atI_nat (j := 1) rfl, x1, d1, rfl, dp_ex (e1.trans (e2.trans e3)) g1, okd_mem ok (by simp), fun H4 e4 => ?_⟩
          have q := q _ e4
          rw [stD2, h3, Bool.true_and] at q
          exact q
    | int _ => cases h2
    | non => cases h2
    | bl _ => cases h2
    | str _ => cases h2
    | lst _ _ => cases h2
  · have h2 : tupOf d 2 = false := by simpa using h2
    refine itF h2 ⟨_, rfl, v, d, 3, rfl, dp_ex e1 hd, fun H2 e2 => ⟨_, rfl, ?_⟩⟩
    by_cases h3 : tupOf d 3 = true
    · refine itT h3 ?_
      cases hd with
      | @tup a xs ds hS hxs =>
        have l3 : ds.length = 3 := of_decide_eq_true h3
        have lr := dpa_len hxs
        match ds, xs, hxs, l3, lr with
        | [d0, d1, d2], [x0, x1, x2], .cons g0 (.cons g1 (.cons g2 .nil)), _, _ =>
          have hS1 := ex_t (e1.trans e2) hS
          refine ⟨_, rfl, a, _, 0, x0, rfl, rfl, hS1, atI_nat (j := 0) rfl, sz_of (by simp), fun b hb => ?_⟩
          have e3 : Ex H2 (L2.upd H2 b (.tup [.str "let"])) := Ex.new hb
          refine ⟨x0, d0, b, ["let"], rfl, dp_ex ((e1.trans e2).trans e3) g0, st_of upd_same, fun H4 e4 => ⟨_, rfl, ?_⟩⟩
          have e24 := e3.trans e4
          have q := fun H' e => k H' ((e1.trans (e2.trans e24)).trans e)
          cases h4 : oneS d0 ["let"] with
          | false =>
            have q := q _ (Ex.refl _)
            rw [stD3, h4, Bool.false_and] at q
            exact itF rfl q
          | true =>
            refine itT rfl ⟨_, rfl, a, _, 1, x1, rfl, rfl, ex_t e24 hS1, atI_nat (j := 1) rfl, x1, d1, rfl, dp_ex (e1.trans (e2.trans e24)) g1, okd_mem ok (by simp), fun H5 e5 => ⟨_, rfl, ?_⟩⟩
            have q := fun H' e => q H' (e5.trans e)
            cases h5 : nmD d1 with
            | false =>
              have q := q _ (Ex.refl _)
              rw [stD3, h4, h5, Bool.true_and, Bool.false_and] at q
              exact itF rfl q
            | true =>
              refine itT rfl ⟨_, rfl, a, _, 2, x2, rfl, rfl, ex_t (e24.trans e5) hS1, atI_nat (j := 2) rfl, x2, d2, rfl, dp_ex ((e1.trans (e2.trans e24)).trans e5) g2, okd_mem ok (by simp), fun H6 e6 => ?_⟩
              have q := q _ e6
              rw [stD3, h4, h5, Bool.true_and, Bool.true_and] at q
              exact q
      | int _ => cases h3
      | non => cases h3
      | bl _ => cases h3
      | str _ => cases h3
      | lst _ _ => cases h3
    · have h3 : tupOf d 3 = false := by simpa using h3
      exact itF h3 (out e2 h2 h3)
end
end K4

set_option maxHeartbeats 4000000
namespace K4
open PySem L2 Evl DL PJ PG TL
section
variable {P : Program} {w : World} {K : PySem.W.Frag} {mg : Str → Option Value} {base : Heap}
theorem bd_end : BindP "is_end" s_is_end ["value"] := fun _ _ _ _ _ _ us hl => match us, hl with | [_], _ => rfl
theorem ok_end (T : Txt K mg) : DefOk P w K mg base CX0 false 5 "is_end" s_is_end ["value"] (spB K enD fun d => okd d = true) := by
  refine T.d_is_end.ok scs_is_end len_spB (fun f cdv A outer s H vs Q E hr h => ?_)
  obtain ⟨v, d, rfl, hd, ok, k⟩ := h
  have nd := scs_is_end.nd
  refine ⟨_, pss_cons (ps_if (PW.pt (pw_or (pt_not (pt_val (pe_callB call_isa (by rfl) T.b_isinstance (by decide +kernel) (pa_cons (pv 0) (pa_cons (pe_bltn (v := .ty "tuple") (by rfl) T.b_tuple (by decide +kernel) rfl) pa_nil)))))
      (pw_or (pt_cmpR (op_eqD hr.units) (pv 0) (pe_tup pa_nil) (nomark _))
        (pw_or1 (pt_not (pt_val (pe_callD (ok_oneof T) (hr.mono (by decide)) (.inl rfl) bd_oneof pass0 (pa_cons (pe_ix ix_tup (pv 0) pe_int (fun _ _ => rfl)) (pa_cons (pe_tupc T.c_ENDS) pa_nil))))))))) (pss_one (ps_ret pe_bl)) pss_nil)
    (pss_cons (ps_if (pt_cmpR op_eq (pe_ix ix_tup (pv 0) pe_int (fun _ _ => rfl)) pe_str (nomark _))
      (pss_one (ps_ret (pe_and (pe_cmpR op_eq (pe_callB call_len_seq (by rfl) T.b_len PySem.boot_len (pa_cons (pv 0) pa_nil)) pe_int (nomark _)) (pe_one (pe_callD (ok_atom T) (hr.mono (by decide)) (.inl rfl) bd_atom pass0 (pa_cons (pe_ix ix_tup (pv 0) pe_int (fun _ _ => rfl)) pa_nil)))))) pss_nil)
    (pss_cons (ps_if (pt_cmpR op_eq (pe_ix ix_tup (pv 0) pe_int (fun _ _ => rfl)) pe_str (nomark _))
      (pss_one (ps_ret (pe_and (pe_cmpR op_eq (pe_callB call_len_seq (by rfl) T.b_len PySem.boot_len (pa_cons (pv 0) pa_nil)) pe_int (nomark _)) (pe_and (pe_callD (ok_atom T) (hr.mono (by decide)) (.inl rfl) bd_atom pass0 (pa_cons (pe_ix ix_tup (pv 0) pe_int (fun _ _ => rfl)) pa_nil))
        (pe_one (pe_callD (ok_atoms T) hr (.inl rfl) bd_atoms pass0 (pa_cons (pe_ix ix_tup (pv 0) pe_int (fun _ _ => rfl)) pa_nil))))))) pss_nil)
    (pss_one (ps_ret (pe_and (pe_cmpR op_eq (pe_callB call_len_seq (by rfl) T.b_len PySem.boot_len (pa_cons (pv 0) pa_nil)) pe_int (nomark _)) (pe_and (pe_callD (ok_atom T) (hr.mono (by decide)) (.inl rfl) bd_atom pass0 (pa_cons (pe_ix ix_tup (pv 0) pe_int (fun _ _ => rfl)) pa_nil))
        (pe_and (pe_callB call_isa (by rfl) T.b_isinstance (by decide +kernel) (pa_cons (pe_ix ix_tup (pv 0) pe_int (fun _ _ => rfl)) (pa_cons (pe_bltn (v := .ty "tuple") (by rfl) T.b_tuple (by decide +kernel) rfl) pa_nil)))
        (pe_one (pe_callB call_isa (by rfl) T.b_isinstance (by decide +kernel) (pa_cons (pe_ix ix_tup (pv 0) pe_int (fun _ _ => rfl)) (pa_cons (pe_bltn (v := .ty "tuple") (by rfl) T.b_tuple (by decide +kernel) rfl) pa_nil))))))))))), ?_⟩
  refine ⟨_, rfl, _, _, d, rfl, hd, by simp, _, rfl, ?_⟩
  cases hd with
  | @tup a xs ds hS hxs =>
    refine itF rfl ⟨_, rfl, sz_of (Nat.zero_le _), fun p hp => ?_⟩
    have e1 : Ex H (L2.upd H p (.tup [])) := Ex.new hp
    cases hxs with
    | nil => exact ⟨.tuple [], .tuple [], .tup (ex_t e1 hS) .nil, .tup (st_of upd_same) .nil, rfl, rfl, _, rfl, itT rfl (k _ e1)⟩
    | @cons x0 xr d0 dr h0 hr0 =>
      have hS1 := ex_t e1 hS
      refine ne_nil hS1 (dpa_ex e1 (.cons h0 hr0)) ok upd_same ⟨_, rfl, itF rfl ?_⟩
      refine ⟨_, rfl, a, _, 0, x0, rfl, rfl, hS1, atI_nat (j := 0) rfl, fun b hb => ⟨x0, d0, b, endsL, rfl, dp_ex e1 h0, hb _, fun H2 e2 => ⟨_, rfl, ?_⟩⟩⟩
      have q := fun H' e => k H' ((e1.trans e2).trans e)
      have okm : ∀ {x : PyData}, x ∈ dr → okd x = true := fun hm => okd_mem ok (List.mem_cons_of_mem _ hm)
      have hr2 := dpa_ex (e1.trans e2) hr0
      have hS2 := ex_t e2 hS1
      have lr := dpa_len hr0
      cases h0 with
      | str w =>
        cases he : oneS (.str w) endsL with
        | false =>
          have q := q _ (Ex.refl _)
          have hne : w ≠ "give" ∧ w ≠ "tail" ∧ w ≠ "if" := by
            have he : endsL.contains w = false := he
            simp only [endsL, List.contains_cons, Bool.or_eq_false_iff, beq_eq_false_iff_ne] at he
            exact ⟨he.1, he.2.1, he.2.2.1⟩
          rw [enD, if_neg hne.1, if_neg hne.2.1, if_neg hne.2.2] at q
          exact itT rfl q
        | true =>
          refine itF rfl ⟨_, rfl, a, _, 0, _, rfl, rfl, hS2, atI_nat (j := 0) rfl, rfl, _, rfl, ?_⟩
          by_cases hg : w = "give"
          · subst hg
            refine itT (str_eq rfl) ⟨_, rfl, a, _, rfl, .inr hS2, rfl, _, rfl, ?_⟩
            rw [enD, if_pos rfl] at q
            by_cases l1 : dr.length = 1
            · match dr, xr, hr2, l1, lr with
              | [d1], [x1], .cons g1 .nil, _, _ =>
                exact itT (ieq rfl) ⟨_, rfl, a, _, 1, x1, rfl, rfl, hS2, atI_nat (j := 1) rfl, x1, d1, rfl, g1, okm (by simp), fun H3 e3 => q H3 e3⟩
            · have q := q _ (Ex.refl _)
              rw [show one1 dr atD = false by match dr, l1 with | [], _ => rfl | [_], h => exact absurd rfl h | _ :: _ :: _, _ => rfl] at q
              exact itF (ine (by simp only [List.length_cons]; omega)) q
          · rw [enD, if_neg hg] at q
            refine itF (str_ne hg) ⟨_, rfl, a, _, 0, _, rfl, rfl, hS2, atI_nat (j := 0) rfl, rfl, _, rfl, ?_⟩
            by_cases ht : w = "tail"
            · subst ht
              rw [if_pos rfl] at q
              refine itT (str_eq rfl) ⟨_, rfl, a, _, rfl, .inr hS2, rfl, _, rfl, ?_⟩
              by_cases l2 : dr.length = 2
              · match dr, xr, hr2, l2, lr with
                | [d1, d2], [x1, x2], .cons g1 (.cons g2 .nil), _, _ =>
                  refine itT (ieq rfl) ⟨_, rfl, a, _, 1, x1, rfl, rfl, hS2, atI_nat (j := 1) rfl, x1, d1, rfl, g1, okm (by simp), fun H3 e3 => ⟨_, rfl, ?_⟩⟩
                  have q := fun H' e => q H' (e3.trans e)
                  cases h3 : atD d1 with
                  | false =>
                    have q := q _ (Ex.refl _)
                    rw [two, h3, Bool.false_and] at q
                    exact itF rfl q
                  | true =>
                    refine itT rfl ⟨_, rfl, a, _, 2, x2, rfl, rfl, ex_t e3 hS2, atI_nat (j := 2) rfl, x2, d2, rfl, dp_ex e3 g2, okm (by simp), fun H4 e4 => ?_⟩
                    have q := q _ e4
                    rw [two, h3, Bool.true_and] at q
                    exact q
              · have q := q _ (Ex.refl _)
                rw [two_no l2] at q
                exact itF (ine (by simp only [List.length_cons]; omega)) q
            · rw [if_neg ht] at q
              have hif : w = "if" := by
                have he : endsL.contains w = true := he
                simp only [endsL, List.contains_cons, Bool.or_eq_true, beq_iff_eq] at he
                rcases he with h | h | h | h
                · exact absurd h hg
                · exact absurd h ht
                · exact h
                · cases h
              rw [if_pos hif] at q
              refine itF (str_ne ht) ⟨_, rfl, a, _, rfl, .inr hS2, rfl, _, rfl, ?_⟩
              by_cases l3 : dr.length = 3
              · match dr, xr, hr2, l3, lr with
                | [d1, d2, d3], [x1, x2, x3], .cons g1 (.cons g2 (.cons g3 .nil)), _, _ =>
                  refine itT (ieq rfl) ⟨_, rfl, a, _, 1, x1, rfl, rfl, hS2, atI_nat (j := 1) rfl, x1, d1, rfl, g1, okm (by simp), fun H3 e3 => ⟨_, rfl, ?_⟩⟩
                  have q := q H3 e3
                  cases h3 : atD d1 with
                  | false =>
                    rw [thr, h3, Bool.false_and] at q
                    exact itF rfl q
                  | true =>
                    rw [thr, h3, Bool.true_and] at q
                    refine itT rfl ⟨_, rfl, a, _, 2, x2, rfl, rfl, ex_t e3 hS2, atI_nat (j := 2) rfl, x2, "tuple", d2, rfl, dp_ex e3 g2, by simp, _, rfl, ?_⟩
                    rw [show isaD d2 "tuple" = isT d2 by cases d2 <;> rfl]
                    cases h4 : isT d2 with
                    | false =>
                      rw [h4, Bool.false_and] at q
                      exact itF rfl q
                    | true =>
                      rw [h4, Bool.true_and] at q
                      refine itT rfl ⟨_, rfl, a, _, 3, x3, rfl, rfl, ex_t e3 hS2, atI_nat (j := 3) rfl, x3, "tuple", d3, rfl, dp_ex e3 g3, by simp, ?_⟩
                      rw [show isaD d3 "tuple" = isT d3 by cases d3 <;> rfl]
                      exact q
              · have q := q _ (Ex.refl _)
                rw [show thr dr _ = false by match dr, l3 with | [], _ => rfl | [_], _ => rfl | [_, _], _ => rfl | [_, _, _], h => exact absurd rfl h | _ :: _ :: _ :: _ :: _, _ => rfl] at q
                exact itF (ine (by simp only [List.length_cons]; omega)) q
      | int i => exact itT rfl (q _ (Ex.refl _))
      | non => exact itT rfl (q _ (Ex.refl _))
      | bl b => exact itT rfl (q _ (Ex.refl _))
      | lst _ _ => exact itT rfl (q _ (Ex.refl _))
      | tup _ _ => exact itT rfl (q _ (Ex.refl _))
  | int i => exact itT rfl (k _ (Ex.refl _))
  | non => exact itT rfl (k _ (Ex.refl _))
  | bl b => exact itT rfl (k _ (Ex.refl _))
  | str x => exact itT rfl (k _ (Ex.refl _))
  | lst a b => exact itT rfl (k _ (Ex.refl _))
end
end K4

set_option maxHeartbeats 4000000
namespace PJ
open PySem L2 Evl DL TL PG
theorem la_cons (s t : PyData) (r : List PyData) : laD (s :: t :: r) = (stD s && laD (t :: r)) := rfl
theorem la_app : ∀ (ds : List PyData) (d : PyData), laD (ds ++ [d]) = (ds.all stD && enD d)
  | [], d => rfl
  | s :: r, d => by
    have h := la_app r d
    cases r with
    | nil =>
      show (stD s && laD [d]) = _
      rw [List.all_cons, List.all_nil, Bool.and_true]
      rfl
    | cons t r =>
      show (stD s && laD (t :: r ++ [d])) = _
      rw [h, List.all_cons (a := s), Bool.and_assoc]
theorem la_mem {ds : List PyData} (h : laD ds = true) {d : PyData} (hd : d ∈ ds) : stD d = true ∨ enD d = true := by
  rcases List.eq_nil_or_concat ds with rfl | ⟨l, e, rfl⟩
  · cases hd
  · rw [List.concat_eq_append] at h hd
    rw [la_app, Bool.and_eq_true, List.all_eq_true] at h
    rcases List.mem_append.mp hd with m | m
    · exact .inl (h.1 d m)
    · cases List.mem_singleton.mp m
      exact .inr h.2
/-! ### what a statement is, as far as bodies in it go -/
inductive Shp : PyData → List PyData → Prop
  | oth {w : Str} {r : List PyData} (h1 : w ≠ "let") (h2 : w ≠ "if") : Shp (.tuple (.str w :: r)) []
  | letp {x : PyData} {w : Str} {r : List PyData} (h : w ≠ "fun") : Shp (.tuple [.str "let", x, .tuple (.str w :: r)]) []
  | letf {x p : PyData} {b : List PyData} : Shp (.tuple [.str "let", x, .tuple [.str "fun", p, .tuple b]]) [.tuple b]
  | cond {a : PyData} {b c : List PyData} : Shp (.tuple [.str "if", a, .tuple b, .tuple c]) [.tuple b, .tuple c]
theorem inn_w (w : Str) (r : List PyData) : inn (.tuple (.str w :: r)) = if w = "if" then ifB r else if w = "let" then letB r else [] := rfl
theorem letB_w (x : PyData) (v : Str) (t : List PyData) : letB [x, .tuple (.str v :: t)] = if v = "fun" then funB t else [] := rfl
theorem shp_inn {d : PyData} {l : List PyData} (h : Shp d l) : inn d = l := by
  cases h with
  | oth h1 h2 => rw [inn_w, if_neg h2, if_neg h1]
  | letp h => rw [inn_w, if_neg (by decide +kernel), if_pos rfl, letB_w, if_neg h]
  | letf => rw [inn_w, if_neg (by decide +kernel), if_pos rfl, letB_w, if_pos rfl]; rfl
  | cond => rw [inn_w, if_pos rfl]; rfl
theorem one_str {d : PyData} {w : Str} (h : oneS d [w] = true) : d = .str w := by
  cases d with
  | str x =>
    have h : (x == w || false) = true := h
    rw [Bool.or_false] at h
    rw [eq_of_beq h]
  | _ => cases h
theorem isT_of {d : PyData} (h : isT d = true) : ∃ b, d = .tuple b := by
  cases d with
  | tuple b => exact ⟨b, rfl⟩
  | _ => cases h
theorem shp_let {x r : PyData} (hr : rsD r = true) : ∃ l, Shp (.tuple [.str "let", x, r]) l := by
  cases r with
  | tuple l =>
    cases l with
    | nil => cases hr
    | cons d0 t =>
      cases d0 with
      | str w =>
        by_cases hw : w = "fun"
        · subst hw
          rw [rs_else (by decide +kernel), show tabAt "fun" longs = some 3 by decide +kernel, Bool.and_eq_true, if_pos rfl] at hr
          have l2 : t.length = 2 := by have := of_decide_eq_true hr.1; simp only [Option.getD_some] at this; omega
          match t, l2, hr.2 with
          | [a, b], _, h =>
            have h : (parD a && isT b) = true := h
            rw [Bool.and_eq_true] at h
            obtain ⟨b, rfl⟩ := isT_of h.2
            exact ⟨_, .letf⟩
        · exact ⟨_, .letp hw⟩
      | _ => cases hr
  | _ => cases hr
theorem shp_of {d : PyData} (h : stD d = true ∨ enD d = true) : ∃ l, Shp d l := by
  rcases h with h | h
  · cases d with
    | tuple l =>
      match l, h with
      | [d0, d1], h =>
        rw [stD2, Bool.and_eq_true] at h
        obtain rfl := one_str h.1
        exact ⟨_, .oth (by decide +kernel) (by decide +kernel)⟩
      | [d0, d1, d2], h =>
        rw [stD3, Bool.and_eq_true, Bool.and_eq_true] at h
        obtain rfl := one_str h.1
        exact shp_let h.2.2
      | [], h => cases h
      | [_], h => cases h
      | _ :: _ :: _ :: _ :: _, h => cases h
    | _ => cases h
  · cases d with
    | tuple l =>
      cases l with
      | nil => cases h
      | cons d0 r =>
        cases d0 with
        | str w =>
          have e : enD (.tuple (.str w :: r)) = (if w = "give" then one1 r atD else if w = "tail" then two r (fun a b => atD a && atsD b) else if w = "if" then thr r (fun a b c => atD a && (isT b && isT c)) else false) := rfl
          by_cases h1 : w = "give"
          · subst h1; exact ⟨_, .oth (by decide +kernel) (by decide +kernel)⟩
          by_cases h2 : w = "tail"
          · subst h2; exact ⟨_, .oth (by decide +kernel) (by decide +kernel)⟩
          rw [e, if_neg h1, if_neg h2] at h
          by_cases h3 : w = "if"
          · rw [if_pos h3] at h
            match r, h with
            | [a, b, c], h =>
              have h : (atD a && (isT b && isT c)) = true := h
              rw [Bool.and_eq_true, Bool.and_eq_true] at h
              obtain ⟨b, rfl⟩ := isT_of h.2.1
              obtain ⟨c, rfl⟩ := isT_of h.2.2
              subst h3
              exact ⟨_, .cond⟩
            | [], h => cases h
            | [_], h => cases h
            | [_, _], h => cases h
            | _ :: _ :: _ :: _ :: _, h => cases h
          · rw [if_neg h3] at h; cases h
        | _ => cases h
    | _ => cases h
theorem shp_mem {d x : PyData} {l : List PyData} (h : Shp d l) (hx : x ∈ l) : isT x = true ∧ wt x ≤ wt d ∧ x.depth + 1 ≤ d.depth ∧ (okd d = true → okd x = true) := by
  cases h with
  | oth => cases hx
  | letp => cases hx
  | @letf x0 p b =>
    cases List.mem_singleton.mp hx
    refine ⟨rfl, ?_, ?_, fun ok => okd_mem (l := [.str "fun", p, .tuple b]) (okd_mem ok (by simp)) (by simp)⟩
    · simp only [wt, wts]; omega
    · simp only [PyData.depth, PyData.depthAll]; omega
  | cond =>
    simp only [List.mem_cons, List.not_mem_nil, or_false] at hx
    rcases hx with rfl | rfl
    · refine ⟨rfl, ?_, ?_, fun ok => okd_mem ok (by simp)⟩
      · simp only [wt, wts]; omega
      · simp only [PyData.depth, PyData.depthAll]; omega
    · refine ⟨rfl, ?_, ?_, fun ok => okd_mem ok (by simp)⟩
      · simp only [wt, wts]; omega
      · simp only [PyData.depth, PyData.depthAll]; omega
theorem shp_wts {d : PyData} {l : List PyData} (h : Shp d l) : wts l ≤ wt d := by
  cases h with
  | oth => simp only [wts]; exact Nat.zero_le _
  | letp => simp only [wts]; exact Nat.zero_le _
  | letf => simp only [wt, wts]; omega
  | cond => simp only [wt, wts]; omega
theorem wts_app : ∀ a b : List PyData, wts (a ++ b) = wts a + wts b
  | [], b => by simp [wts]
  | x :: a, b => by rw [List.cons_append, wts, wts, wts_app a b]; omega
theorem wts_flat {f : PyData → List PyData} : ∀ {l : List PyData}, (∀ x ∈ l, wts (f x) ≤ wt x) → wts (l.flatMap f) ≤ wts l
  | [], _ => by simp [wts]
  | x :: l, h => by
    rw [List.flatMap_cons, wts_app, wts]
    have h1 := h x (by simp)
    have h2 := wts_flat (l := l) fun y hy => h y (by simp [hy])
    omega
/-- a layer and the one in it -/
structure Lay (i : Nat) (L : List PyData) : Prop where
  tup : ∀ x ∈ L, isT x = true
  ok : ∀ x ∈ L, okd x = true
  dep : ∀ x ∈ L, x.depth + i ≤ 64
  sum : wts L ≤ 1000000
def nextL (L : List PyData) : List PyData := L.flatMap fun d => (lisT d).flatMap inn
theorem Lay.next {i : Nat} {L : List PyData} (h : Lay i L) (hl : ∀ x ∈ L, laD (lisT x) = true) : Lay (i + 1) (nextL L) := by
  have all : ∀ y ∈ nextL L, ∃ d ∈ L, ∃ b, d = .tuple b ∧ ∃ s ∈ b, ∃ l, Shp s l ∧ y ∈ l := fun y hy => by
    obtain ⟨d, hd, hy⟩ := List.mem_flatMap.mp hy
    obtain ⟨b, rfl⟩ := isT_of (h.tup d hd)
    obtain ⟨s, hs, hy⟩ := List.mem_flatMap.mp hy
    obtain ⟨l, hsl⟩ := shp_of (la_mem (hl _ hd) hs)
    rw [shp_inn hsl] at hy
    exact ⟨_, hd, b, rfl, s, hs, l, hsl, hy⟩
  refine ⟨fun y hy => ?_, fun y hy => ?_, fun y hy => ?_, Nat.le_trans (wts_flat fun d hd => ?_) h.sum⟩
  · obtain ⟨d, hd, b, rfl, s, hs, l, hsl, hy⟩ := all y hy
    exact (shp_mem hsl hy).1
  · obtain ⟨d, hd, b, rfl, s, hs, l, hsl, hy⟩ := all y hy
    exact (shp_mem hsl hy).2.2.2 (okd_mem (h.ok _ hd) hs)
  · obtain ⟨d, hd, b, rfl, s, hs, l, hsl, hy⟩ := all y hy
    have h1 := (shp_mem hsl hy).2.2.1
    have h2 := h.dep _ hd
    have h3 := dep_mem hs
    rw [PyData.depth] at h2
    omega
  · obtain ⟨b, rfl⟩ := isT_of (h.tup d hd)
    have : wts (b.flatMap inn) ≤ wts b := wts_flat fun s hs => by
      obtain ⟨l, hsl⟩ := shp_of (la_mem (hl _ hd) hs)
      rw [shp_inn hsl]
      exact shp_wts hsl
    rw [wt]
    exact Nat.le_succ_of_le this
theorem lays_succ (n : Nat) (L : List PyData) : laysD (n + 1) L = ((L.all fun d => laD (lisT d)) && laysD n (nextL L)) := rfl
/-- the list of a layer may be compared -/
theorem lay_shaped {L : List PyData} (h : Lay 10 L) : SeqAt.shaped (.list L) = true := by
  have lay : ∀ L : List PyData, (∀ x ∈ L, okd x = true) → PyData.canLayAll0 L = true := fun L => by
    induction L with
    | nil => intro _; rfl
    | cons x L ih =>
      intro ok
      rw [PyData.canLayAll0, (okd_iff.mp (ok x (by simp))).1, ih fun y hy => ok y (by simp [hy])]
      rfl
  have dep : ∀ L : List PyData, (∀ x ∈ L, x.depth + 10 ≤ 64) → PyData.depthAll L + 10 ≤ 64 := fun L => by
    induction L with
    | nil => intro _; decide
    | cons x L ih =>
      intro ok
      rw [PyData.depthAll]
      have h1 := ok x (by simp)
      have h2 := ih fun y hy => ok y (by simp [hy])
      omega
  have h1 := lay L h.ok
  have h2 := dep L h.dep
  rw [SeqAt.shaped, PyData.canLay0, PyData.depth, h1, decide_eq_true (by omega)]
  rfl
end PJ

set_option maxHeartbeats 4000000
namespace K4
open PySem L2 Evl DL PJ PG TL
section
variable {P : Program} {w : World} {K : PySem.W.Frag} {mg : Str → Option Value} {base : Heap}
/-! ### bodies -/
def spBodies (K : PySem.W.Frag) : Sp := fun vs H Q _ => ∃ v d l Hb, vs = [v] ∧ Ex Hb H ∧ Dp K Hb v d ∧ Shp d l ∧ ∀ p H' ys, H p = none → Ex H H' → H' p = some (.lst ys) → DpAll K Hb ys l → Q (.ref p) H'
theorem bd_bodies : BindP "bodies_in" s_bodies_in ["statement"] := fun _ _ _ _ _ _ us hl => match us, hl with | [_], _ => rfl
theorem ok_bodies (T : Txt K mg) : DefOk P w K mg base CX0 false 1 "bodies_in" s_bodies_in ["statement"] (spBodies K) := by
  refine T.d_bodies_in.ok scs_bodies_in (fun vs H Q E h => ?_) (fun f cdv A outer s H vs Q E hr h => ?_)
  · obtain ⟨v, d, l, Hb, rfl, _⟩ := h
    rfl
  · obtain ⟨v, d, l, Hb, rfl, eb, hd, sh, k⟩ := h
    refine ⟨_, pss_cons (ps_if (pt_cmpR op_eq (pe_ix ix_tup (pv 0) pe_int (fun _ _ => rfl)) pe_str (nomark _)) (pss_one (ps_ret (pe_lst (pa_cons (pe_ix ix_tup (pv 0) pe_int (fun _ _ => rfl)) (pa_cons (pe_ix ix_tup (pv 0) pe_int (fun _ _ => rfl)) pa_nil))))) pss_nil)
      (pss_one (ps_ret (pe_ifExp (PW.pt (pw_and (pt_cmpR op_eq (pe_ix ix_tup (pv 0) pe_int (fun _ _ => rfl)) pe_str (nomark _)) (pw_and1 (pt_cmpR op_eq (pe_ix ix_tup (pe_ix ix_tup (pv 0) pe_int (fun _ _ => rfl)) pe_int (fun _ _ => rfl)) pe_str (nomark _)))))
        (pe_lst (pa_cons (pe_ix ix_tup (pe_ix ix_tup (pv 0) pe_int (fun _ _ => rfl)) pe_int (fun _ _ => rfl)) pa_nil)) (pe_lst pa_nil)))), ?_⟩
    have nil : l = [] → tLst tNil (L2.start ["statement"] [v]) H Q := fun e => ⟨sz_of (Nat.zero_le _), fun p hp => k p _ [] hp (Ex.new hp) upd_same (e ▸ .nil)⟩
    cases sh with
    | @oth w r h1 h2 =>
      obtain ⟨a, xs, rfl, hS0, hxs⟩ := dp_tup hd
      have hS := ex_t eb hS0
      cases hxs with | cons g0 gr =>
      obtain rfl := dp_str g0
      exact ⟨_, rfl, a, _, 0, _, rfl, rfl, hS, atI_nat (j := 0) rfl, rfl, _, rfl, itF (str_ne h2) ⟨_, rfl, a, _, 0, _, rfl, rfl, hS, atI_nat (j := 0) rfl, rfl, _, rfl, itF (str_ne h1) (nil rfl)⟩⟩
    | @letp x w r h =>
      obtain ⟨a, xs, rfl, hS0, hxs⟩ := dp_tup hd
      have hS := ex_t eb hS0
      cases hxs with | cons g0 gr => cases gr with | cons g1 gr => cases gr with | cons g2 gr => cases gr with | nil =>
      obtain rfl := dp_str g0
      obtain ⟨b, ys, rfl, hb0, hys⟩ := dp_tup g2
      have hb := ex_t eb hb0
      cases hys with | cons f0 fr =>
      obtain rfl := dp_str f0
      exact ⟨_, rfl, a, _, 0, _, rfl, rfl, hS, atI_nat (j := 0) rfl, rfl, _, rfl, itF (str_ne (by decide +kernel)) ⟨_, rfl, a, _, 0, _, rfl, rfl, hS, atI_nat (j := 0) rfl, rfl, _, rfl, itT (str_eq rfl)
        ⟨_, rfl, a, _, 2, _, rfl, rfl, hS, atI_nat (j := 2) rfl, b, _, 0, _, rfl, rfl, hb, atI_nat (j := 0) rfl, rfl, _, rfl, itF (str_ne h) (nil rfl)⟩⟩⟩
    | @letf x p0 b0 =>
      obtain ⟨a, xs, rfl, hS0, hxs⟩ := dp_tup hd
      have hS := ex_t eb hS0
      cases hxs with | cons g0 gr => cases gr with | cons g1 gr => cases gr with | cons g2 gr => cases gr with | nil =>
      obtain rfl := dp_str g0
      obtain ⟨b, ys, rfl, hb0, hys⟩ := dp_tup g2
      have hb := ex_t eb hb0
      cases hys with | cons f0 fr => cases fr with | cons f1 fr => cases fr with | cons f2 fr => cases fr with | nil =>
      obtain rfl := dp_str f0
      exact ⟨_, rfl, a, _, 0, _, rfl, rfl, hS, atI_nat (j := 0) rfl, rfl, _, rfl, itF (str_ne (by decide +kernel)) ⟨_, rfl, a, _, 0, _, rfl, rfl, hS, atI_nat (j := 0) rfl, rfl, _, rfl, itT (str_eq rfl)
        ⟨_, rfl, a, _, 2, _, rfl, rfl, hS, atI_nat (j := 2) rfl, b, _, 0, _, rfl, rfl, hb, atI_nat (j := 0) rfl, rfl, _, rfl, itT (str_eq rfl) ⟨_, rfl, a, _, 2, _, rfl, rfl, hS, atI_nat (j := 2) rfl, b, _, 2, _, rfl, rfl, hb, atI_nat (j := 2) rfl,
          sz_of (by simp), fun p hp => k p _ _ hp (Ex.new hp) upd_same (.cons f2 .nil)⟩⟩⟩⟩
    | @cond c0 b0 c1 =>
      obtain ⟨a, xs, rfl, hS0, hxs⟩ := dp_tup hd
      have hS := ex_t eb hS0
      cases hxs with | cons g0 gr => cases gr with | cons g1 gr => cases gr with | cons g2 gr => cases gr with | cons g3 gr => cases gr with | nil =>
      obtain rfl := dp_str g0
      exact ⟨_, rfl, a, _, 0, _, rfl, rfl, hS, atI_nat (j := 0) rfl, rfl, _, rfl, itT (str_eq rfl) ⟨_, rfl, a, _, 2, _, rfl, rfl, hS, atI_nat (j := 2) rfl, _, rfl, a, _, 3, _, rfl, rfl, hS, atI_nat (j := 3) rfl,
        sz_of (by simp), fun p hp => k p _ _ hp (Ex.new hp) upd_same (.cons g2 (.cons g3 .nil))⟩⟩
theorem bd_lbody : BindP "is_layer_body" s_is_layer_body ["value"] := fun _ _ _ _ _ _ us hl => match us, hl with | [_], _ => rfl
theorem ok_lbody (T : Txt K mg) : DefOk P w K mg base CX0 false 7 "is_layer_body" s_is_layer_body ["value"] (spB K (fun d => laD (lisT d)) fun d => okd d = true ∧ isT d = true) := by
  refine T.d_is_layer_body.ok scs_is_layer_body len_spB (fun f cdv A outer s H vs Q E hr h => ?_)
  obtain ⟨v, d, rfl, hd, ⟨ok, it⟩, k⟩ := h
  have nd := scs_is_layer_body.nd
  refine ⟨_, pss_one (ps_ret (pe_and (pe_cmpR (op_neD hr.units) (pv 0) (pe_tup pa_nil) (nomark _))
    (pe_and (pe_callB (cr_all rfl) (by rfl) T.b_all (by decide +kernel) (pa_cons (pe_lc (own := [("each", 1)]) (g := gName 1) (tt := tYes) rfl nd (pi_tup (pe_slice sl_tup (pv 0) po_none (po_some (pe_un un_neg pe_int)))) (blkOk_by (N := ["value", "each"]) (sc := defScope s_is_layer_body) (by decide +kernel))
        (fun _ _ _ _ _ => pg_name (i := 1) nd rfl (.inl rfl)) (fun _ _ _ _ _ => pts_nil) (fun _ _ _ _ _ => pe_callD (ok_stmt T) hr (.inl rfl) bd_stmt pass0 (pa_cons (pv 1) pa_nil))) pa_nil))
      (pe_one (pe_callD (ok_end T) (hr.mono (by decide)) (.inl rfl) bd_end pass0 (pa_cons (pe_ix ix_tup (pv 0) (pe_un un_neg pe_int) (fun _ _ => rfl)) pa_nil)))))), ?_⟩
  obtain ⟨ds, rfl⟩ := isT_of it
  obtain ⟨a, xs, rfl, hS, hxs⟩ := dp_tup hd
  refine ⟨_, rfl, sz_of (Nat.zero_le _), fun p hp => ?_⟩
  have e1 : Ex H (L2.upd H p (.tup [])) := Ex.new hp
  have hS1 := ex_t e1 hS
  refine ⟨.tuple ds, .tuple [], .tup hS1 (dpa_ex e1 hxs), .tup (st_of upd_same) .nil, okd_shaped ok, rfl, _, rfl, ?_⟩
  rcases List.eq_nil_or_concat ds with rfl | ⟨di, dl, rfl⟩
  · exact itF rfl (k _ e1)
  · rw [List.concat_eq_append] at *
    have q := fun H' e => k H' (e1.trans e)
    have q : ∀ H', Ex _ H' → Q (.bl (laD (di ++ [dl]))) H' := q
    rw [la_app] at q
    obtain ⟨xi, xl, rfl, hi, hl⟩ := dpa_snoc hxs
    refine itT (by cases di <;> rfl) ?_
    have hz := okd_len ok
    rw [List.length_append, List.length_singleton] at hz
    have li := dpa_len hi
    dsimp only [tAndV, tCB, tCons, tNil]
    refine lc_tupSM (K := K) (a := a) (xi := xi) (xl := xl) (R := fun j v => v = .bl ((fun j => match di[j]? with | some c => stD c | none => true) j)) (σ := [some (.ref a), none]) (n := 0) rfl hS1 (by omega) (fun j x H' hx e Q' kk => ?_) (fun p vs H' nP e hp hvl hR => ?_)
    · obtain ⟨c, hc, hdc⟩ := dpa_getV hi hx
      exact ⟨_, rfl, x, c, rfl, dp_ex (e1.trans e) hdc, okd_mem ok (List.mem_append_left _ (List.mem_of_getElem? hc)), fun H2 e2 => kk _ H2 e2 (by dsimp only; rw [hc])⟩
    · refine all_bools _ di.length hp (by omega) hR ?_
      rw [range_all di stD _ (fun j c hc => by rw [hc])]
      refine ⟨_, rfl, ?_⟩
      cases h5 : di.all stD with
      | false =>
        have q := q H' e
        rw [h5, Bool.false_and] at q
        exact itF rfl q
      | true =>
        refine itT rfl ⟨_, rfl, 1, rfl, a, _, -1, xl, rfl, rfl, ex_t e hS1, atI_last xi xl, xl, dl, rfl, dp_ex (e1.trans e) hl, okd_mem ok (by simp), fun H2 e2 => ?_⟩
        have q := q H2 (e.trans e2)
        rw [h5, Bool.true_and] at q
        exact q
end
end K4

set_option maxHeartbeats 4000000
namespace DL
open PySem L2 Evl PySem.Spec PyProof.Rows PJ
theorem flat_take_succ {α β : Type} {f : α → List β} : ∀ {L : List α} {i : Nat} {x : α}, L[i]? = some x → (L.take (i + 1)).flatMap f = (L.take i).flatMap f ++ f x
  | y :: L, 0, x, h => by
    simp at h
    subst h
    simp
  | y :: L, i + 1, x, h => by
    simp only [List.getElem?_cons_succ] at h
    rw [List.take_succ_cons, List.take_succ_cons, List.flatMap_cons, List.flatMap_cons, flat_take_succ h, List.append_assoc]
  | [], _, _, h => by simp at h
theorem flat_take_le {α β : Type} (f : α → List β) : ∀ (L : List α) (i : Nat), ((L.take i).flatMap f).length ≤ (L.flatMap f).length
  | [], i => by simp
  | x :: L, 0 => by simp
  | x :: L, i + 1 => by
    have := flat_take_le f L i
    rw [List.take_succ_cons, List.flatMap_cons, List.flatMap_cons, List.length_append, List.length_append]
    omega
/-- a list of data at D -/
def GrowD (K : PySem.W.Frag) (Hb H : Hp) (D : Addr) (ds : List PyData) (H' : Hp) : Prop := Ex H H' ∧ ∃ vs, H' D = some (.lst vs) ∧ DpAll K Hb vs ds
section
variable {K : PySem.W.Frag} {Hb H : Hp} {Q : VK} {s0 s1 s2 s3 s4 s5 : Option V} {tc : TE} {l : Addr} {ys : List V} {L : List PyData} {F : PyData → List PyData}
/-- [inner for body in layer for statement in body for inner in f(statement)] -/
theorem lc3_data (eb : Ex Hb H) (hl : SqL K H l ys) (hd : DpAll K Hb ys L) (ht : ∀ x ∈ L, isT x = true) (hz : (L.flatMap fun x => (lisT x).flatMap F).length ≤ 1000000)
    (step : ∀ x s d H' (Q' : VK), (∃ b, .tuple b ∈ L ∧ d ∈ b) → Dp K Hb s d → Ex H H' → (∀ p H'' zs, H' p = none → Ex H' H'' → H'' p = some (.lst zs) → DpAll K Hb zs (F d) → Q' (.ref p) H'') → tc [s0, some (.ref l), s2, some x, some s, none] H' Q')
    (k : ∀ p vs H', H p = none → Ex H H' → H' p = some (.lst vs) → DpAll K Hb vs (L.flatMap fun x => (lisT x).flatMap F) → Q (.ref p) H') :
    tLc3 (iList K (tVar 1)) (gName 3) tYes (iTup K (tVar 3)) (gName 4) tYes (iList K tc) (gName 5) tYes (tVar 5) [3, 4, 5] [4, 5] [5] [s0, some (.ref l), s2, s3, s4, s5] H Q := by
  refine ⟨_, rfl, l, rfl, ⟨ys, hl⟩, fun D nD => ?_⟩
  have ly := dpa_len hd
  refine ⟨fun i m H' => m = ys.length - i ∧ i ≤ ys.length ∧ GrowD K Hb H D ((L.take i).flatMap fun x => (lisT x).flatMap F) H', ⟨_, rfl, Nat.zero_le _, Ex.new nD, [], upd_same, by simpa using DpAll.nil⟩, ?_⟩
  rintro i m H1 ⟨rfl, hi, g⟩
  have hl1 := ex_l g.1 hl
  rcases Nat.lt_or_ge i ys.length with lt | ge
  · refine .inr ⟨⟨ys, ys[i], hl1, List.getElem?_eq_getElem lt⟩, fun H' => GrowD K Hb H D ((L.take (i + 1)).flatMap fun x => (lisT x).flatMap F) H', fun H' g' => ⟨_, by omega, rfl, lt, g'⟩, ?_⟩
    rintro y _ ⟨rfl, hy⟩
    have hy := hy ys hl1
    obtain ⟨d0, hd0, hyd⟩ := dpa_getV hd hy
    obtain ⟨b, rfl⟩ := isT_of (ht d0 (List.mem_of_getElem? hd0))
    obtain ⟨a, xs, rfl, ha, hxs⟩ := dp_tup hyd
    have lx := dpa_len hxs
    rw [flat_take_succ hd0]
    have bound := flat_take_le (fun x => (lisT x).flatMap F) L (i + 1)
    rw [flat_take_succ hd0] at bound
    have ebl : lisT (.tuple b) = b := rfl
    rw [ebl] at bound ⊢
    generalize hpre : (L.take i).flatMap (fun x => (lisT x).flatMap F) = pre at g bound ⊢
    rw [List.length_append] at bound
    refine ⟨rfl, lc_yes ⟨_, rfl, a, rfl, ⟨xs, ex_t (eb.trans g.1) ha⟩, fun j m H' => m = xs.length - j ∧ j ≤ xs.length ∧ GrowD K Hb H D (pre ++ (b.take j).flatMap F) H', ⟨_, rfl, Nat.zero_le _, by simpa using g⟩, ?_⟩⟩
    rintro j m H2 ⟨rfl, hj, g2⟩
    have ha2 := ex_t (eb.trans g2.1) ha
    rcases Nat.lt_or_ge j xs.length with ltj | gej
    · refine .inr ⟨⟨xs, xs[j], ha2, List.getElem?_eq_getElem ltj⟩, fun H' => GrowD K Hb H D (pre ++ (b.take (j + 1)).flatMap F) H', fun H' g' => ⟨_, by omega, rfl, ltj, g'⟩, ?_⟩
      rintro s _ ⟨rfl, hs⟩
      have hs := hs xs ha2
      obtain ⟨d, hdj, hsd⟩ := dpa_getV hxs hs
      rw [flat_take_succ hdj]
      have bound2 := flat_take_le F b (j + 1)
      rw [flat_take_succ hdj] at bound2
      rw [List.length_append] at bound2
      refine ⟨rfl, lc_yes (step _ s d _ _ ⟨b, List.mem_of_getElem? hd0, List.mem_of_getElem? hdj⟩ hsd g2.1 fun p H3 zs np e3 hp hzs => ⟨p, rfl, ⟨zs, sq_of hp⟩, ?_⟩)⟩
      have lz := dpa_len hzs
      generalize hpre2 : (b.take j).flatMap F = pre2 at g2 bound2 ⊢
      obtain ⟨ee, vs2, hD2, hvs2⟩ := g2
      have nDp : D ≠ p := ne_of_none hD2 np
      refine ⟨fun k m H' => m = zs.length - k ∧ k ≤ zs.length ∧ H' p = some (.lst zs) ∧ GrowD K Hb H D (pre ++ (pre2 ++ (F d).take k)) H', ⟨_, rfl, Nat.zero_le _, hp, ee.trans e3, vs2, e3 _ _ hD2, by simpa using hvs2⟩, ?_⟩
      rintro k m H4 ⟨rfl, hk, hp4, g4⟩
      rcases Nat.lt_or_ge k zs.length with ltk | gek
      · refine .inr ⟨⟨zs, zs[k], sq_of hp4, List.getElem?_eq_getElem ltk⟩, fun H' => H' p = some (.lst zs) ∧ GrowD K Hb H D (pre ++ (pre2 ++ (F d).take (k + 1))) H', fun H' g' => ⟨_, by omega, rfl, ltk, g'⟩, ?_⟩
        rintro z _ ⟨rfl, hz'⟩
        have hz' := hz' zs (sq_of hp4)
        obtain ⟨dz, hdz, hzd⟩ := dpa_getV hzs hz'
        obtain ⟨e4, vs4, hD4, hvs4⟩ := g4
        have lv := dpa_len hvs4
        rw [List.length_append, List.length_append, List.length_take] at lv
        refine ⟨rfl, lc_yes ⟨_, rfl, vs4, hD4, ?_, by rw [upd_ne nDp.symm]; exact hp4, ?_, vs4 ++ [z], upd_same, ?_⟩⟩
        · have : (1000000 : Nat) < sizeLine := by decide
          omega
        · intro x o hx
          have nx : x ≠ D := fun e => by rw [e, nD] at hx; cases hx
          rw [upd_ne nx]
          exact e4 _ _ hx
        · have et : (F d).take (k + 1) = (F d).take k ++ [dz] := by rw [List.take_succ, hdz]; rfl
          rw [et, ← List.append_assoc, ← List.append_assoc]
          have := dpa_app hvs4 (dpa_one hzd)
          rw [← List.append_assoc] at this
          exact this
      · have ek : k = zs.length := by omega
        subst ek
        refine .inl ⟨⟨zs, sq_of hp4, Nat.le_refl _⟩, ?_⟩
        have et : (F d).take zs.length = F d := List.take_of_length_le (by omega)
        rw [et] at g4
        exact g4
    · have ej : j = xs.length := by omega
      subst ej
      refine .inl ⟨⟨xs, ha2, Nat.le_refl _⟩, ?_⟩
      have et : b.take xs.length = b := List.take_of_length_le (by omega)
      rw [et] at g2
      exact g2
  · have e : i = ys.length := by omega
    subst e
    obtain ⟨ee, vs, hD, hvs⟩ := g
    have et : L.take ys.length = L := List.take_of_length_le (by omega)
    rw [et] at hvs
    exact .inl ⟨⟨ys, hl1, Nat.le_refl _⟩, k D vs H1 nD ee hD hvs⟩
end
end DL

set_option maxHeartbeats 4000000
namespace K4
open PySem L2 Evl DL PJ PG TL
section
variable {P : Program} {w : World} {K : PySem.W.Frag} {mg : Str → Option Value} {base : Heap}
theorem bd_isbody : BindP "is_body" s_is_body ["value"] := fun _ _ _ _ _ _ us hl => match us, hl with | [_], _ => rfl
theorem ok_isbody (T : Txt K mg) : DefOk P w K mg base CX0 false 8 "is_body" s_is_body ["value"] (spB K boD fun d => okd d = true) := by
  refine T.d_is_body.ok scs_is_body len_spB (fun f cdv A outer s H vs Q E hr h => ?_)
  obtain ⟨v, d, rfl, hd, ok, k⟩ := h
  have nd := scs_is_body.nd
  refine ⟨_, pss_cons (ps_if (pt_not (pt_val (pe_callB call_isa (by rfl) T.b_isinstance (by decide +kernel) (pa_cons (pv 0) (pa_cons (pe_bltn (v := .ty "tuple") (by rfl) T.b_tuple (by decide +kernel) rfl) pa_nil))))) (pss_one (ps_ret pe_bl)) pss_nil)
    (pss_cons (ps_set (i := 1) nd rfl (.inl rfl) (pe_lst (pa_cons (pv 0) pa_nil)))
    (pss_cons (ps_for PassesOwn.never rfl (pi_range1 (by rfl) T.b_range (pa_cons (pe_const T.c_MOST_LAYERS) pa_nil)) (pg_name (i := 2) nd rfl (.inl rfl))
      (pss_cons (ps_if (pt_not (pt_val (pe_callB (cr_all rfl) (by rfl) T.b_all (by decide +kernel) (pa_cons (pe_lc (own := [("body", 3)]) (g := gName 3) (tt := tYes) rfl nd (pi_list (pv 1)) (blkOk_by (N := ["value", "layer", "_", "body", "statement", "inner"]) (sc := defScope s_is_body) (by decide +kernel))
        (fun _ _ _ _ _ => pg_name (i := 3) nd rfl (.inl rfl)) (fun _ _ _ _ _ => pts_nil) (fun _ _ _ _ _ => pe_callD (ok_lbody T) hr (.inl rfl) bd_lbody pass0 (pa_cons (pv 3) pa_nil))) pa_nil)))) (pss_one (ps_ret pe_bl)) pss_nil)
      (pss_one (ps_setLc3 (i := 1) (own := [("body", 3), ("statement", 4), ("inner", 5)]) (vs1 := [4, 5]) (vs2 := [5]) (g := gName 3) (tt := tYes) (g1 := gName 4) (tt1 := tYes) (g2 := gName 5) (tt2 := tYes) (wi1 := iTup K (tVar 3)) (wi2 := iList K (tCall (spBodies K) [] E0 (tCons (tVar 4) tNil))) (te := tVar 5) rfl nd rfl rfl (sw_true rfl rfl rfl (by decide +kernel)) (pi_list (pv 1))
        (blkOk_by (N := ["value", "layer", "_", "body", "statement", "inner"]) (sc := defScope s_is_body) (by decide +kernel)) (by decide) (by decide)
        (fun _ _ _ _ _ => pg_name (i := 3) nd rfl (.inl rfl)) (fun _ _ _ _ _ => pts_nil) (fun _ _ _ _ _ => pi_tup (pv 3)) (fun _ _ _ _ _ => pg_name (i := 4) nd rfl (.inl rfl)) (fun _ _ _ _ _ => pts_nil)
        (fun _ _ _ _ _ => pi_list (pe_callD (ok_bodies T) (hr.mono (by decide)) (.inl rfl) bd_bodies pass0 (pa_cons (pv 4) pa_nil))) (fun _ _ _ _ _ => pg_name (i := 5) nd rfl (.inl rfl)) (fun _ _ _ _ _ => pts_nil) (fun _ _ _ _ _ => pv 5)))))
    (pss_one (ps_ret (pe_cmpR (op_eqD hr.units) (pv 1) (pe_lst pa_nil) (nomark _)))))), ?_⟩
  refine ⟨_, rfl, _, _, d, rfl, hd, by simp, _, rfl, ?_⟩
  have e0 : isaD d "tuple" = isT d := by cases d <;> rfl
  rw [e0]
  cases it : isT d with
  | false =>
    have q := k _ (Ex.refl _)
    rw [boD, it, Bool.false_and] at q
    exact itT rfl q
  | true =>
    have q := k
    rw [boD, it, Bool.true_and] at q
    obtain ⟨ds, rfl⟩ := isT_of it
    obtain ⟨a, xs, rfl, hS, hxs⟩ := dp_tup hd
    refine itF rfl ⟨_, rfl, sz_of (by simp), fun q0 hq0 => ?_⟩
    have ei : okd (.tuple ds) = true ∧ (PyData.tuple ds).depth ≤ 64 ∧ wt (.tuple ds) ≤ 1000000 := ⟨ok, (okd_iff.mp ok).2.1, (okd_iff.mp ok).2.2⟩
    refine ⟨10, rfl, by decide, by decide, for_range (lo := 0) (n := 10) (fun i σ' H' => ∃ (y : Option V) (g : Addr) (vs : List V) (L : List PyData), σ' = [some (.ref a), some (.ref g), y, none, none, none] ∧ Ex H H' ∧ H' g = some (.lst vs) ∧ DpAll K H vs L ∧ Lay i L ∧
      laysD 10 [.tuple ds] = laysD (10 - i) L) ⟨none, q0, [.ref a], [.tuple ds], rfl, Ex.new hq0, upd_same, .cons hd .nil, ⟨by simp [isT], by simpa using ok, by simpa using ei.2.1, by simpa [wts] using ei.2.2⟩, rfl⟩ ?_ ?_⟩
    · rintro i σ' H' hi ⟨y, g, vs, L, rfl, e, hg, hvs, lay, hL⟩
      have lv := dpa_len hvs
      have hsz : L.length ≤ 1000000 := Nat.le_trans (wts_len L) lay.sum
      have hn : laysD 10 [.tuple ds] = ((L.all fun d => laD (lisT d)) && laysD (10 - (i + 1)) (nextL L)) := by
        rw [hL, show 10 - i = (10 - (i + 1)) + 1 by omega, lays_succ]
      dsimp only [gName, tSeq, tIfS, tNot, tTest, tB, tCB, tCons, tNil]
      refine lc_listV (K := K) (a := g) (xs := vs) (R := fun j v => v = .bl ((fun j => match L[j]? with | some c => laD (lisT c) | none => true) j)) (σ := [some (.ref a), some (.ref g), some (.int (0 + (i : Nat))), none, none, none]) (ts := tVar 1) (ev_var rfl) (sq_of hg) (by omega) (fun j x H2 hx e2 Q' kk => ?_) (fun p ws H2 nP e2 hp hvl hR => ?_)
      · obtain ⟨c, hc, hdc⟩ := dpa_getV hvs hx
        have hm := List.mem_of_getElem? hc
        exact ⟨_, rfl, x, c, rfl, dp_ex (e.trans e2) hdc, ⟨lay.ok c hm, lay.tup c hm⟩, fun H3 e3 => kk _ H3 e3 (by dsimp only; rw [hc])⟩
      · refine all_bools _ L.length hp (by omega) hR ?_
        rw [range_all L (fun d => laD (lisT d)) _ (fun j c hc => by rw [hc])]
        refine ⟨_, rfl, ?_⟩
        cases h5 : L.all (fun d => laD (lisT d)) with
        | false =>
          rw [hn, h5, Bool.false_and] at q
          exact itT rfl (q _ (e.trans e2))
        | true =>
          have hla : ∀ x ∈ L, laD (lisT x) = true := List.all_eq_true.mp h5
          refine itF rfl ?_
          dsimp only [tNext, tAsg]
          refine lc3_data (K := K) (Hb := H) (H := H2) (F := inn) (e.trans e2) (sq_of (e2 _ _ hg)) hvs lay.tup (Nat.le_trans (wts_len _) (lay.next hla).sum) (fun x s d H3 Q' hm hsd e3 kk => ?_) (fun p vs2 H3 np e3 hp hvs2 => ?_)
          · obtain ⟨b, hb, hdb⟩ := hm
            obtain ⟨l, sh⟩ := shp_of (la_mem (hla _ hb) hdb)
            have el := shp_inn sh
            exact ⟨_, rfl, s, d, l, H, rfl, (e.trans e2).trans e3, hsd, sh, fun p H4 ys np e4 hp hys => kk p H4 ys np e4 hp (el ▸ hys)⟩
          · exact ⟨_, p, vs2, _, rfl, (e.trans e2).trans e3, hp, hvs2, lay.next hla, by rw [hn, h5, Bool.true_and]; rfl⟩
    · rintro σ' H' ⟨y, g, vs, L, rfl, e, hg, hvs, lay, hL⟩
      rw [hL] at q
      refine ⟨_, rfl, sz_of (Nat.zero_le _), fun p hp => ⟨.list L, .list [], .lst (sq_of ((Ex.new hp) _ _ hg)) (dpa_ex (e.trans (Ex.new hp)) hvs), .lst (sq_of upd_same) .nil, lay_shaped lay, rfl, ?_⟩⟩
      have el : PyData.eqv (.list L) (.list []) = L.isEmpty := by cases L <;> rfl
      rw [el]
      exact q _ (e.trans (Ex.new hp))
end
end K4

set_option maxHeartbeats 4000000
namespace PJ
open PySem L2 Evl DL TL PG
/-! ### judged data as typed programs -/
mutual
def shR : Rt → Prop
  | .two w _ _ => w ≠ "fun" ∧ w ≠ "call"
  | .one w _ => w ≠ "fun" ∧ w ≠ "call"
  | .call _ _ => True
  | .fn _ b => shB b
def shB : Bd → Prop
  | .give _ => True
  | .tail _ _ => True
  | .cond _ b c => shB b ∧ shB c
  | .lets _ r rest => shR r ∧ shB rest
  | .says _ rest => shB rest
end
theorem at_typed {d : PyData} (h : atD d = true) : ∃ a : At, d = a.enc := by
  cases d with
  | int i => exact ⟨.num i, rfl⟩
  | str x => exact ⟨.nm x, rfl⟩
  | _ => cases h
theorem all_typed : ∀ {l : List PyData}, l.all atD = true → ∃ xs : List At, l = xs.map At.enc
  | [], _ => ⟨[], rfl⟩
  | d :: l, h => by
    rw [List.all_cons, Bool.and_eq_true] at h
    obtain ⟨a, rfl⟩ := at_typed h.1
    obtain ⟨xs, rfl⟩ := all_typed h.2
    exact ⟨a :: xs, rfl⟩
theorem ats_typed {d : PyData} (h : atsD d = true) : ∃ xs : List At, d = .tuple (xs.map At.enc) := by
  cases d with
  | tuple l =>
    rw [atsD, Bool.and_eq_true] at h
    obtain ⟨xs, rfl⟩ := all_typed h.2
    exact ⟨xs, rfl⟩
  | _ => cases h
theorem nm_typed {d : PyData} (h : nmD d = true) : ∃ x, d = .str x ∧ nmS x = true := by
  cases d with
  | str x => exact ⟨x, rfl, h⟩
  | _ => cases h
theorem nms_typed : ∀ {l : List PyData}, l.all nmD = true → l = (l.map strOf).map PyData.str
  | [], _ => rfl
  | d :: l, h => by
    rw [List.all_cons, Bool.and_eq_true] at h
    obtain ⟨x, rfl, _⟩ := nm_typed h.1
    rw [List.map_cons, List.map_cons, ← nms_typed h.2]
    rfl
theorem par_typed {d : PyData} (h : parD d = true) : ∃ ps : List Str, d = .tuple (ps.map PyData.str) := by
  cases d with
  | tuple l =>
    rw [parD, Bool.and_eq_true, Bool.and_eq_true] at h
    exact ⟨l.map strOf, congrArg PyData.tuple (nms_typed h.2.1)⟩
  | _ => cases h
def okIn (n : Nat) (y : PyData) : Prop := ∃ b : Bd, y = .tuple b.encs ∧ shB b ∧ b.deep ≤ n
theorem rs_typed {n : Nat} {r : PyData} (x : PyData) (h : rsD r = true) (hi : ∀ y ∈ inn (.tuple [.str "let", x, r]), okIn n y) : ∃ rt : Rt, r = rt.enc ∧ shR rt ∧ rt.deep ≤ n := by
  cases r with
  | tuple l =>
    cases l with
    | nil => cases h
    | cons d0 t =>
      cases d0 with
      | str w =>
        cases ho : opsL.contains w with
        | true =>
          rw [rs_ops ho] at h
          match t, h with
          | [a, b], h =>
            have h : (atD a && atD b) = true := h
            rw [Bool.and_eq_true] at h
            obtain ⟨a, rfl⟩ := at_typed h.1
            obtain ⟨b, rfl⟩ := at_typed h.2
            refine ⟨.two w a b, rfl, ⟨fun e => ?_, fun e => ?_⟩, Nat.zero_le _⟩
            · subst e; exact absurd ho (by decide +kernel)
            · subst e; exact absurd ho (by decide +kernel)
          | [], h => cases h
          | [_], h => cases h
          | _ :: _ :: _ :: _, h => cases h
        | false =>
          rw [rs_oth ho] at h
          match t, h, hi with
          | [a], h, _ =>
            have h : (oneD.contains w && atD a) = true := h
            rw [Bool.and_eq_true] at h
            obtain ⟨a, rfl⟩ := at_typed h.2
            refine ⟨.one w a, rfl, ⟨fun e => ?_, fun e => ?_⟩, Nat.zero_le _⟩
            · subst e; exact absurd h.1 (by decide +kernel)
            · subst e; exact absurd h.1 (by decide +kernel)
          | [a, b], h, hi =>
            rw [oth2] at h
            by_cases h1 : w = "pair"
            · subst h1
              rw [if_pos rfl, Bool.and_eq_true] at h
              obtain ⟨a, rfl⟩ := at_typed h.1
              obtain ⟨b, rfl⟩ := at_typed h.2
              exact ⟨.two "pair" a b, rfl, ⟨by decide +kernel, by decide +kernel⟩, Nat.zero_le _⟩
            · rw [if_neg h1] at h
              by_cases h2 : w = "fun"
              · subst h2
                rw [if_pos rfl, Bool.and_eq_true] at h
                obtain ⟨ps, rfl⟩ := par_typed h.1
                obtain ⟨b, rfl⟩ := isT_of h.2
                obtain ⟨bb, e, sh, dp⟩ := hi (.tuple b) (by rw [inn_w, if_neg (by decide +kernel), if_pos rfl, letB_w, if_pos rfl]; simp [funB])
                injection e with e
                subst e
                exact ⟨.fn ps bb, rfl, sh, dp⟩
              · rw [if_neg h2] at h
                by_cases h3 : w = "call"
                · subst h3
                  rw [if_pos rfl, Bool.and_eq_true] at h
                  obtain ⟨a, rfl⟩ := at_typed h.1
                  obtain ⟨xs, rfl⟩ := ats_typed h.2
                  exact ⟨.call a xs, rfl, True.intro, Nat.zero_le _⟩
                · rw [if_neg h3] at h; cases h
          | [], h, _ => cases h
          | _ :: _ :: _ :: _, h, _ => cases h
      | _ => cases h
  | _ => cases h
theorem en_typed {n : Nat} {d : PyData} (h : enD d = true) (hi : ∀ y ∈ inn d, okIn n y) : ∃ b : Bd, [d] = b.encs ∧ shB b ∧ b.deep ≤ n + 1 := by
  cases d with
  | tuple l =>
    cases l with
    | nil => cases h
    | cons d0 r =>
      cases d0 with
      | str w =>
        have e : enD (.tuple (.str w :: r)) = (if w = "give" then one1 r atD else if w = "tail" then two r (fun a b => atD a && atsD b) else if w = "if" then thr r (fun a b c => atD a && (isT b && isT c)) else false) := rfl
        rw [e] at h
        by_cases h1 : w = "give"
        · rw [if_pos h1] at h
          match r, h with
          | [a], h =>
            obtain ⟨a, rfl⟩ := at_typed (d := a) h
            subst h1
            exact ⟨.give a, rfl, True.intro, by simp only [Bd.deep]; omega⟩
          | [], h => cases h
          | _ :: _ :: _, h => cases h
        · rw [if_neg h1] at h
          by_cases h2 : w = "tail"
          · rw [if_pos h2] at h
            match r, h with
            | [a, b], h =>
              have h : (atD a && atsD b) = true := h
              rw [Bool.and_eq_true] at h
              obtain ⟨a, rfl⟩ := at_typed h.1
              obtain ⟨xs, rfl⟩ := ats_typed h.2
              subst h2
              exact ⟨.tail a xs, rfl, True.intro, by simp only [Bd.deep]; omega⟩
            | [], h => cases h
            | [_], h => cases h
            | _ :: _ :: _ :: _, h => cases h
          · rw [if_neg h2] at h
            by_cases h3 : w = "if"
            · rw [if_pos h3] at h
              subst h3
              match r, h, hi with
              | [a, b, c], h, hi =>
                have h : (atD a && (isT b && isT c)) = true := h
                rw [Bool.and_eq_true, Bool.and_eq_true] at h
                obtain ⟨a, rfl⟩ := at_typed h.1
                rw [inn_w, if_pos rfl] at hi
                obtain ⟨b, rfl, s1, p1⟩ := hi b (by simp [ifB])
                obtain ⟨c, rfl, s2, p2⟩ := hi c (by simp [ifB])
                exact ⟨.cond a b c, rfl, ⟨s1, s2⟩, by simp only [Bd.deep]; omega⟩
              | [], h, _ => cases h
              | [_], h, _ => cases h
              | [_, _], h, _ => cases h
              | _ :: _ :: _ :: _ :: _, h, _ => cases h
            · rw [if_neg h3] at h; cases h
      | _ => cases h
  | _ => cases h
theorem la_typed {n : Nat} : ∀ {l : List PyData}, laD l = true → (∀ s ∈ l, ∀ y ∈ inn s, okIn n y) → ∃ b : Bd, l = b.encs ∧ shB b ∧ b.deep ≤ n + 1
  | [], h, _ => nomatch h
  | [e], h, hi => en_typed h (hi e (by simp))
  | s :: t :: r, h, hi => by
    rw [la_cons, Bool.and_eq_true] at h
    obtain ⟨b, eb, sb, db⟩ := la_typed (l := t :: r) h.2 fun s' hs => hi s' (List.mem_cons_of_mem _ hs)
    have h1 := h.1
    have hi1 := hi s (by simp)
    cases s with
    | tuple l =>
      match l, h1, hi1 with
      | [d0, d1], h1, _ =>
        rw [stD2, Bool.and_eq_true] at h1
        obtain rfl := one_str h1.1
        obtain ⟨a, rfl⟩ := at_typed h1.2
        exact ⟨.says a b, by rw [eb]; rfl, sb, by simp only [Bd.deep]; exact db⟩
      | [d0, d1, d2], h1, hi1 =>
        rw [stD3, Bool.and_eq_true, Bool.and_eq_true] at h1
        obtain rfl := one_str h1.1
        obtain ⟨x, rfl, _⟩ := nm_typed h1.2.1
        obtain ⟨rt, rfl, sr, dr⟩ := rs_typed (.str x) h1.2.2 hi1
        exact ⟨.lets x rt b, by rw [eb]; rfl, ⟨sr, sb⟩, by simp only [Bd.deep]; omega⟩
      | [], h1, _ => cases h1
      | [_], h1, _ => cases h1
      | _ :: _ :: _ :: _ :: _, h1, _ => cases h1
    | _ => cases h1
theorem lays_typed : ∀ (n : Nat) (L : List PyData), laysD n L = true → ∀ x ∈ L, okIn n x
  | 0, L, h, x, hx => by
    have h : L.isEmpty = true := h
    rw [List.isEmpty_iff] at h
    subst h
    cases hx
  | n + 1, L, h, x, hx => by
    rw [lays_succ, Bool.and_eq_true, List.all_eq_true] at h
    have ih := lays_typed n (nextL L) h.2
    have hl := h.1 x hx
    cases x with
    | tuple l =>
      obtain ⟨b, e, sb, db⟩ := la_typed (n := n) (l := l) hl fun s hs y hy => ih y (List.mem_flatMap.mpr ⟨_, hx, List.mem_flatMap.mpr ⟨s, hs, hy⟩⟩)
      exact ⟨b, congrArg PyData.tuple e, sb, db⟩
    | _ => cases hl
/-! ### tops -/
abbrev Tp3 : Type := Str × List Str × Bd
def pEnc (t : Tp3) : PyData := .tuple [.str t.1, .tuple (t.2.1.map PyData.str), .tuple t.2.2.encs]
def okTp (t : Tp3) : Prop := shB t.2.2 ∧ t.2.2.deep ≤ 10
theorem top3 (a b c : PyData) : topD (.tuple [a, b, c]) = (nmD a && (parD b && boD c)) := rfl
theorem top_typed {d : PyData} (h : topD d = true) : ∃ t : Tp3, d = pEnc t ∧ okTp t := by
  cases d with
  | tuple l =>
    match l, h with
    | [a, b, c], h =>
      rw [top3, Bool.and_eq_true, Bool.and_eq_true, boD, Bool.and_eq_true] at h
      obtain ⟨x, rfl, _⟩ := nm_typed h.1
      obtain ⟨ps, rfl⟩ := par_typed h.2.1
      obtain ⟨b, rfl, sb, db⟩ := lays_typed 10 [c] h.2.2.2 c (by simp)
      exact ⟨(x, ps, b), rfl, sb, db⟩
    | [], h => cases h
    | [_], h => cases h
    | [_, _], h => cases h
    | _ :: _ :: _ :: _ :: _, h => cases h
  | _ => cases h
theorem tops_typed : ∀ {l : List PyData}, l.all topD = true → ∃ ts : List Tp3, l = ts.map pEnc ∧ ∀ t ∈ ts, okTp t
  | [], _ => ⟨[], rfl, fun _ h => nomatch h⟩
  | d :: l, h => by
    rw [List.all_cons, Bool.and_eq_true] at h
    obtain ⟨t, rfl, ot⟩ := top_typed h.1
    obtain ⟨ts, rfl, ots⟩ := tops_typed h.2
    exact ⟨t :: ts, rfl, fun u hu => (List.mem_cons.mp hu).elim (fun e => e ▸ ot) (ots u)⟩
end PJ

set_option maxHeartbeats 4000000
namespace K4
open PySem L2 Evl DL PJ PG TL
section
variable {P : Program} {w : World} {K : PySem.W.Frag} {mg : Str → Option Value} {base : Heap}
theorem bd_top : BindP "is_top" s_is_top ["value"] := fun _ _ _ _ _ _ us hl => match us, hl with | [_], _ => rfl
theorem ok_top (T : Txt K mg) : DefOk P w K mg base CX0 false 9 "is_top" s_is_top ["value"] (spB K topD fun d => okd d = true) := by
  refine T.d_is_top.ok scs_is_top len_spB (fun f cdv A outer s H vs Q E hr h => ?_)
  obtain ⟨v, d, rfl, hd, ok, k⟩ := h
  have nd := scs_is_top.nd
  refine ⟨_, pss_one (ps_ret (pe_and (pe_callD (ok_tupof T) (hr.mono (by decide)) (.inl rfl) bd_tupof pass0 (pa_cons (pv 0) (pa_cons pe_int pa_nil)))
      (pe_and (pe_callD (ok_name T) (hr.mono (by decide)) (.inl rfl) bd_name pass0 (pa_cons (pe_ix ix_tup (pv 0) pe_int (fun _ _ => rfl)) pa_nil))
      (pe_and (pe_callD (ok_params T) (hr.mono (by decide)) (.inl rfl) bd_params pass0 (pa_cons (pe_ix ix_tup (pv 0) pe_int (fun _ _ => rfl)) pa_nil))
      (pe_one (pe_callD (ok_isbody T) hr (.inl rfl) bd_isbody pass0 (pa_cons (pe_ix ix_tup (pv 0) pe_int (fun _ _ => rfl)) pa_nil))))))), ?_⟩
  refine ⟨_, rfl, v, d, 3, rfl, hd, fun H1 e1 => ⟨_, rfl, ?_⟩⟩
  by_cases h3 : tupOf d 3 = true
  · refine itT h3 ?_
    cases hd with
    | @tup a xs ds hS hxs =>
      have l3 : ds.length = 3 := of_decide_eq_true h3
      have lr := dpa_len hxs
      match ds, xs, hxs, l3, lr with
      | [d0, d1, d2], [x0, x1, x2], .cons g0 (.cons g1 (.cons g2 .nil)), _, _ =>
        have hS1 := ex_t e1 hS
        refine ⟨_, rfl, a, _, 0, x0, rfl, rfl, hS1, atI_nat (j := 0) rfl, x0, d0, rfl, dp_ex e1 g0, okd_mem ok (by simp), fun H2 e2 => ⟨_, rfl, ?_⟩⟩
        have q := fun H' e => k H' ((e1.trans e2).trans e)
        cases h4 : nmD d0 with
        | false =>
          have q := q _ (Ex.refl _)
          rw [top3, h4, Bool.false_and] at q
          exact itF rfl q
        | true =>
          refine itT rfl ⟨_, rfl, a, _, 1, x1, rfl, rfl, ex_t e2 hS1, atI_nat (j := 1) rfl, x1, d1, rfl, dp_ex (e1.trans e2) g1, okd_mem ok (by simp), fun H3 e3 => ⟨_, rfl, ?_⟩⟩
          have q := fun H' e => q H' (e3.trans e)
          cases h5 : parD d1 with
          | false =>
            have q := q _ (Ex.refl _)
            rw [top3, h4, h5, Bool.true_and, Bool.false_and] at q
            exact itF rfl q
          | true =>
            refine itT rfl ⟨_, rfl, a, _, 2, x2, rfl, rfl, ex_t (e2.trans e3) hS1, atI_nat (j := 2) rfl, x2, d2, rfl, dp_ex ((e1.trans e2).trans e3) g2, okd_mem ok (by simp), fun H4 e4 => ?_⟩
            have q := q H4 e4
            rw [top3, h4, h5, Bool.true_and, Bool.true_and] at q
            exact q
    | int _ => cases h3
    | non => cases h3
    | bl _ => cases h3
    | str _ => cases h3
    | lst _ _ => cases h3
  · have h3 : tupOf d 3 = false := by simpa using h3
    refine itF h3 ?_
    have q := k _ e1
    rw [show topD d = false by
      cases d with
      | tuple l =>
        have h3 : l.length ≠ 3 := of_decide_eq_false h3
        match l, h3 with
        | [], _ => rfl
        | [_], _ => rfl
        | [_, _], _ => rfl
        | [_, _, _], h3 => exact absurd rfl h3
        | _ :: _ :: _ :: _ :: _, _ => rfl
      | none => rfl
      | bool _ => rfl
      | int _ => rfl
      | str _ => rfl
      | list _ => rfl
      | dict _ => rfl] at q
    exact q
/-! ### points and plans -/
theorem bd_point : BindQ "__init__" "Point.__init__" s_Point_init ["self", "number", "statement", "top", "block", "place"] := fun _ _ _ _ _ _ us hl => match us, hl with | [_, _, _, _, _, _], _ => rfl
/-- a new point -/
def ptF (n s t b p : V) (l : Addr) (fn : V) : List (Str × V) := [("number", n), ("statement", s), ("top", t), ("block", b), ("place", p), ("blocks", .ref l), ("fun", fn)]
def spPoint (mg : Str → Option Value) : Sp := fun vs H Q _ => ∃ (x dx : Addr) (n s t b p : V), vs = [.ref x, n, s, t, b, p] ∧ H x = some (.ins (gA mg "Point") dx []) ∧
  ∀ l H', H l = none → (∀ a, a ≠ x → a ≠ l → H' a = H a) → H' l = some (.lst []) → H' x = some (.ins (gA mg "Point") dx (ptF n s t b p l .non)) → Q .non H'
theorem ok_point (T : Txt K mg) : C8.Mak P w K mg base 1 "Point" (gA mg "Point") (spPoint mg) [] := by
  refine T.i_Point.ok T.k_Point scs_Point_init bd_point (fun vs H Q E h => ?_) (fun f cdv A outer s H vs Q E hr h => ?_)
  · obtain ⟨x, dx, n, s, t, b, p, rfl, _⟩ := h
    rfl
  · obtain ⟨x, dx, n, st, t, b, p, rfl, hx, k⟩ := h
    have c := T.k_Point.cls
    have no := T.k_Point.no
    refine ⟨_, pss_cons (ps_fld (pv 0) (pv 1) rfl) (pss_cons (ps_fld (pv 0) (pv 2) rfl) (pss_cons (ps_fld (pv 0) (pv 3) rfl) (pss_cons (ps_fld (pv 0) (pv 4) rfl) (pss_cons (ps_fld (pv 0) (pv 5) rfl)
      (pss_cons (ps_fld (pv 0) (pe_lst pa_nil) rfl) (pss_one (ps_fld (pv 0) pe_non rfl))))))), ?_⟩
    let L1 : List (Str × V) := [("number", n)]
    let M2 : List (Str × V) := [("number", n), ("statement", st)]
    let L3 : List (Str × V) := [("number", n), ("statement", st), ("top", t)]
    let L4 : List (Str × V) := [("number", n), ("statement", st), ("top", t), ("block", b)]
    let L5 : List (Str × V) := [("number", n), ("statement", st), ("top", t), ("block", b), ("place", p)]
    refine ⟨_, rfl, _, rfl, x, _, dx, _, rfl, hx, c, no _ (by simp), by decide, ?_⟩
    have f0 : putF "number" n [] = L1 := rfl
    rw [f0]
    refine ⟨_, rfl, _, rfl, x, _, dx, _, rfl, upd_same, c, no _ (by simp), by show 1 < 1000; decide, ?_⟩
    have f1 : putF "statement" st L1 = M2 := putF_app (fs := L1) (ks := ["number"]) rfl (by decide +kernel)
    rw [f1]
    refine ⟨_, rfl, _, rfl, x, _, dx, _, rfl, upd_same, c, no _ (by simp), by show 2 < 1000; decide, ?_⟩
    have f2 : putF "top" t M2 = L3 := putF_app (fs := M2) (ks := ["number", "statement"]) rfl (by decide +kernel)
    rw [f2]
    refine ⟨_, rfl, _, rfl, x, _, dx, _, rfl, upd_same, c, no _ (by simp), by show 3 < 1000; decide, ?_⟩
    have f3 : putF "block" b L3 = L4 := putF_app (fs := L3) (ks := ["number", "statement", "top"]) rfl (by decide +kernel)
    rw [f3]
    refine ⟨_, rfl, _, rfl, x, _, dx, _, rfl, upd_same, c, no _ (by simp), by show 4 < 1000; decide, ?_⟩
    have f4 : putF "place" p L4 = L5 := putF_app (fs := L4) (ks := ["number", "statement", "top", "block"]) rfl (by decide +kernel)
    rw [f4]
    refine ⟨sz_of (Nat.zero_le _), fun l hl => ?_⟩
    have hxl : x ≠ l := ne_of_none upd_same hl
    refine ⟨_, rfl, x, _, dx, _, rfl, (by rw [upd_ne hxl]; exact upd_same), c, no _ (by simp), by show 5 < 1000; decide, ?_⟩
    let M6 : List (Str × V) := [("number", n), ("statement", st), ("top", t), ("block", b), ("place", p), ("blocks", .ref l)]
    have f5 : putF "blocks" (.ref l) L5 = M6 := putF_app (fs := L5) (ks := ["number", "statement", "top", "block", "place"]) rfl (by decide +kernel)
    rw [f5]
    refine ⟨_, rfl, x, _, dx, _, rfl, upd_same, c, no _ (by simp), by show 6 < 1000; decide, ?_⟩
    have f6 : putF "fun" .non M6 = ptF n st t b p l .non := putF_app (fs := M6) (ks := ["number", "statement", "top", "block", "place", "blocks"]) rfl (by decide +kernel)
    rw [f6]
    have hl0 : H l = none := by
      by_cases e : l = x
      · exact absurd e.symm hxl
      · rw [upd_ne e, upd_ne e, upd_ne e, upd_ne e, upd_ne e] at hl
        exact hl
    refine k l _ hl0 (fun a h1 h2 => ?_) ?_ upd_same
    · rw [upd_ne h1, upd_ne h1, upd_ne h2, upd_ne h1, upd_ne h1, upd_ne h1, upd_ne h1, upd_ne h1]
    · rw [upd_ne hxl.symm, upd_ne hxl.symm]
      exact upd_same
end
end K4

set_option maxHeartbeats 4000000
namespace PJ
open PySem L2 Evl DL TL PG
/-! ### points of a body -/
mutual
def ptsR : Rt → List PyData
  | .two _ _ _ => []
  | .one _ _ => []
  | .call _ _ => []
  | .fn _ b => ptsB b
def ptsB : Bd → List PyData
  | .give a => [.tuple [.str "give", a.enc]]
  | .tail f xs => [.tuple [.str "tail", f.enc, .tuple (xs.map At.enc)]]
  | .cond a b c => .tuple [.str "if", a.enc, .tuple b.encs, .tuple c.encs] :: (ptsB b ++ ptsB c)
  | .lets x r rest => .tuple [.str "let", .str x, r.enc] :: (ptsR r ++ ptsB rest)
  | .says a rest => .tuple [.str "say", a.enc] :: ptsB rest
end
mutual
theorem ptsR_len : ∀ r : Rt, (ptsR r).length = r.size
  | .two _ _ _ => rfl
  | .one _ _ => rfl
  | .call _ _ => rfl
  | .fn _ b => by simp only [ptsR, Rt.size]; exact ptsB_len b
theorem ptsB_len : ∀ b : Bd, (ptsB b).length = b.size
  | .give _ => rfl
  | .tail _ _ => rfl
  | .cond _ b c => by
    have h1 := ptsB_len b
    have h2 := ptsB_len c
    simp only [ptsB, Bd.size, List.length_cons, List.length_append]; omega
  | .lets _ r rest => by
    have h1 := ptsR_len r
    have h2 := ptsB_len rest
    simp only [ptsB, Bd.size, List.length_cons, List.length_append]; omega
  | .says _ rest => by
    have h2 := ptsB_len rest
    simp only [ptsB, Bd.size, List.length_cons]; omega
end
/-- bodies in a right side -/
def bdsR : Rt → List Bd
  | .fn _ b => [b]
  | _ => []
/-- the statements of a body, each with the bodies in it -/
def stsB : Bd → List (PyData × List Bd)
  | .give a => [(.tuple [.str "give", a.enc], [])]
  | .tail f xs => [(.tuple [.str "tail", f.enc, .tuple (xs.map At.enc)], [])]
  | .cond a b c => [(.tuple [.str "if", a.enc, .tuple b.encs, .tuple c.encs], [b, c])]
  | .lets x r rest => (.tuple [.str "let", .str x, r.enc], bdsR r) :: stsB rest
  | .says a rest => (.tuple [.str "say", a.enc], []) :: stsB rest
theorem stsB_encs : ∀ b : Bd, (stsB b).map (·.1) = b.encs
  | .give _ => rfl
  | .tail _ _ => rfl
  | .cond _ _ _ => rfl
  | .lets x r rest => by simp only [stsB, Bd.encs, List.map_cons, stsB_encs rest]
  | .says a rest => by simp only [stsB, Bd.encs, List.map_cons, stsB_encs rest]
theorem bdsR_pts (r : Rt) : (bdsR r).flatMap ptsB = ptsR r := by
  cases r <;> simp [bdsR, ptsR]
theorem stsB_pts : ∀ b : Bd, (stsB b).flatMap (fun s => s.1 :: s.2.flatMap ptsB) = ptsB b
  | .give _ => rfl
  | .tail _ _ => rfl
  | .cond _ b c => by simp [stsB, ptsB]
  | .lets x r rest => by simp only [stsB, ptsB, List.flatMap_cons, stsB_pts rest, bdsR_pts r, List.cons_append]
  | .says a rest => by simp only [stsB, ptsB, List.flatMap_cons, stsB_pts rest, List.flatMap_nil, List.cons_append, List.nil_append]
def encT (b : Bd) : PyData := .tuple b.encs
theorem shp_word {d : PyData} {l : List PyData} (h : Shp d l) : ∃ w r, d = .tuple (.str w :: r) := by
  cases h with
  | oth h1 h2 => exact ⟨_, _, rfl⟩
  | letp h => exact ⟨_, _, rfl⟩
  | letf => exact ⟨_, _, rfl⟩
  | cond => exact ⟨_, _, rfl⟩
theorem shp_len {d : PyData} {l : List PyData} (h : Shp d l) : l.length ≤ 2 := by
  cases h <;> simp
structure StOk (dd : Nat) (s : PyData × List Bd) : Prop where
  shp : Shp s.1 (s.2.map encT)
  sub : ∀ b ∈ s.2, shB b ∧ b.deep < dd
theorem stsB_ok : ∀ {b : Bd}, shB b → ∀ s ∈ stsB b, StOk b.deep s
  | .give a, _, s, hs => by
    simp only [stsB, List.mem_singleton] at hs
    subst hs
    exact ⟨.oth (by decide +kernel) (by decide +kernel), fun b h => nomatch h⟩
  | .tail f xs, _, s, hs => by
    simp only [stsB, List.mem_singleton] at hs
    subst hs
    exact ⟨.oth (by decide +kernel) (by decide +kernel), fun b h => nomatch h⟩
  | .cond a b c, h, s, hs => by
    simp only [stsB, List.mem_singleton] at hs
    simp only [shB] at h
    subst hs
    refine ⟨.cond, fun x hx => ?_⟩
    simp only [List.mem_cons, List.not_mem_nil, or_false] at hx
    simp only [Bd.deep]
    rcases hx with rfl | rfl
    · exact ⟨h.1, by omega⟩
    · exact ⟨h.2, by omega⟩
  | .lets x r rest, h, s, hs => by
    simp only [shB] at h
    simp only [Bd.deep]
    simp only [stsB, List.mem_cons] at hs
    rcases hs with rfl | hs
    · cases r with
      | two w a b =>
        simp only [shR] at h
        exact ⟨.letp h.1.1, fun b h => nomatch h⟩
      | one w a =>
        simp only [shR] at h
        exact ⟨.letp h.1.1, fun b h => nomatch h⟩
      | call f xs => exact ⟨.letp (by decide +kernel), fun b h => nomatch h⟩
      | fn ps b =>
        simp only [shR] at h
        refine ⟨.letf, fun x hx => ?_⟩
        cases List.mem_singleton.mp hx
        simp only [Rt.deep]
        exact ⟨h.1, by omega⟩
    · have := stsB_ok h.2 s hs
      exact ⟨this.shp, fun b hb => ⟨(this.sub b hb).1, by have := (this.sub b hb).2; omega⟩⟩
  | .says a rest, h, s, hs => by
    simp only [shB] at h
    simp only [Bd.deep]
    simp only [stsB, List.mem_cons] at hs
    rcases hs with rfl | hs
    · exact ⟨.oth (by decide +kernel) (by decide +kernel), fun b h => nomatch h⟩
    · exact stsB_ok h s hs
end PJ

set_option maxHeartbeats 4000000
namespace K4
open PySem L2 Evl DL PJ PG TL
section
variable {P : Program} {w : World} {K : PySem.W.Frag} {mg : Str → Option Value} {base : Heap}
/-! ### plans -/
abbrev fld (fs : List (Str × V)) (f : Str) : Option V := fs.lookup f
/-- a point of the plan: its statement, its top -/
def PtOk (mg : Str → Option Value) (K : PySem.W.Frag) (Hb H : Hp) (v : V) (d : PyData × Str) : Prop := ∃ q dx fs u, v = .ref q ∧ H q = some (.ins (gA mg "Point") dx fs) ∧ fld fs "statement" = some u ∧ Dp K Hb u d.1 ∧ fld fs "top" = some (.str d.2)
inductive PtAll (mg : Str → Option Value) (K : PySem.W.Frag) (Hb H : Hp) : List V → List (PyData × Str) → Prop where
  | nil : PtAll mg K Hb H [] []
  | cons {v : V} {d : PyData × Str} {vs : List V} {ds : List (PyData × Str)} : PtOk mg K Hb H v d → PtAll mg K Hb H vs ds → PtAll mg K Hb H (v :: vs) (d :: ds)
theorem PtAll.mono {Hb H H' : Hp} {vs : List V} {ds : List (PyData × Str)} (h : PtAll mg K Hb H vs ds) (k : ∀ a C dx fs, H a = some (.ins C dx fs) → H' a = some (.ins C dx fs)) : PtAll mg K Hb H' vs ds := by
  induction h with
  | nil => exact .nil
  | cons h _ ih =>
    obtain ⟨q, dx, fs, u, e, hq, r⟩ := h
    exact .cons ⟨q, dx, fs, u, e, k _ _ _ _ hq, r⟩ ih
theorem PtAll.app {Hb H : Hp} {vs us : List V} {ds es : List (PyData × Str)} (h : PtAll mg K Hb H vs ds) (h2 : PtAll mg K Hb H us es) : PtAll mg K Hb H (vs ++ us) (ds ++ es) := by
  induction h with
  | nil => exact h2
  | cons h _ ih => exact .cons h ih
theorem PtAll.len {Hb H : Hp} {vs : List V} {ds : List (PyData × Str)} (h : PtAll mg K Hb H vs ds) : vs.length = ds.length := by
  induction h with
  | nil => rfl
  | cons _ _ ih => simp [ih]
theorem PtAll.at {Hb H H' : Hp} {vs : List V} {ds : List (PyData × Str)} (h : PtAll mg K Hb H vs ds) (k : ∀ a, V.ref a ∈ vs → H' a = H a) : PtAll mg K Hb H' vs ds := by
  induction h with
  | nil => exact .nil
  | cons h _ ih =>
    obtain ⟨q, dx, fs, u, e, hq, r⟩ := h
    exact .cons ⟨q, dx, fs, u, e, by rw [k q (by simp [e])]; exact hq, r⟩ (ih fun a m => k a (List.mem_cons_of_mem _ m))
structure PlanAt (mg : Str → Option Value) (H : Hp) (π pp bb : Addr) : Prop where
  ex : ∃ dx fs, H π = some (.ins (gA mg "Plan") dx fs) ∧ fld fs "points" = some (.ref pp) ∧ fld fs "blocks" = some (.ref bb) ∧ fld fs "add_block" = none
def spAdd (mg : Str → Option Value) (K : PySem.W.Frag) (dd : Nat) : Sp := fun vs H Q _ => ∃ (Hb : Hp) (π pp bb a : Addr) (t : Str) (fn : V) (b : Bd) (pts bls : List V), vs = [.ref π, .str t, .ref a, fn] ∧ Ex Hb (hid [pp, bb] H) ∧ PlanAt mg H π pp bb ∧ pp ≠ bb ∧ H pp = some (.lst pts) ∧ H bb = some (.lst bls) ∧
  Dp K Hb (.ref a) (.tuple b.encs) ∧ shB b ∧ b.deep ≤ dd ∧ pts.length + b.size ≤ 1000000 ∧ bls.length + b.size ≤ 1000000 ∧
  ∀ H' new nb, Kp [pp, bb] H H' → H' pp = some (.lst (pts ++ new)) → H' bb = some (.lst (bls ++ nb)) → nb.length ≤ b.size → PtAll mg K Hb H' new ((ptsB b).map fun d => (d, t)) → (∀ v ∈ new, ∃ q, v = .ref q ∧ H q = none) → Q (.int (bls.length : Nat)) H'
theorem PlanAt.kp {H H' : Hp} {π pp bb : Addr} {pts bls : List V} (h : PlanAt mg H π pp bb) (k : Kp [pp, bb] H H') (hp : H pp = some (.lst pts)) (hb : H bb = some (.lst bls)) : PlanAt mg H' π pp bb := by
  obtain ⟨dx, fs, hi, r⟩ := h.ex
  refine ⟨dx, fs, k _ _ (fun m => ?_) hi, r⟩
  simp only [List.mem_cons, List.not_mem_nil, or_false] at m
  rcases m with rfl | rfl
  · rw [hp] at hi; cases hi
  · rw [hb] at hi; cases hi
theorem PtAll.kp {Hb H H' : Hp} {pp bb : Addr} {pts bls vs : List V} {ds : List (PyData × Str)} (h : PtAll mg K Hb H vs ds) (k : Kp [pp, bb] H H') (hp : H pp = some (.lst pts)) (hb : H bb = some (.lst bls)) : PtAll mg K Hb H' vs ds :=
  h.mono fun a C dx fs ha => k _ _ (fun m => by
    simp only [List.mem_cons, List.not_mem_nil, or_false] at m
    rcases m with rfl | rfl
    · rw [hp] at ha; cases ha
    · rw [hb] at ha; cases ha) ha
theorem bd_add : BindQ "add_block" "Plan.add_block" s_Plan_add_block ["self", "top", "body", "fun"] := fun _ _ _ _ _ _ us hl => match us, hl with | [_, _, _, _], _ => rfl
theorem ok_add (T : Txt K mg) : ∀ dd : Nat, C8.Met P w K mg base (dd + 2) (gA mg "Plan") "add_block" (spAdd mg K dd) [] := by
  intro dd
  induction dd with
  | zero =>
    refine T.m_Plan_add_block.void T.k_Plan bd_add (fun vs H Q E h => ?_) (fun vs H Q E h => ?_)
    · obtain ⟨Hb, π, pp, bb, a, t, fn, b, pts, bls, rfl, _, _, _, _, _, _, _, hd, _⟩ := h
      exact absurd (Bd.deep_pos b) (by omega)
    · obtain ⟨Hb, π, pp, bb, a, t, fn, b, pts, bls, rfl, _⟩ := h
      rfl
  | succ dd ih =>
    refine T.m_Plan_add_block.ok T.k_Plan scs_Plan_add_block bd_add (fun vs H Q E h => ?_) (fun f cdv A outer s0 H vs Q E hr h => ?_)
    · obtain ⟨Hb, π, pp, bb, a, t, fn, b, pts, bls, rfl, _⟩ := h
      rfl
    · obtain ⟨Hb, π, pp, bb, a, t, fn, b, pts, bls, rfl, eb, hπ, hpb, hpp, hbb, hd, sh, hdp, hz1, hz2, k⟩ := h
      have nd := scs_Plan_add_block.nd
      refine ⟨_, pss_cons (ps_set (i := 4) nd rfl (.inl rfl) (pe_callB call_len_seq (by rfl) T.b_len PySem.boot_len (pa_cons (pe_fld (pv 0) rfl) pa_nil)))
        (pss_cons (ps_expr (pe_bm PySem.F.plainAttrs_list PySem.F.slot_list_append PySem.F.type_list_append mt_append (pe_fld (pv 0) rfl) (pa_cons (pe_lst pa_nil) pa_nil)))
        (pss_cons (ps_for PassesOwn.never rfl (pi_enumT (by rfl) T.b_enumerate (pa_cons (pv 2) pa_nil)) (pg_tup rfl (pgs_cons (pg_name (i := 5) nd rfl (.inl rfl)) (pgs_cons (pg_name (i := 6) nd rfl (.inl rfl)) pgs_nil)))
          (pss_cons (ps_set (i := 7) nd rfl (.inl rfl) (C8.pe_mk (ok_point T) hr (by omega) (by rfl) (pa_cons (pe_callB call_len_seq (by rfl) T.b_len PySem.boot_len (pa_cons (pe_fld (pv 0) rfl) pa_nil)) (pa_cons (pv 6) (pa_cons (pv 1) (pa_cons (pv 4) (pa_cons (pv 5) pa_nil)))))))
          (pss_cut (ps_fld (pv 7) (pv 3) rfl)
          (pss_cut (ps_expr (pe_bm PySem.F.plainAttrs_list PySem.F.slot_list_append PySem.F.type_list_append mt_append (pe_fld (pv 0) rfl) (pa_cons (pv 7) pa_nil)))
          (pss_cut (ps_expr (pe_bm PySem.F.plainAttrs_list PySem.F.slot_list_append PySem.F.type_list_append mt_append (pe_ix ix_list (pe_fld (pv 0) rfl) (pv 4) (fun _ _ => rfl)) (pa_cons (pe_fld (pv 7) rfl) pa_nil)))
          (pss_cut (ps_set (i := 8) nd rfl (.inr rfl) (pe_ifExp (pt_cmpR op_eq (pe_ix ix_tup (pv 6) pe_int (fun _ _ => rfl)) pe_str (nomark _)) (pe_fld (pv 7) rfl) (pv 3)))
          (pss_one (ps_fld (pv 7) (pe_lc (own := [("each", 9)]) (g := gName 9) (tt := tYes) (te := tMeth (gA mg "Plan") "add_block" (spAdd mg K dd) [] E0 (tVar 0) (tCons (tVar 1) (tCons (tVar 9) (tCons (tVar 8) tNil)))) rfl nd (pi_list (pe_callD (ok_bodies T) (hr.mono (by omega)) (.inl rfl) bd_bodies pass0 (pa_cons (pv 6) pa_nil)))
            (blkOk_by (N := ["self", "top", "body", "fun", "number", "place", "statement", "point", "inner", "each"]) (sc := defScope s_Plan_add_block) (by decide +kernel)) (fun _ _ _ _ _ => pg_name (i := 9) nd rfl (.inl rfl)) (fun _ _ _ _ _ => pts_nil)
            (fun _ _ _ _ _ => C8.pe_mt ih hr (Nat.le_refl _) (pv 0) (pa_cons (pv 1) (pa_cons (pv 9) (pa_cons (pv 8) pa_nil))))) rfl))))))))
        (pss_one (ps_ret (pv 4))))), ?_⟩
      obtain ⟨dx, fs, hins, lp, lb, la⟩ := hπ.ex
      obtain ⟨a', xs, ea, hS, hxs⟩ := dp_tup hd
      cases ea
      have C := T.k_Plan.cls
      have no := T.k_Plan.no
      have cp := T.k_Point.cls
      have np := T.k_Point.no
      have lx := dpa_len hxs
      have hbe := Bd.encs_len b
      refine ⟨_, rfl, π, _, dx, fs, _, rfl, hins, C, no _ (by simp), lb, bb, bls, rfl, .inl (sq_of hbb), ?_⟩
      refine ⟨_, rfl, π, _, dx, fs, _, rfl, hins, C, no _ (by simp), lb, .inl ⟨rfl, _, sq_of hbb⟩, sz_of (Nat.zero_le _), fun l hl => ?_⟩
      have nbl : bb ≠ l := ne_of_none hbb hl
      have npl : pp ≠ l := ne_of_none hpp hl
      refine ⟨bb, bls, _, rfl, rfl, (by rw [upd_ne nbl]; exact hbb), Nat.lt_of_le_of_lt (Nat.le_trans (Nat.le_add_right _ _) hz2) (by decide), ?_⟩
      have k0 : Kp [pp, bb] H (L2.upd (L2.upd H l (.lst [])) bb (.lst (bls ++ [.ref l]))) := (Kp.of (Ex.new hl)).upd (by simp)
      refine ⟨_, rfl, a, xs, rfl, ex_t (eb.trans (k0.ex.trans hid_ex)) hS, ?_⟩
      have total : ∀ i s, (stsB b)[i]? = some s → (((stsB b).take i).flatMap fun s => s.1 :: s.2.flatMap ptsB).length + (1 + (s.2.flatMap ptsB).length) ≤ b.size := fun i s hs => by
        have h1 := flat_take_le (fun s : PyData × List Bd => s.1 :: s.2.flatMap ptsB) (stsB b) (i + 1)
        rw [flat_take_succ hs, stsB_pts, ptsB_len, List.length_append, List.length_cons] at h1
        omega
      refine for_enumT (K := K) (a := a) (xs := xs) (fun i σ' H' => ∃ (y5 y6 y7 y8 : Option V) (new nb ks : List V), σ' = [some (.ref π), some (.str t), some (.ref a), some fn, some (.int (bls.length : Nat)), y5, y6, y7, y8, none] ∧ Kp [pp, bb] H H' ∧
        H' pp = some (.lst (pts ++ new)) ∧ H' bb = some (.lst (bls ++ .ref l :: nb)) ∧ H' l = some (.lst ks) ∧ ks.length = i ∧ nb.length + i ≤ new.length ∧ PtAll mg K Hb H' new ((((stsB b).take i).flatMap fun s => s.1 :: s.2.flatMap ptsB).map fun d => (d, t)) ∧ (∀ v ∈ new, ∃ q, v = .ref q ∧ H q = none))
        ⟨none, none, none, none, [], [], [], rfl, k0, (by rw [upd_ne hpb, upd_ne npl]; simpa using hpp), upd_same, (by rw [upd_ne nbl.symm]; exact upd_same), rfl, Nat.le_refl _, by simpa using PtAll.nil, fun v hv => nomatch hv⟩ (fun i σ' H' _ z => ?_) ?_ ?_
      · obtain ⟨_, _, _, _, _, _, _, _, kk, _⟩ := z
        exact ex_t (eb.trans (kk.ex.trans hid_ex)) hS
      · rintro i x σ' H1 T0 hx ⟨y5, y6, y7, y8, new, nb, ks, rfl, k1, hpp1, hbb1, hl1, hks, hnb, pa1, fr1⟩ nT
        obtain ⟨d, hd', hxd⟩ := dpa_getV hxs hx
        rw [← stsB_encs, List.getElem?_map] at hd'
        obtain ⟨s, hs, rfl⟩ := Option.map_eq_some_iff.mp hd'
        have St := stsB_ok sh s (List.mem_of_getElem? hs)
        have tot := total i s hs
        have ln1 := pa1.len
        rw [List.length_map] at ln1
        refine ⟨T0, _, rfl, st_of upd_same, rfl, _, _, rfl, _, _, rfl, rfl, ?_⟩
        have e13 : Ex H1 (L2.upd H1 T0 (.tup [.int ((i : Nat) : Int), x])) := Ex.new nT
        generalize hH3 : L2.upd H1 T0 (.tup [.int ((i : Nat) : Int), x]) = H3 at e13
        have hpp3 := e13 _ _ hpp1
        have hbb3 := e13 _ _ hbb1
        have hl3 := e13 _ _ hl1
        have k3 : Kp [pp, bb] H H3 := k1.trans (Kp.of e13)
        have hπ3 : H3 π = some (.ins (gA mg "Plan") dx fs) := by
          refine k3 _ _ (fun m => ?_) hins
          simp only [List.mem_cons, List.not_mem_nil, or_false] at m
          rcases m with rfl | rfl
          · rw [hpp] at hins; cases hins
          · rw [hbb] at hins; cases hins
        refine ⟨_, rfl, π, _, dx, fs, _, rfl, hπ3, C, no _ (by simp), lp, pp, _, rfl, .inl (sq_of hpp3), _, rfl, _, rfl, _, rfl, _, rfl, fun q dq nq ndq nqd => ?_⟩
        refine ⟨q, dq, _, _, _, _, _, rfl, upd_same, fun l2 H4 nl2 sm hl2 hq4 => ⟨rfl, ?_⟩⟩
        have e34 : Ex H3 H4 := fun c o hc => by
          have n1 : c ≠ q := ne_of_none hc nq
          have n2 : c ≠ dq := ne_of_none hc ndq
          have n3 : c ≠ l2 := fun e => by
            rw [← e, upd_ne n1, upd_ne n2, hc] at nl2
            cases nl2
          rw [sm c n1 n3, upd_ne n1, upd_ne n2]
          exact hc
        -- point.fun = fun
        let σp : L2.St := [some (.ref π), some (.str t), some (.ref a), some fn, some (.int (bls.length : Nat)), some (.int (i : Nat)), some x, some (.ref q), y8, none]
        refine ⟨fun σ' H' => σ' = σp ∧ ∃ F5 : List (Str × V), F5.length ≤ 8 ∧ fld F5 "number" = some (.int ((pts ++ new).length : Nat)) ∧ fld F5 "statement" = some x ∧ fld F5 "top" = some (.str t) ∧ H' = L2.upd H4 q (.ins (gA mg "Point") dq F5), ?_, ?_⟩
        · exact ⟨_, rfl, _, rfl, q, _, dq, _, rfl, hq4, cp, np _ (by simp), by show 7 < 1000; decide, rfl, _, putF_len _ _ _, by rw [fld, lookup_putF, if_neg (by decide +kernel)]; rfl, by rw [fld, lookup_putF, if_neg (by decide +kernel)]; rfl, by rw [fld, lookup_putF, if_neg (by decide +kernel)]; rfl, rfl⟩
        rintro _ _ ⟨rfl, F5, f5l, f5n, f5s, f5t, rfl⟩
        have nqp : q ≠ pp := (ne_of_none hpp3 nq).symm
        have nqb : q ≠ bb := (ne_of_none hbb3 nq).symm
        have nql : q ≠ l := (ne_of_none hl3 nq).symm
        have nqπ : q ≠ π := (ne_of_none hπ3 nq).symm
        have Hq : H q = none := by
          cases hh : H q with
          | none => rfl
          | some o =>
            have := k3 q o (by simp [nqp, nqb]) hh
            rw [nq] at this
            cases this
        have H1q : H1 q = none := fresh_back e13 nq
        have k5 : Kp [pp, bb] H (L2.upd H4 q (.ins (gA mg "Point") dq F5)) := (k3.trans (Kp.of e34)).mut Hq
        have k15 : Kp [pp, bb] H1 (L2.upd H4 q (.ins (gA mg "Point") dq F5)) := (Kp.of (e13.trans e34)).mut H1q
        have hpp5 : L2.upd H4 q (.ins (gA mg "Point") dq F5) pp = some (.lst (pts ++ new)) := by rw [upd_ne nqp.symm]; exact e34 _ _ hpp3
        have hbb5 : L2.upd H4 q (.ins (gA mg "Point") dq F5) bb = some (.lst (bls ++ .ref l :: nb)) := by rw [upd_ne nqb.symm]; exact e34 _ _ hbb3
        have hl5 : L2.upd H4 q (.ins (gA mg "Point") dq F5) l = some (.lst ks) := by rw [upd_ne nql.symm]; exact e34 _ _ hl3
        have hπ5 : L2.upd H4 q (.ins (gA mg "Point") dq F5) π = some (.ins (gA mg "Plan") dx fs) := by rw [upd_ne nqπ.symm]; exact e34 _ _ hπ3
        have hq5 : L2.upd H4 q (.ins (gA mg "Point") dq F5) q = some (.ins (gA mg "Point") dq F5) := upd_same
        generalize L2.upd H4 q (.ins (gA mg "Point") dq F5) = H5 at k5 k15 hpp5 hbb5 hl5 hπ5 hq5 ⊢
        -- self.points.append(point)
        have big : (1000000 : Nat) < sizeLine := by decide
        refine ⟨fun σ' H' => σ' = σp ∧ H' = L2.upd H5 pp (.lst (pts ++ new ++ [.ref q])), ?_, ?_⟩
        · exact ⟨_, rfl, π, _, dx, fs, _, rfl, hπ5, C, no _ (by simp), lp, .inl ⟨rfl, _, sq_of hpp5⟩, _, rfl, pp, _, _, rfl, rfl, hpp5, by rw [List.length_append]; omega, rfl, rfl⟩
        rintro _ _ ⟨rfl, rfl⟩
        have k6 : Kp [pp, bb] H (L2.upd H5 pp (.lst (pts ++ new ++ [.ref q]))) := k5.upd (by simp)
        have k16 : Kp [pp, bb] H1 (L2.upd H5 pp (.lst (pts ++ new ++ [.ref q]))) := k15.upd (by simp)
        have hbb6 : L2.upd H5 pp (.lst (pts ++ new ++ [.ref q])) bb = some (.lst (bls ++ .ref l :: nb)) := by rw [upd_ne hpb.symm]; exact hbb5
        have hl6 : L2.upd H5 pp (.lst (pts ++ new ++ [.ref q])) l = some (.lst ks) := by rw [upd_ne npl.symm]; exact hl5
        have nπp : π ≠ pp := fun e => by rw [e, hpp] at hins; cases hins
        have hπ6 : L2.upd H5 pp (.lst (pts ++ new ++ [.ref q])) π = some (.ins (gA mg "Plan") dx fs) := by rw [upd_ne nπp]; exact hπ5
        have hq6 : L2.upd H5 pp (.lst (pts ++ new ++ [.ref q])) q = some (.ins (gA mg "Point") dq F5) := by rw [upd_ne nqp]; exact hq5
        have hpp6 : L2.upd H5 pp (.lst (pts ++ new ++ [.ref q])) pp = some (.lst (pts ++ new ++ [.ref q])) := upd_same
        generalize L2.upd H5 pp (.lst (pts ++ new ++ [.ref q])) = H6 at k6 k16 hpp6 hbb6 hl6 hπ6 hq6 ⊢
        -- self.blocks[number].append(point.number)
        refine ⟨fun σ' H' => σ' = σp ∧ H' = L2.upd H6 l (.lst (ks ++ [.int ((pts ++ new).length : Nat)])), ?_, ?_⟩
        · exact ⟨_, rfl, π, _, dx, fs, _, rfl, hπ6, C, no _ (by simp), lb, _, rfl, bb, _, _, .ref l, rfl, rfl, sq_of hbb6, atI_nat (by simp), .inl ⟨rfl, _, sq_of hl6⟩, _, rfl, q, _, dq, _, _, rfl, hq6, cp, np _ (by simp), f5n, l, _, _, rfl, rfl, hl6, by omega, rfl, rfl⟩
        rintro _ _ ⟨rfl, rfl⟩
        have k7 : Kp [pp, bb] H (L2.upd H6 l (.lst (ks ++ [.int ((pts ++ new).length : Nat)]))) := k6.mut hl
        have k17 : Kp [pp, bb, l] H1 (L2.upd H6 l (.lst (ks ++ [.int ((pts ++ new).length : Nat)]))) := (k16.mono (by simp)).upd (by simp)
        have nlp : pp ≠ l := npl
        have hpp7 : L2.upd H6 l (.lst (ks ++ [.int ((pts ++ new).length : Nat)])) pp = some (.lst (pts ++ new ++ [.ref q])) := by rw [upd_ne npl]; exact hpp6
        have hbb7 : L2.upd H6 l (.lst (ks ++ [.int ((pts ++ new).length : Nat)])) bb = some (.lst (bls ++ .ref l :: nb)) := by rw [upd_ne nbl]; exact hbb6
        have nπl : π ≠ l := ne_of_none hins hl
        have hπ7 : L2.upd H6 l (.lst (ks ++ [.int ((pts ++ new).length : Nat)])) π = some (.ins (gA mg "Plan") dx fs) := by rw [upd_ne nπl]; exact hπ6
        have hq7 : L2.upd H6 l (.lst (ks ++ [.int ((pts ++ new).length : Nat)])) q = some (.ins (gA mg "Point") dq F5) := by rw [upd_ne nql]; exact hq6
        have hl7 : L2.upd H6 l (.lst (ks ++ [.int ((pts ++ new).length : Nat)])) l = some (.lst (ks ++ [.int ((pts ++ new).length : Nat)])) := upd_same
        generalize L2.upd H6 l (.lst (ks ++ [.int ((pts ++ new).length : Nat)])) = H7 at k7 k17 hpp7 hbb7 hl7 hπ7 hq7 ⊢
        have eb7 : Ex Hb (hid [pp, bb] H7) := eb.trans k7.ex
        -- inner
        refine ⟨fun σ' H' => ∃ y8, σ' = [some (.ref π), some (.str t), some (.ref a), some fn, some (.int (bls.length : Nat)), some (.int (i : Nat)), some x, some (.ref q), some y8, none] ∧ H' = H7, ?_, ?_⟩
        · obtain ⟨w, r, es⟩ := shp_word St.shp
          rw [es] at hxd
          obtain ⟨c, cs, rfl, hc, hcs⟩ := dp_tup hxd
          cases hcs with | cons g0 gr =>
          obtain rfl := dp_str g0
          refine ⟨_, rfl, c, _, 0, _, rfl, rfl, ex_t (eb7.trans hid_ex) hc, atI_nat (j := 0) rfl, rfl, _, rfl, ite2 (fun _ => ?_) (fun _ => ?_)⟩
          · exact ⟨_, rfl, q, _, dq, _, _, rfl, hq7, cp, np _ (by simp), f5n, _, rfl, rfl⟩
          · exact ⟨_, rfl, _, rfl, rfl⟩
        · rintro _ H7 ⟨y8, rfl, rfl⟩
          dsimp only [sFld]
          refine ⟨_, rfl, x, s.1, _, Hb, rfl, eb7.trans hid_ex, hxd, St.shp, fun p H9 ys np9 e9 hp9 hys => ⟨p, rfl, ⟨ys, sq_of hp9⟩, fun D nD => ?_⟩⟩
          have lys := dpa_len hys
          rw [List.length_map] at lys
          have hpp9 := e9 _ _ hpp7
          have hbb9 := e9 _ _ hbb7
          have hq9 := e9 _ _ hq7
          have hl9 := e9 _ _ hl7
          have nDp : p ≠ D := ne_of_none hp9 nD
          have nDpp : pp ≠ D := ne_of_none hpp9 nD
          have nDbb : bb ≠ D := ne_of_none hbb9 nD
          have sub : ∀ j b', s.2[j]? = some b' → ((s.2.take j).flatMap ptsB).length + b'.size ≤ (s.2.flatMap ptsB).length := fun j b' hj => by
            have h1 := flat_take_le ptsB s.2 (j + 1)
            rw [flat_take_succ hj, List.length_append, ptsB_len] at h1
            exact h1
          refine lc_list (K := K) (a := p) (xs := ys) (fun j H' => ∃ (new2 nb2 acc : List V), Kp [pp, bb] H9 H' ∧ H' D = some (.lst acc) ∧ acc.length = j ∧ H' pp = some (.lst (pts ++ new ++ [.ref q] ++ new2)) ∧ H' bb = some (.lst (bls ++ .ref l :: nb ++ nb2)) ∧
            nb2.length ≤ new2.length ∧ PtAll mg K Hb H' new2 (((s.2.take j).flatMap ptsB).map fun d => (d, t)) ∧ (∀ v ∈ new2, ∃ q, v = .ref q ∧ H9 q = none)) ⟨[], [], [], Kp.of (Ex.new nD), upd_same, rfl, (by rw [upd_ne nDpp]; simpa using hpp9), (by rw [upd_ne nDbb]; simpa using hbb9), Nat.le_refl _, by simpa using PtAll.nil, fun v hv => nomatch hv⟩ (fun j H' _ z => ?_) ?_ ?_
          · obtain ⟨_, _, _, kk, _⟩ := z
            have np1 : p ≠ pp := fun e => by rw [e, hpp7] at np9; cases np9
            have np2 : p ≠ bb := fun e => by rw [e, hbb7] at np9; cases np9
            exact sq_of (kk _ _ (by simp [np1, np2]) hp9)
          · rintro j y H10 hy ⟨new2, nb2, acc, k10, hD10, hacc, hpp10, hbb10, hnb2, pa10, fr10⟩
            obtain ⟨d2, hd2, hyd⟩ := dpa_getV hys hy
            rw [List.getElem?_map] at hd2
            obtain ⟨b', hb', rfl⟩ := Option.map_eq_some_iff.mp hd2
            obtain ⟨sh', dp'⟩ := St.sub b' (List.mem_of_getElem? hb')
            obtain ⟨a2, xs2, rfl, hS2, hxs2⟩ := dp_tup hyd
            have ssub := sub j b' hb'
            have ln2 := pa10.len
            rw [List.length_map] at ln2
            have k710 : Kp [pp, bb] H7 H10 := (Kp.of e9).trans k10
            have hπ10 : H10 π = some (.ins (gA mg "Plan") dx fs) := k710 _ _ (fun m => by
              simp only [List.mem_cons, List.not_mem_nil, or_false] at m
              rcases m with rfl | rfl
              · exact nπp rfl
              · rw [hbb] at hins; cases hins) hπ7
            refine ⟨rfl, lc_yes ?_⟩
            refine ⟨_, rfl, π, dx, fs, rfl, hπ10, la, _, rfl, _, rfl, _, rfl, Hb, π, pp, bb, a2, t, y8, b', _, _, rfl, eb7.trans k710.ex, ⟨dx, fs, hπ10, lp, lb, la⟩, hpb, hpp10, hbb10, .tup hS2 hxs2, sh', by omega, ?_, ?_, fun H11 new3 nb3 k11 hpp11 hbb11 hl3' pa11 fr11 => ?_⟩
            · simp only [List.length_append, List.length_singleton]; omega
            · simp only [List.length_append, List.length_cons]; omega
            · have nD10 : D ≠ pp ∧ D ≠ bb := ⟨nDpp.symm, nDbb.symm⟩
              have hD11 : H11 D = some (.lst acc) := k11 _ _ (by simp [nD10.1, nD10.2]) hD10
              refine ⟨acc, hD11, ?_, new2 ++ new3, nb2 ++ nb3, acc ++ [.int _], (k10.trans k11).mut nD, upd_same, by simp [hacc], ?_, ?_, ?_, ?_, ?_⟩
              · have := (List.getElem?_eq_some_iff.mp hb').1
                have hsz := shp_len St.shp
                rw [List.length_map] at hsz
                omega
              · rw [upd_ne nDpp, hpp11, List.append_assoc]
              · rw [upd_ne nDbb, hbb11, List.append_assoc]
              · rw [List.length_append, List.length_append]
                have := pa11.len
                rw [List.length_map, ptsB_len] at this
                omega
              · rw [flat_take_succ hb', List.map_append]
                refine (PtAll.app (pa10.kp k11 hpp10 hbb10) pa11).mono fun c C dx fs hc => ?_
                rw [upd_ne (fun e => by rw [e, hD11] at hc; cases hc)]
                exact hc
              · intro v hv
                rcases List.mem_append.mp hv with m | m
                · exact fr10 v m
                · obtain ⟨z, rfl, hz⟩ := fr11 v m
                  refine ⟨z, rfl, ?_⟩
                  cases hh : H9 z with
                  | none => rfl
                  | some o =>
                    have z1 : z ≠ pp := fun e => by rw [e, hpp10] at hz; cases hz
                    have z2 : z ≠ bb := fun e => by rw [e, hbb10] at hz; cases hz
                    have := k10 z o (by simp [z1, z2]) hh
                    rw [hz] at this
                    cases this
          · rintro H10 ⟨new2, nb2, acc, k10, hD10, hacc, hpp10, hbb10, hnb2, pa10, fr10⟩
            have et : s.2.take ys.length = s.2 := List.take_of_length_le (by omega)
            rw [et] at pa10
            have ln2 := pa10.len
            rw [List.length_map] at ln2
            have hq10 : H10 q = some (.ins (gA mg "Point") dq F5) := k10 _ _ (by simp [nqp, nqb]) hq9
            have hl10 : H10 l = some (.lst (ks ++ [.int ((pts ++ new).length : Nat)])) := k10 _ _ (by simp [npl.symm, nbl.symm]) hl9
            refine ⟨_, rfl, q, _, dq, _, rfl, hq10, cp, np _ (by simp), by omega, ?_⟩
            have k710 : Kp [pp, bb] H7 H10 := (Kp.of e9).trans k10
            refine ⟨_, _, _, _, new ++ .ref q :: new2, nb ++ nb2, ks ++ [.int ((pts ++ new).length : Nat)], rfl, ((k7.trans k710).mut Hq), ?_, ?_, ?_, ?_, ?_, ?_, ?_⟩
            · rw [upd_ne nqp.symm, hpp10]; simp
            · rw [upd_ne nqb.symm, hbb10]; simp
            · rw [upd_ne nql.symm]; exact hl10
            · simp [hks]
            · simp only [List.length_append, List.length_cons]; omega
            · rw [flat_take_succ hs, List.map_append, List.map_cons]
              refine PtAll.app ?_ (.cons ?_ ?_)
              · refine pa1.mono fun c C dx' fs' hc => ?_
                have nc : c ≠ q := ne_of_none hc H1q
                rw [upd_ne nc]
                have c1 : c ≠ pp := fun e => by rw [e, hpp1] at hc; cases hc
                have c2 : c ≠ bb := fun e => by rw [e, hbb1] at hc; cases hc
                have c3 : c ≠ l := fun e => by rw [e, hl1] at hc; cases hc
                exact k710 _ _ (by simp [c1, c2]) (k17 _ _ (by simp [c1, c2, c3]) hc)
              · refine ⟨q, dq, _, x, rfl, upd_same, ?_, hxd, ?_⟩
                · rw [fld, lookup_putF, if_neg (by decide +kernel)]; exact f5s
                · rw [fld, lookup_putF, if_neg (by decide +kernel)]; exact f5t
              · refine pa10.at fun c hc => ?_
                obtain ⟨z, ez, hz⟩ := fr10 _ hc
                cases ez
                rw [upd_ne (fun e => by rw [e, hq9] at hz; cases hz)]
            · intro v hv
              rcases List.mem_append.mp hv with m | m
              · exact fr1 v m
              · rcases List.mem_cons.mp m with rfl | m
                · exact ⟨q, rfl, Hq⟩
                · obtain ⟨z, rfl, hz⟩ := fr10 v m
                  refine ⟨z, rfl, ?_⟩
                  cases hh : H z with
                  | none => rfl
                  | some o =>
                    have z1 : z ≠ pp := fun e => by rw [e, hpp9] at hz; cases hz
                    have z2 : z ≠ bb := fun e => by rw [e, hbb9] at hz; cases hz
                    have := e9 _ _ (k7 z o (by simp [z1, z2]) hh)
                    rw [hz] at this
                    cases this
      · rintro σ' H' ⟨y5, y6, y7, y8, new, nb, ks, rfl, k1, hpp1, hbb1, hl1, hks, hnb, pa1, fr1⟩
        refine ⟨_, rfl, ?_⟩
        have et : (stsB b).take xs.length = stsB b := List.take_of_length_le (by rw [lx, ← stsB_encs, List.length_map]; exact Nat.le_refl _)
        rw [et, stsB_pts] at pa1
        have ln1 := pa1.len
        rw [List.length_map, ptsB_len] at ln1
        refine k H' new (.ref l :: nb) k1 hpp1 hbb1 ?_ pa1 fr1
        rw [List.length_cons]
        omega
end
end K4

set_option maxHeartbeats 4000000
namespace DL
open PySem L2 Evl PySem.Spec PyProof.Rows PJ
theorem exHid {ps : List Addr} {Hb H : Hp} (h : Ex Hb H) (n : ∀ p ∈ ps, Hb p = none) : Ex Hb (hid ps H) := fun a o ha => hid_of (h a o ha) fun m => by rw [n a m] at ha; cases ha
theorem wipe3_set (σ : L2.St) (i j : Nat) (u v w : Option V) : wipe ((((wipe σ [i, j]).set i u).set j v).set j w) [i, j] = wipe σ [i, j] := by
  show ((((((σ.set j none).set i none).set i u).set j v).set j w).set j none).set i none = (σ.set j none).set i none
  refine List.ext_getElem? fun m => ?_
  simp only [List.getElem?_set, List.length_set]
  by_cases h1 : i = m <;> by_cases h2 : j = m <;> simp [h1, h2]
theorem strs_of {vs : List V} {xs : List Str} (hl : vs.length = xs.length) (h : ∀ (j : Nat) (v : V), vs[j]? = some v → ∃ x, xs[j]? = some x ∧ v = V.str x) : vs = xs.map V.str := by
  refine List.ext_getElem? fun j => ?_
  rw [List.getElem?_map]
  rcases Nat.lt_or_ge j vs.length with hj | hj
  · obtain ⟨x, hx, e⟩ := h j _ (List.getElem?_eq_getElem hj)
    rw [List.getElem?_eq_getElem hj, hx, e]
    rfl
  · rw [List.getElem?_eq_none hj, List.getElem?_eq_none (by omega)]
    rfl
section
variable {K : PySem.W.Frag} {σ : L2.St} {Hb H : Hp} {Q : VK} {ts : TE} {i j : Nat} {xs : List V} {a : Addr} {tps : List Tp3}
/-- [name for name, _, _ in program] -/
theorem lc_names (hs : Ev ts σ H (.ref a)) (hij : i ≠ j) (hi : i < σ.length) (hS : SqT K H a xs) (hd : DpAll K Hb xs (tps.map pEnc)) (eb : Ex Hb H) (hl : tps.length ≤ 1000000)
    (k : ∀ p H', H p = none → Ex H H' → H' p = some (.lst ((tps.map (·.1)).map V.str)) → Q (.ref p) H') : tLc (iTup K ts) (gTup K 3 (gCons (gName i) (gCons (gName j) (gCons (gName j) gNil)))) tYes (tVar i) [i, j] σ H Q := by
  refine hs H (Ex.refl H) _ fun H1 e1 => ⟨a, rfl, ⟨xs, ex_t e1 hS⟩, fun D nD => ?_⟩
  have nDH : H D = none := fresh_back e1 nD
  have lx := dpa_len hd
  rw [List.length_map] at lx
  refine lc_tup (K := K) (a := a) (xs := xs) (fun m H' => Grown H D (fun m v => ∃ x, (tps.map (·.1))[m]? = some x ∧ v = V.str x) m H') ⟨e1.trans (Ex.new nD), [], upd_same, rfl, fun j v h => by simp at h⟩ (fun m H' _ z => ex_t z.1 hS) ?_ ?_
  · rintro m x H' hx g
    obtain ⟨d, hdm, hxd⟩ := dpa_getV hd hx
    rw [List.getElem?_map] at hdm
    obtain ⟨t, ht, rfl⟩ := Option.map_eq_some_iff.mp hdm
    obtain ⟨c, cs, rfl, hc, hcs⟩ := dp_tup hxd
    cases hcs with | cons g0 gr => cases gr with | cons g1 gr => cases gr with | cons g2 gr => cases gr with | nil =>
    obtain rfl := dp_str g0
    refine ⟨c, _, rfl, ex_t (eb.trans g.1) hc, rfl, _, _, rfl, _, _, rfl, _, _, rfl, rfl, wipe3_set σ i j _ _ _, lc_yes ⟨.str t.1, ?_, ?_⟩⟩
    · simp only [List.getElem?_set, List.length_set, wipe_length]
      simp [hij.symm, hi]
    · exact g.next nDH (List.getElem?_eq_some_iff.mp hx).1 (by omega) (Ex.refl _) ⟨t.1, by rw [List.getElem?_map, ht]; rfl, rfl⟩
  · rintro H' ⟨e, vs, hD, hvl, hR⟩
    refine k D H' nDH e ?_
    rw [hD, strs_of (xs := tps.map (·.1)) (by rw [hvl, lx, List.length_map]) hR]
end
end DL
namespace DL
open PySem L2 Evl PySem.Spec PyProof.Rows PJ
theorem any_bools {K : PySem.W.Frag} {H : Hp} {Q : VK} {p : Addr} {vs : List V} (f : Nat → Bool) (n : Nat) (hp : H p = some (.lst vs)) (hl : vs.length = n) (h : ∀ j v, vs[j]? = some v → v = V.bl (f j)) (q : Q (.bl ((List.range n).any f)) H) : rAny K [.ref p] H Q := by
  refine ⟨p, (List.range n).map f, rfl, ?_, ?_⟩
  · have e := vs_of (f := fun j => V.bl (f j)) hl h
    rw [e] at hp
    rw [List.map_map]
    exact sq_of hp
  · rw [List.any_map]
    exact q
theorem range_any {α : Type} (l : List α) (g : α → Bool) (f : Nat → Bool) (h : ∀ j x, l[j]? = some x → f j = g x) : (List.range l.length).any f = l.any g := by
  have e := range_all l (fun x => !g x) (fun j => !f j) fun j x hx => by rw [h j x hx]
  rw [List.any_eq_not_all_not, List.any_eq_not_all_not]
  exact congrArg (fun b => !b) e
end DL

set_option maxHeartbeats 4000000
namespace K4
open PySem L2 Evl DL PJ PG TL
section
variable {P : Program} {w : World} {K : PySem.W.Frag} {mg : Str → Option Value} {base : Heap}
theorem bd_plan : BindQ "__init__" "Plan.__init__" s_Plan_init ["self", "program"] := fun _ _ _ _ _ _ us hl => match us, hl with | [_, _], _ => rfl
def ptsP (ts : List Tp3) : List (PyData × Str) := ts.flatMap fun t => (ptsB t.2.2).map fun d => (d, t.1)
/-- what a plan tells: its points, its params -/
structure PlanOk (mg : Str → Option Value) (K : PySem.W.Frag) (Hb H : Hp) (π : Addr) (ts : List Tp3) : Prop where
  ex : ∃ dx fs pp pd pts kvs, H π = some (.ins (gA mg "Plan") dx fs) ∧ fld fs "points" = some (.ref pp) ∧ fld fs "params" = some (.ref pd) ∧ H pp = some (.lst pts) ∧ PtAll mg K Hb H pts (ptsP ts) ∧ H pd = some (.dK kvs) ∧
    ((ts.map (·.1)).Nodup → ∀ t ∈ ts, ∃ v, valV kvs (Sum.inr t.1) = some v ∧ Dp K Hb v (.tuple (t.2.1.map PyData.str)))
def sizeP (ts : List Tp3) : Nat := (ts.map fun t => t.2.2.size).sum
def spPlan (mg : Str → Option Value) (K : PySem.W.Frag) : Sp := fun vs H Q _ => ∃ (Hb : Hp) (x dx : Addr) (v : V) (ts : List Tp3), vs = [.ref x, v] ∧ H x = some (.ins (gA mg "Plan") dx []) ∧ Ex Hb (hid [x] H) ∧ Dp K Hb v (.tuple (ts.map pEnc)) ∧ (∀ t ∈ ts, okTp t) ∧ sizeP ts ≤ 1000000 ∧ ts.length ≤ 1000000 ∧
  ∀ H', Kp [x] H H' → PlanOk mg K Hb H' x ts → Q .non H'
theorem ok_plan (T : Txt K mg) : C8.Mak P w K mg base 13 "Plan" (gA mg "Plan") (spPlan mg K) [] := by
  refine T.i_Plan.ok T.k_Plan scs_Plan_init bd_plan (fun vs H Q E h => ?_) (fun f cdv A outer s H vs Q E hr h => ?_)
  · obtain ⟨Hb, x, dx, v, ts, rfl, _⟩ := h
    rfl
  · obtain ⟨Hb, x, dx, v, ts, rfl, hx, eb, hd, ok, hz, hz2, k⟩ := h
    have C := T.k_Plan.cls
    have no := T.k_Plan.no
    have nd := scs_Plan_init.nd
    refine ⟨_, pss_cut (ps_fld (pv 0) (pe_lc (own := [("name", 2), ("_", 3)]) (g := gTup K 3 (gCons (gName 2) (gCons (gName 3) (gCons (gName 3) gNil)))) (tt := tYes) (te := tVar 2) rfl nd (pi_tup (pv 1)) (blkOk_by (N := ["self", "program", "name", "_", "body", "params"]) (sc := defScope s_Plan_init) (by decide +kernel))
        (fun _ _ _ _ _ => pg_tup rfl (pgs_cons (pg_name (i := 2) nd rfl (.inl rfl)) (pgs_cons (pg_name (i := 3) nd rfl (.inl rfl)) (pgs_cons (pg_name (i := 3) nd rfl (.inl rfl)) pgs_nil)))) (fun _ _ _ _ _ => pts_nil) (fun _ _ _ _ _ => pv 2)) rfl)
      (pss_cut (ps_fld (pv 0) (pe_dc (own := [("name", 2), ("params", 5), ("_", 3)]) (g := gTup K 3 (gCons (gName 2) (gCons (gName 5) (gCons (gName 3) gNil)))) (tt := tYes) (tk := tVar 2) (tv := tVar 5) rfl nd (pi_tup (pv 1)) (blkOk_by (N := ["self", "program", "name", "_", "body", "params"]) (sc := defScope s_Plan_init) (by decide +kernel))
        (fun _ _ _ _ _ => pg_tup rfl (pgs_cons (pg_name (i := 2) nd rfl (.inl rfl)) (pgs_cons (pg_name (i := 5) nd rfl (.inl rfl)) (pgs_cons (pg_name (i := 3) nd rfl (.inl rfl)) pgs_nil)))) (fun _ _ _ _ _ => pts_nil) (fun _ _ _ _ _ => pv 2) (fun _ _ _ _ _ => pv 5)) rfl)
      (pss_cut (ps_fld (pv 0) (pe_lst pa_nil) rfl) (pss_cut (ps_fld (pv 0) (pe_lst pa_nil) rfl) (pss_cut (ps_fld (pv 0) pe_dnewK rfl)
      (pss_one (ps_for PassesOwn.never rfl (pi_tup (pv 1)) (pg_tup rfl (pgs_cons (pg_name (i := 2) nd rfl (.inl rfl)) (pgs_cons (pg_name (i := 3) nd rfl (.inl rfl)) (pgs_cons (pg_name (i := 4) nd rfl (.inl rfl)) pgs_nil))))
        (pss_one (ps_dput (hu_of hr) (pe_fld (pv 0) rfl) (pv 2) (C8.pe_mt (ok_add T 10) hr (Nat.le_refl _) (pv 0) (pa_cons (pv 2) (pa_cons (pv 4) (pa_cons pe_non pa_nil)))) rfl)))))))), ?_⟩
    obtain ⟨a, xs, rfl, hS0, hxs⟩ := dp_tup hd
    have lx := dpa_len hxs
    rw [List.length_map] at lx
    let σ0 : L2.St := [some (.ref x), some (.ref a), none, none, none, none]
    have ebk : ∀ {H'}, Kp [x] H H' → Ex Hb H' := fun k' => eb.trans (k'.ex.trans hid_ex)
    have big : (1000000 : Nat) < sizeLine := by decide
    have frs : ∀ {H' : Hp} {p : Addr} {o : HO}, Kp [x] H H' → H' x = some o → H' p = none → H p = none := fun {H' p o} k' hx' hp => by
      cases hh : H p with
      | none => rfl
      | some u =>
        have nx : p ≠ x := fun z => by rw [z, hx'] at hp; cases hp
        have := k' p u (by simp [nx]) hh
        rw [hp] at this
        cases this
    -- tops
    refine ⟨fun σ' H' => σ' = σ0 ∧ ∃ q1 : Addr, Kp [x] H H' ∧ H' x = some (.ins (gA mg "Plan") dx [("tops", .ref q1)]), ?_, ?_⟩
    · dsimp only [sFld]
      refine lc_names (K := K) (Hb := Hb) (a := a) (xs := xs) (tps := ts) (ts := tVar 1) (σ := σ0) (i := 2) (j := 3) (ev_var rfl) (by decide) (by show 2 < 6; decide) (ex_t (eb.trans hid_ex) hS0) hxs (eb.trans hid_ex) hz2 fun p H1 np e1 hp => ?_
      exact ⟨_, rfl, x, _, dx, _, rfl, e1 _ _ hx, C, no _ (by simp), by decide, rfl, p, (Kp.of e1).upd (by simp), upd_same⟩
    rintro _ H1 ⟨rfl, q1, k1, hx1⟩
    -- params
    let F2 : Addr → List (Str × V) := fun pd => [("tops", .ref q1), ("params", .ref pd)]
    refine ⟨fun σ' H' => σ' = σ0 ∧ ∃ (pd : Addr) (kvs : List (Key × V)), Kp [x] H H' ∧ H' x = some (.ins (gA mg "Plan") dx (F2 pd)) ∧ H' pd = some (.dK kvs) ∧ ((ts.map (·.1)).Nodup → ∀ t ∈ ts, ∃ v, valV kvs (Sum.inr t.1) = some v ∧ Dp K Hb v (.tuple (t.2.1.map PyData.str))), ?_, ?_⟩
    · dsimp only [sFld, tDc, iTup]
      refine ⟨_, rfl, a, rfl, ⟨xs, ex_t (ebk k1) hS0⟩, fun D nD => ?_⟩
      refine ⟨fun i m H' => m = xs.length - i ∧ i ≤ xs.length ∧ Ex H1 H' ∧ ∃ kvs, H' D = some (.dK kvs) ∧ kvs.length ≤ i ∧ ((ts.map (·.1)).Nodup → ∀ j t, j < i → ts[j]? = some t → ∃ v, valV kvs (Sum.inr t.1) = some v ∧ Dp K Hb v (.tuple (t.2.1.map PyData.str))),
        ⟨_, rfl, Nat.zero_le _, Ex.new nD, [], upd_same, Nat.le_refl _, fun _ j t hj => absurd hj (Nat.not_lt_zero _)⟩, ?_⟩
      rintro i m H2 ⟨rfl, hi, e2, kvs, hD, hkl, hk⟩
      have hS2 := ex_t ((ebk k1).trans e2) hS0
      rcases Nat.lt_or_ge i xs.length with lt | ge
      · refine .inr ⟨⟨xs, xs[i], hS2, List.getElem?_eq_getElem lt⟩, fun H' => Ex H1 H' ∧ ∃ kvs, H' D = some (.dK kvs) ∧ kvs.length ≤ i + 1 ∧ ((ts.map (·.1)).Nodup → ∀ j t, j < i + 1 → ts[j]? = some t → ∃ v, valV kvs (Sum.inr t.1) = some v ∧ Dp K Hb v (.tuple (t.2.1.map PyData.str))), fun H' g => ⟨_, by omega, rfl, lt, g⟩, ?_⟩
        rintro y _ ⟨rfl, hy⟩
        have hy := hy xs hS2
        obtain ⟨d, hdm, hyd⟩ := dpa_getV hxs hy
        rw [List.getElem?_map] at hdm
        obtain ⟨t, ht, rfl⟩ := Option.map_eq_some_iff.mp hdm
        obtain ⟨c, cs, rfl, hc, hcs⟩ := dp_tup hyd
        cases hcs with | cons g0 gr => cases gr with | cons g1 gr => cases gr with | cons g2 gr => cases gr with | nil =>
        obtain rfl := dp_str g0
        refine ⟨c, _, rfl, ex_t ((ebk k1).trans e2) hc, rfl, _, _, rfl, _, _, rfl, _, _, rfl, rfl, rfl, lc_yes ⟨_, rfl, _, rfl, kvs, Sum.inr t.1, rfl, hD, by omega, ?_, _, upd_same, ?_, fun hn j u hj hu => ?_⟩⟩
        · intro b o hb
          have nb : b ≠ D := fun z => by rw [z, nD] at hb; cases hb
          rw [upd_ne nb]
          exact e2 _ _ hb
        · have := length_putK kvs (Sum.inr t.1) ‹V›
          exact Nat.le_trans (length_putK _ _ _) (by omega)
        · rw [valV_put]
          rcases Nat.lt_or_ge j i with hlt | hge
          · have nt : ¬ (Sum.inr u.1 : Key) = Sum.inr t.1 := fun e => by
              have e : u.1 = t.1 := Sum.inr.inj e
              have hp := List.pairwise_iff_getElem.mp hn j i (by rw [List.length_map]; exact (List.getElem?_eq_some_iff.mp hu).1) (by rw [List.length_map]; exact (List.getElem?_eq_some_iff.mp ht).1) hlt
              rw [List.getElem_map, List.getElem_map, (List.getElem?_eq_some_iff.mp hu).2, (List.getElem?_eq_some_iff.mp ht).2] at hp
              exact hp e
            rw [if_neg nt]
            exact hk hn j u hlt hu
          · have : j = i := by omega
            subst this
            rw [ht] at hu
            cases hu
            rw [if_pos rfl]
            exact ⟨_, rfl, g1⟩
      · have e : i = xs.length := by omega
        subst e
        refine .inl ⟨⟨xs, hS2, Nat.le_refl _⟩, _, rfl, x, _, dx, _, rfl, e2 _ _ hx1, C, no _ (by simp), by show 1 < 1000; decide, rfl, D, kvs, (k1.trans (Kp.of e2)).upd (by simp), ?_, ?_, fun hn t ht => ?_⟩
        · rw [upd_same]
          exact congrArg (fun l => some (HO.ins (gA mg "Plan") dx l)) (putF_app (fs := [("tops", .ref q1)]) (ks := ["tops"]) rfl (by decide +kernel))
        · rw [upd_ne (fun z => by rw [z, e2 _ _ hx1] at hD; cases hD)]
          exact hD
        · obtain ⟨j, hj, et⟩ := List.mem_iff_getElem.mp ht
          exact hk hn j t (by omega) (by rw [List.getElem?_eq_getElem hj, et])
    rintro _ H2 ⟨rfl, pd, kvs, k2, hx2, hpd2, hkv⟩
    -- points, blocks, firsts
    let F3 : Addr → List (Str × V) := fun pp => [("tops", .ref q1), ("params", .ref pd), ("points", .ref pp)]
    refine ⟨fun σ' H' => σ' = σ0 ∧ ∃ pp : Addr, Kp [x] H H' ∧ H' x = some (.ins (gA mg "Plan") dx (F3 pp)) ∧ H' pd = some (.dK kvs) ∧ H' pp = some (.lst []) ∧ Hb pp = none ∧ H pp = none, ?_, ?_⟩
    · refine ⟨sz_of (Nat.zero_le _), fun p hp => ⟨_, rfl, x, _, dx, _, rfl, (Ex.new hp) _ _ hx2, C, no _ (by simp), by show 2 < 1000; decide, rfl, p, (k2.trans (Kp.new hp)).upd (by simp), ?_, ?_, ?_, fresh_back (ebk k2) hp, frs k2 hx2 hp⟩⟩
      · rw [upd_same]
        exact congrArg (fun l => some (HO.ins (gA mg "Plan") dx l)) (putF_app (fs := F2 pd) (ks := ["tops", "params"]) rfl (by decide +kernel))
      · rw [upd_ne (fun z => by rw [z, hx2] at hpd2; cases hpd2)]
        exact (Ex.new hp) _ _ hpd2
      · rw [upd_ne (fun z => by rw [z, hx2] at hp; cases hp)]
        exact upd_same
    rintro _ H3 ⟨rfl, pp, k3, hx3, hpd3, hpp3, Hpp, H0pp⟩
    let F4 : Addr → List (Str × V) := fun bb => [("tops", .ref q1), ("params", .ref pd), ("points", .ref pp), ("blocks", .ref bb)]
    refine ⟨fun σ' H' => σ' = σ0 ∧ ∃ bb : Addr, Kp [x] H H' ∧ H' x = some (.ins (gA mg "Plan") dx (F4 bb)) ∧ H' pd = some (.dK kvs) ∧ H' pp = some (.lst []) ∧ H' bb = some (.lst []) ∧ pp ≠ bb ∧ Hb bb = none ∧ H bb = none, ?_, ?_⟩
    · refine ⟨sz_of (Nat.zero_le _), fun p hp => ⟨_, rfl, x, _, dx, _, rfl, (Ex.new hp) _ _ hx3, C, no _ (by simp), by show 3 < 1000; decide, rfl, p, (k3.trans (Kp.new hp)).upd (by simp), ?_, ?_, ?_, ?_, ne_of_none hpp3 hp, fresh_back (ebk k3) hp, frs k3 hx3 hp⟩⟩
      · rw [upd_same]
        exact congrArg (fun l => some (HO.ins (gA mg "Plan") dx l)) (putF_app (fs := F3 pp) (ks := ["tops", "params", "points"]) rfl (by decide +kernel))
      · rw [upd_ne (fun z => by rw [z, hx3] at hpd3; cases hpd3)]
        exact (Ex.new hp) _ _ hpd3
      · rw [upd_ne (fun z => by rw [z, hx3] at hpp3; cases hpp3)]
        exact (Ex.new hp) _ _ hpp3
      · rw [upd_ne (fun z => by rw [z, hx3] at hp; cases hp)]
        exact upd_same
    rintro _ H4 ⟨rfl, bb, k4, hx4, hpd4, hpp4, hbb4, npb, Hbb, H0bb⟩
    let F5 : Addr → List (Str × V) := fun ff => [("tops", .ref q1), ("params", .ref pd), ("points", .ref pp), ("blocks", .ref bb), ("firsts", .ref ff)]
    refine ⟨fun σ' H' => σ' = σ0 ∧ ∃ ff : Addr, Kp [x] H H' ∧ H' x = some (.ins (gA mg "Plan") dx (F5 ff)) ∧ H' pd = some (.dK kvs) ∧ H' pp = some (.lst []) ∧ H' bb = some (.lst []) ∧ H' ff = some (.dK []) ∧ pd ≠ ff ∧ H ff = none, ?_, ?_⟩
    · intro p hp
      refine ⟨_, rfl, x, _, dx, _, rfl, (Ex.new hp) _ _ hx4, C, no _ (by simp), by show 4 < 1000; decide, rfl, p, (k4.trans (Kp.new hp)).upd (by simp), ?_, ?_, ?_, ?_, ?_, ne_of_none hpd4 hp, frs k4 hx4 hp⟩
      · rw [upd_same]
        exact congrArg (fun l => some (HO.ins (gA mg "Plan") dx l)) (putF_app (fs := F4 bb) (ks := ["tops", "params", "points", "blocks"]) rfl (by decide +kernel))
      · rw [upd_ne (fun z => by rw [z, hx4] at hpd4; cases hpd4)]
        exact (Ex.new hp) _ _ hpd4
      · rw [upd_ne (fun z => by rw [z, hx4] at hpp4; cases hpp4)]
        exact (Ex.new hp) _ _ hpp4
      · rw [upd_ne (fun z => by rw [z, hx4] at hbb4; cases hbb4)]
        exact (Ex.new hp) _ _ hbb4
      · rw [upd_ne (fun z => by rw [z, hx4] at hp; cases hp)]
        exact upd_same
    rintro _ H5 ⟨rfl, ff, k5, hx5, hpd5, hpp5, hbb5, hff5, ndf, H0ff⟩
    have total : ∀ i t, ts[i]? = some t → (ptsP (ts.take i)).length + t.2.2.size ≤ 1000000 := fun i t ht => by
      have h1 := flat_take_le (fun t : Tp3 => (ptsB t.2.2).map fun d => (d, t.1)) ts (i + 1)
      rw [flat_take_succ ht, List.length_append, List.length_map, ptsB_len] at h1
      have h2 : ∀ l : List Tp3, (l.flatMap fun t : Tp3 => (ptsB t.2.2).map fun d => (d, t.1)).length = sizeP l := fun l => by
        induction l with
        | nil => rfl
        | cons y l ih => rw [List.flatMap_cons, List.length_append, ih, List.length_map, ptsB_len]; simp [sizeP]
      rw [h2 ts] at h1
      exact Nat.le_trans h1 hz
    refine ⟨_, rfl, a, rfl, ⟨xs, ex_t (ebk k5) hS0⟩, for_tup (K := K) (a := a) (xs := xs) (fun i σ' H' => ∃ (y2 y3 y4 : Option V) (pts bls : List V) (kv2 : List (Key × V)), σ' = [some (.ref x), some (.ref a), y2, y3, y4, none] ∧ Kp [x] H H' ∧ H' x = some (.ins (gA mg "Plan") dx (F5 ff)) ∧
      H' pd = some (.dK kvs) ∧ H' pp = some (.lst pts) ∧ H' bb = some (.lst bls) ∧ H' ff = some (.dK kv2) ∧ kv2.length ≤ i ∧ PtAll mg K Hb H' pts (ptsP (ts.take i)) ∧ bls.length ≤ pts.length)
      ⟨none, none, none, [], [], [], rfl, k5, hx5, hpd5, hpp5, hbb5, hff5, Nat.le_refl _, by simpa [ptsP] using PtAll.nil, Nat.le_refl _⟩ (fun i σ' H' _ z => ?_) ?_ ?_⟩
    · obtain ⟨_, _, _, _, _, _, _, kk, _⟩ := z
      exact ex_t (ebk kk) hS0
    · rintro i y σ' H6 hy ⟨y2, y3, y4, pts, bls, kv2, rfl, k6, hx6, hpd6, hpp6, hbb6, hff6, hkv2, pa, hbl⟩
      obtain ⟨d, hdm, hyd⟩ := dpa_getV hxs hy
      rw [List.getElem?_map] at hdm
      obtain ⟨t, ht, rfl⟩ := Option.map_eq_some_iff.mp hdm
      have okt := ok t (List.mem_of_getElem? ht)
      obtain ⟨c, cs, rfl, hc, hcs⟩ := dp_tup hyd
      cases hcs with | cons g0 gr => cases gr with | cons g1 gr => cases gr with | cons g2 gr => cases gr with | nil =>
      obtain rfl := dp_str g0
      obtain ⟨a2, xs2, rfl, hS2, hxs2⟩ := dp_tup g2
      have tot := total i t ht
      have lpt := pa.len
      have nb1 : x ≠ pp := fun z => by rw [← z, hx6] at hpp6; cases hpp6
      have nb2 : x ≠ bb := fun z => by rw [← z, hx6] at hbb6; cases hbb6
      refine ⟨c, _, rfl, ex_t (ebk k6) hc, rfl, _, _, rfl, _, _, rfl, _, _, rfl, rfl, ?_⟩
      refine ⟨_, rfl, x, dx, _, rfl, hx6, lookup_no (fs := F5 ff) (show ("add_block" : Str) ∉ (["tops", "params", "points", "blocks", "firsts"] : List Str) by decide +kernel), _, rfl, _, rfl, Hb, x, pp, bb, a2, t.1, .non, t.2.2, pts, bls, rfl, exHid (ebk k6) (by simp [Hpp, Hbb]), ⟨dx, _, hx6, rfl, rfl, lookup_no (fs := F5 ff) (show ("add_block" : Str) ∉ (["tops", "params", "points", "blocks", "firsts"] : List Str) by decide +kernel)⟩, npb, hpp6, hbb6, .tup hS2 hxs2, okt.1, okt.2, by omega, by omega, fun H7 new nb k7 hpp7 hbb7 hnb pa7 fr7 => ?_⟩
      have k67 : ∀ z o, z ≠ pp → z ≠ bb → H6 z = some o → H7 z = some o := fun z o z1 z2 hz => k7 z o (by simp [z1, z2]) hz
      have hx7 := k67 _ _ nb1 nb2 hx6
      have hpd7 := k67 _ _ (fun z => by rw [z, hpp6] at hpd6; cases hpd6) (fun z => by rw [z, hbb6] at hpd6; cases hpd6) hpd6
      have hff7 := k67 _ _ (fun z => by rw [z, hpp6] at hff6; cases hff6) (fun z => by rw [z, hbb6] at hff6; cases hff6) hff6
      have li := (List.getElem?_eq_some_iff.mp ht).1
      refine ⟨_, rfl, x, _, dx, _, _, rfl, hx7, C, no _ (by simp), rfl, _, rfl, ff, _, rfl, DPut.k (k := Sum.inr t.1) hff7 (by omega), ?_⟩
      have nff : ∀ z, z ≠ ff → L2.upd H7 ff (.dK (putK kv2 (Sum.inr t.1) (.int (bls.length : Nat)))) z = H7 z := fun z hz => upd_ne hz
      refine ⟨_, _, _, pts ++ new, bls ++ nb, _, rfl, ?_, ?_, ?_, ?_, ?_, upd_same, Nat.le_trans (length_putK _ _ _) (by omega), ?_, ?_⟩
      · refine Kp.mut (fun z o hz hH => ?_) H0ff
        exact k67 z o (fun e => by rw [e, H0pp] at hH; cases hH) (fun e => by rw [e, H0bb] at hH; cases hH) (k6 z o hz hH)
      · rw [nff x (fun z => by rw [← z, hx7] at hff7; cases hff7)]; exact hx7
      · rw [nff pd ndf]; exact hpd7
      · rw [nff pp (fun z => by rw [← z, hpp7] at hff7; cases hff7)]; exact hpp7
      · rw [nff bb (fun z => by rw [← z, hbb7] at hff7; cases hff7)]; exact hbb7
      · rw [ptsP, flat_take_succ ht]
        refine (PtAll.app (pa.kp k7 hpp6 hbb6) pa7).mono fun q C dx' fs' hq => ?_
        rw [nff q (fun z => by rw [z, hff7] at hq; cases hq)]
        exact hq
      · rw [List.length_append, List.length_append]
        have := pa7.len
        rw [List.length_map, ptsB_len] at this
        omega
    · rintro σ' H6 ⟨y2, y3, y4, pts, bls, kv2, rfl, k6, hx6, hpd6, hpp6, hbb6, hff6, hkv2, pa, hbl⟩
      have et : ts.take xs.length = ts := List.take_of_length_le (by omega)
      rw [et] at pa
      exact k H6 k6 ⟨dx, F5 ff, pp, pd, pts, kvs, hx6, rfl, rfl, hpp6, pa, hpd6, hkv⟩
end
end K4

set_option maxHeartbeats 4000000
namespace PJ
open PySem L2 Evl DL TL PG
/-! ### statements typed; what they use and bind -/
inductive Sx where
  | lets (x : Str) (r : Rt)
  | says (a : At)
  | give (a : At)
  | tail (f : At) (xs : List At)
  | cond (a : At) (b c : Bd)
def Sx.enc : Sx → PyData
  | .lets x r => .tuple [.str "let", .str x, r.enc]
  | .says a => .tuple [.str "say", a.enc]
  | .give a => .tuple [.str "give", a.enc]
  | .tail f xs => .tuple [.str "tail", f.enc, .tuple (xs.map At.enc)]
  | .cond a b c => .tuple [.str "if", a.enc, .tuple b.encs, .tuple c.encs]
def smsB : Bd → List Sx
  | .give a => [.give a]
  | .tail f xs => [.tail f xs]
  | .cond a b c => [.cond a b c]
  | .lets x r rest => .lets x r :: smsB rest
  | .says a rest => .says a :: smsB rest
theorem smsB_encs : ∀ b : Bd, (smsB b).map Sx.enc = b.encs
  | .give _ => rfl
  | .tail _ _ => rfl
  | .cond _ _ _ => rfl
  | .lets x r rest => by simp only [smsB, Bd.encs, List.map_cons, smsB_encs rest, Sx.enc]
  | .says a rest => by simp only [smsB, Bd.encs, List.map_cons, smsB_encs rest, Sx.enc]
mutual
def psxR : Rt → List Sx
  | .two _ _ _ => []
  | .one _ _ => []
  | .call _ _ => []
  | .fn _ b => psxB b
/-- all points, typed -/
def psxB : Bd → List Sx
  | .give a => [.give a]
  | .tail f xs => [.tail f xs]
  | .cond a b c => .cond a b c :: (psxB b ++ psxB c)
  | .lets x r rest => .lets x r :: (psxR r ++ psxB rest)
  | .says a rest => .says a :: psxB rest
end
mutual
theorem psxR_enc : ∀ r : Rt, (psxR r).map Sx.enc = ptsR r
  | .two _ _ _ => rfl
  | .one _ _ => rfl
  | .call _ _ => rfl
  | .fn _ b => by simp only [psxR, ptsR]; exact psxB_enc b
theorem psxB_enc : ∀ b : Bd, (psxB b).map Sx.enc = ptsB b
  | .give _ => rfl
  | .tail _ _ => rfl
  | .cond _ b c => by simp only [psxB, ptsB, List.map_cons, List.map_append, psxB_enc b, psxB_enc c, Sx.enc]
  | .lets x r rest => by simp only [psxB, ptsB, List.map_cons, List.map_append, psxR_enc r, psxB_enc rest, Sx.enc]
  | .says a rest => by simp only [psxB, ptsB, List.map_cons, psxB_enc rest, Sx.enc]
end
def shS : Sx → Prop
  | .lets _ r => shR r
  | .says _ => True
  | .give _ => True
  | .tail _ _ => True
  | .cond _ b c => shB b ∧ shB c
theorem smsB_sh : ∀ {b : Bd}, shB b → ∀ s ∈ smsB b, shS s
  | .give _, _, s, h => by simp only [smsB, List.mem_singleton] at h; subst h; exact True.intro
  | .tail _ _, _, s, h => by simp only [smsB, List.mem_singleton] at h; subst h; exact True.intro
  | .cond _ b c, hb, s, h => by simp only [smsB, List.mem_singleton] at h; simp only [shB] at hb; subst h; exact hb
  | .lets x r rest, hb, s, h => by
    simp only [shB] at hb
    simp only [smsB, List.mem_cons] at h
    rcases h with rfl | h
    · exact hb.1
    · exact smsB_sh hb.2 s h
  | .says a rest, hb, s, h => by
    simp only [shB] at hb
    simp only [smsB, List.mem_cons] at h
    rcases h with rfl | h
    · exact True.intro
    · exact smsB_sh hb s h
mutual
theorem psxR_sh : ∀ {r : Rt}, shR r → ∀ s ∈ psxR r, shS s
  | .two _ _ _, _, s, h => by simp [psxR] at h
  | .one _ _, _, s, h => by simp [psxR] at h
  | .call _ _, _, s, h => by simp [psxR] at h
  | .fn _ b, hr, s, h => by simp only [psxR] at h; simp only [shR] at hr; exact psxB_sh hr s h
theorem psxB_sh : ∀ {b : Bd}, shB b → ∀ s ∈ psxB b, shS s
  | .give _, _, s, h => by simp only [psxB, List.mem_singleton] at h; subst h; exact True.intro
  | .tail _ _, _, s, h => by simp only [psxB, List.mem_singleton] at h; subst h; exact True.intro
  | .cond _ b c, hb, s, h => by
    simp only [shB] at hb
    simp only [psxB, List.mem_cons, List.mem_append] at h
    rcases h with rfl | h | h
    · exact hb
    · exact psxB_sh hb.1 s h
    · exact psxB_sh hb.2 s h
  | .lets x r rest, hb, s, h => by
    simp only [shB] at hb
    simp only [psxB, List.mem_cons, List.mem_append] at h
    rcases h with rfl | h | h
    · exact hb.1
    · exact psxR_sh hb.1 s h
    · exact psxB_sh hb.2 s h
  | .says a rest, hb, s, h => by
    simp only [shB] at hb
    simp only [psxB, List.mem_cons] at h
    rcases h with rfl | h
    · exact True.intro
    · exact psxB_sh hb s h
end
def atV : At → V
  | .num n => .int n
  | .nm x => .str x
def atsR : Rt → List At
  | .two _ a b => [a, b]
  | .one _ a => [a]
  | .call f xs => f :: xs
  | .fn _ _ => []
def atsS : Sx → List At
  | .lets _ r => atsR r
  | .says a => [a]
  | .give a => [a]
  | .tail f xs => f :: xs
  | .cond a _ _ => [a]
def funS : Sx → Bool
  | .lets _ (.fn _ _) => true
  | _ => false
def bndR : Rt → List Str
  | .fn ps _ => ps
  | _ => []
def bndS : Sx → List Str
  | .lets x r => x :: bndR r
  | _ => []
/-! ### scoping -/
def seeA (tops names : List Str) : At → Bool
  | .num _ => true
  | .nm x => names.contains x || tops.contains x
def seeL (tops names : List Str) (as : List At) : Bool := as.all (seeA tops names)
def okN (funs ifs : Nat) : Bool := decide (funs ≤ 3) && decide (ifs ≤ 6)
mutual
def scR (tops : List Str) (held : List Str) (funs ifs : Nat) : Rt → Bool
  | .two _ _ _ => true
  | .one _ _ => true
  | .call _ _ => true
  | .fn ps b => okN (funs + 1) ifs && scG tops (held ++ ps) (funs + 1) ifs b
def scG (tops : List Str) (held : List Str) (funs ifs : Nat) : Bd → Bool
  | .give a => seeL tops held [a]
  | .tail f xs => seeL tops held (f :: xs)
  | .cond a b c => seeL tops held [a] && (okN funs (ifs + 1) && scG tops held funs (ifs + 1) b && (okN funs (ifs + 1) && scG tops held funs (ifs + 1) c))
  | .lets x r rest => seeL tops held (atsR r) && (scR tops held funs ifs r && scG tops (held ++ [x]) funs ifs rest)
  | .says a rest => seeL tops held [a] && scG tops held funs ifs rest
end
def scB (tops held : List Str) (funs ifs : Nat) (b : Bd) : Bool := okN funs ifs && scG tops held funs ifs b
def subS (tops held : List Str) (funs ifs : Nat) : Sx → Bool
  | .lets _ (.fn ps b) => scB tops (held ++ ps) (funs + 1) ifs b
  | .cond _ b c => scB tops held funs (ifs + 1) b && scB tops held funs (ifs + 1) c
  | _ => true
def ownS : Sx → List Str
  | .lets x _ => [x]
  | _ => []
/-- statement by statement -/
def scF (tops : List Str) (funs ifs : Nat) : List Str → List Sx → Bool
  | _, [] => true
  | held, s :: ss => seeL tops held (atsS s) && (subS tops held funs ifs s && scF tops funs ifs (held ++ ownS s) ss)
theorem scF_eq (tops : List Str) (funs ifs : Nat) : ∀ (b : Bd) (held : List Str), scF tops funs ifs held (smsB b) = scG tops held funs ifs b
  | .give a, held => by simp [smsB, scF, scG, atsS, subS]
  | .tail f xs, held => by simp [smsB, scF, scG, atsS, subS]
  | .cond a b c, held => by simp [smsB, scF, scG, atsS, subS, scB]
  | .lets x r rest, held => by
    have h := scF_eq tops funs ifs rest (held ++ [x])
    simp only [smsB, scF, scG, atsS, ownS, h]
    cases r <;> simp [subS, scR, scB]
  | .says a rest, held => by
    have h := scF_eq tops funs ifs rest held
    simp only [smsB, scF, scG, atsS, ownS, List.append_nil, h, subS, Bool.true_and]
/-! ### right programs -/
def bnB (b : Bd) : List Str := (psxB b).flatMap bndS
def namesT (t : Tp3) : List Str := t.2.1 ++ bnB t.2.2
def rightT (tops : List Str) (t : Tp3) : Bool := decide (namesT t).Nodup && (!(namesT t).any tops.contains && scB tops t.2.1 0 0 t.2.2)
def rightP (ts : List Tp3) : Bool := decide (ts.map (·.1)).Nodup && ((ts.map (·.1)).contains (Str.ofString "main") && (decide ((ts.map fun t => t.2.2.size).sum ≤ 120) && ts.all (rightT (ts.map (·.1)))))
end PJ
namespace PJ
open PySem L2 Evl DL TL PG
/-! weights of typed bodies -/
mutual
def wR : Rt → Nat
  | .two _ _ _ => 0
  | .one _ _ => 0
  | .call _ _ => 0
  | .fn ps b => ps.length + wB b
def wB : Bd → Nat
  | .give _ => 1
  | .tail _ _ => 1
  | .cond _ b c => 1 + wB b + wB c
  | .lets _ r rest => 1 + wR r + wB rest
  | .says _ rest => 1 + wB rest
end
theorem wts_map_str : ∀ ps : List Str, ps.length ≤ wts (ps.map PyData.str)
  | [] => Nat.le_refl _
  | p :: ps => by
    have := wts_map_str ps
    simp only [List.map_cons, wts, wt, List.length_cons]; omega
mutual
theorem wR_le : ∀ r : Rt, wR r ≤ wt r.enc
  | .two _ _ _ => Nat.zero_le _
  | .one _ _ => Nat.zero_le _
  | .call _ _ => Nat.zero_le _
  | .fn ps b => by
    have h1 := wB_le b
    have h2 := wts_map_str ps
    simp only [wR, Rt.enc, wt, wts]; omega
theorem wB_le : ∀ b : Bd, wB b ≤ wts b.encs
  | .give _ => by simp only [wB, Bd.encs, wts, wt]; omega
  | .tail _ _ => by simp only [wB, Bd.encs, wts, wt]; omega
  | .cond _ b c => by
    have h1 := wB_le b
    have h2 := wB_le c
    simp only [wB, Bd.encs, wts, wt]; omega
  | .lets _ r rest => by
    have h1 := wR_le r
    have h2 := wB_le rest
    simp only [wB, Bd.encs, wts, wt]; omega
  | .says _ rest => by
    have h2 := wB_le rest
    simp only [wB, Bd.encs, wts, wt]; omega
end
mutual
theorem sizeR_w : ∀ r : Rt, r.size ≤ wR r
  | .two _ _ _ => Nat.le_refl _
  | .one _ _ => Nat.le_refl _
  | .call _ _ => Nat.le_refl _
  | .fn ps b => by
    have h1 := sizeB_w b
    simp only [wR, Rt.size]; omega
theorem sizeB_w : ∀ b : Bd, b.size ≤ wB b
  | .give _ => Nat.le_refl _
  | .tail _ _ => Nat.le_refl _
  | .cond _ b c => by
    have h1 := sizeB_w b
    have h2 := sizeB_w c
    simp only [wB, Bd.size]; omega
  | .lets _ r rest => by
    have h1 := sizeR_w r
    have h2 := sizeB_w rest
    simp only [wB, Bd.size]; omega
  | .says _ rest => by
    have h2 := sizeB_w rest
    simp only [wB, Bd.size]; omega
end
mutual
theorem bnR_w : ∀ r : Rt, (bndR r).length + ((psxR r).flatMap bndS).length ≤ wR r
  | .two _ _ _ => Nat.le_refl _
  | .one _ _ => Nat.le_refl _
  | .call _ _ => Nat.le_refl _
  | .fn ps b => by
    have h1 := bnB_w b
    simp only [wR, bndR, psxR, bnB] at h1 ⊢; omega
theorem bnB_w : ∀ b : Bd, (bnB b).length ≤ wB b
  | .give _ => by simp [bnB, psxB, bndS]
  | .tail _ _ => by simp [bnB, psxB, bndS]
  | .cond _ b c => by
    have h1 := bnB_w b
    have h2 := bnB_w c
    simp only [bnB] at h1 h2
    simp only [bnB, psxB, wB, List.flatMap_cons, List.flatMap_append, List.length_append, bndS, List.length_nil]; omega
  | .lets _ r rest => by
    have h1 := bnR_w r
    have h2 := bnB_w rest
    simp only [bnB] at h2
    simp only [bnB, psxB, wB, List.flatMap_cons, List.flatMap_append, List.length_append, bndS, List.length_cons]; omega
  | .says _ rest => by
    have h2 := bnB_w rest
    simp only [bnB] at h2
    simp only [bnB, psxB, wB, List.flatMap_cons, List.length_append, bndS, List.length_nil]; omega
end
theorem wP_le (ts : List Tp3) (h : okd (.tuple (ts.map pEnc)) = true) : (ts.map fun t => t.2.1.length + wB t.2.2).sum ≤ 1000000 := by
  rw [okd_iff, wt] at h
  have main : ∀ l : List Tp3, (l.map fun t => t.2.1.length + wB t.2.2).sum ≤ wts (l.map pEnc) := fun l => by
    induction l with
    | nil => exact Nat.le_refl _
    | cons t l ih =>
      have h1 := wB_le t.2.2
      have h2 := wts_map_str t.2.1
      have e : wt (pEnc t) = (wt (.str t.1) + ((wts (t.2.1.map PyData.str) + 1) + ((wts t.2.2.encs + 1) + 0))) + 1 := by simp only [pEnc, wt, wts]
      simp only [List.map_cons, List.sum_cons, wts]
      omega
  have := main ts
  omega
end PJ
namespace PJ
open PySem L2 Evl DL TL PG
theorem sx_word (s : Sx) : (∃ x r, s = .lets x r) ∨ ∃ w r, s.enc = .tuple (.str w :: r) ∧ w ≠ "let" ∧ funS s = false ∧ bndS s = [] ∧ ownS s = [] := by
  cases s with
  | says a => exact .inr ⟨"say", _, rfl, by decide +kernel, rfl, rfl, rfl⟩
  | give a => exact .inr ⟨"give", _, rfl, by decide +kernel, rfl, rfl, rfl⟩
  | tail f xs => exact .inr ⟨"tail", _, rfl, by decide +kernel, rfl, rfl, rfl⟩
  | cond a b c => exact .inr ⟨"if", _, rfl, by decide +kernel, rfl, rfl, rfl⟩
  | lets x r => exact .inl ⟨x, r, rfl⟩
theorem rt_word {r : Rt} (h : shR r) : ∃ w t, r.enc = .tuple (.str w :: t) ∧ decide (w = "fun") = (match r with | .fn _ _ => true | _ => false) := by
  cases r with
  | two w a b => simp only [shR] at h; exact ⟨w, _, rfl, decide_eq_false h.1⟩
  | one w a => simp only [shR] at h; exact ⟨w, _, rfl, decide_eq_false h.1⟩
  | call f xs => exact ⟨_, _, rfl, decide_eq_false (by decide +kernel)⟩
  | fn ps b => exact ⟨_, _, rfl, decide_eq_true rfl⟩
theorem wts_ats (xs : List At) : xs.length ≤ wts (xs.map At.enc) := by
  have := wts_len (xs.map At.enc)
  rwa [List.length_map] at this
end PJ
namespace PJ
open PySem L2 Evl DL TL PG
def wSx : Sx → Nat
  | .lets _ r => 1 + wR r
  | .cond _ b c => 1 + wB b + wB c
  | _ => 1
theorem wB_sum : ∀ b : Bd, wB b = ((smsB b).map wSx).sum
  | .give _ => rfl
  | .tail _ _ => rfl
  | .cond _ b c => by simp [smsB, wSx, wB]
  | .lets x r rest => by
    have := wB_sum rest
    simp only [smsB, wSx, wB, List.map_cons, List.sum_cons]; omega
  | .says a rest => by
    have := wB_sum rest
    simp only [smsB, wSx, wB, List.map_cons, List.sum_cons]; omega
/-- what of a statement's bodies a fun has -/
def fubS (tops held : List Str) (funs ifs : Nat) : Sx → Bool
  | .lets _ (.fn ps b) => scB tops (held ++ ps) (funs + 1) ifs b
  | _ => true
def cobS (tops held : List Str) (funs ifs : Nat) : Sx → Bool
  | .cond _ b c => scB tops held funs (ifs + 1) b && scB tops held funs (ifs + 1) c
  | _ => true
theorem subS_eq (tops held : List Str) (funs ifs : Nat) (s : Sx) : subS tops held funs ifs s = (fubS tops held funs ifs s && cobS tops held funs ifs s) := by
  cases s with
  | lets x r => cases r <;> simp [subS, fubS, cobS]
  | cond a b c => simp [subS, fubS, cobS]
  | _ => rfl
theorem ifs_word {s : Sx} : (∃ a b c, s = .cond a b c) ∨ ∃ w r, s.enc = .tuple (.str w :: r) ∧ w ≠ "if" ∧ ∀ tops held funs ifs, cobS tops held funs ifs s = true := by
  cases s with
  | says a => exact .inr ⟨"say", _, rfl, by decide +kernel, fun _ _ _ _ => rfl⟩
  | give a => exact .inr ⟨"give", _, rfl, by decide +kernel, fun _ _ _ _ => rfl⟩
  | tail f xs => exact .inr ⟨"tail", _, rfl, by decide +kernel, fun _ _ _ _ => rfl⟩
  | lets x r => exact .inr ⟨"let", _, rfl, by decide +kernel, fun _ _ _ _ => rfl⟩
  | cond a b c => exact .inl ⟨a, b, c, rfl⟩
theorem sms_deep : ∀ {b : Bd} {s : Sx}, s ∈ smsB b → (∀ x ps b', s = .lets x (.fn ps b') → b'.deep < b.deep) ∧ ∀ a b1 b2, s = .cond a b1 b2 → b1.deep < b.deep ∧ b2.deep < b.deep
  | .give _, s, h => by simp only [smsB, List.mem_singleton] at h; subst h; exact ⟨fun _ _ _ e => (nomatch e), fun _ _ _ e => (nomatch e)⟩
  | .tail _ _, s, h => by simp only [smsB, List.mem_singleton] at h; subst h; exact ⟨fun _ _ _ e => (nomatch e), fun _ _ _ e => (nomatch e)⟩
  | .cond _ _ _, s, h => by
    simp only [smsB, List.mem_singleton] at h
    subst h
    refine ⟨fun _ _ _ e => (nomatch e), fun a b1 b2 e => ?_⟩
    cases e
    simp only [Bd.deep]
    omega
  | .lets x r rest, s, h => by
    simp only [smsB, List.mem_cons] at h
    simp only [Bd.deep]
    rcases h with rfl | h
    · refine ⟨fun y ps b' e => ?_, fun _ _ _ e => (nomatch e)⟩
      cases e
      simp only [Rt.deep]
      omega
    · have := sms_deep h
      exact ⟨fun y ps b' e => Nat.lt_of_lt_of_le (this.1 y ps b' e) (Nat.le_max_right _ _), fun a b1 b2 e => ⟨Nat.lt_of_lt_of_le (this.2 a b1 b2 e).1 (Nat.le_max_right _ _), Nat.lt_of_lt_of_le (this.2 a b1 b2 e).2 (Nat.le_max_right _ _)⟩⟩
  | .says a rest, s, h => by
    simp only [smsB, List.mem_cons] at h
    simp only [Bd.deep]
    rcases h with rfl | h
    · exact ⟨fun _ _ _ e => (nomatch e), fun _ _ _ e => (nomatch e)⟩
    · exact sms_deep h
end PJ
namespace PJ
open PySem L2 Evl DL TL PG
/-- all points of a program, typed, with their tops -/
def ptsX (ts : List Tp3) : List (Sx × Str) := ts.flatMap fun t => (psxB t.2.2).map fun s => (s, t.1)
theorem ptsX_P (ts : List Tp3) : (ptsX ts).map (fun p => (p.1.enc, p.2)) = ts.flatMap fun t => (ptsB t.2.2).map fun d => (d, t.1) := by
  induction ts with
  | nil => rfl
  | cons t ts ih =>
    have e : ptsX (t :: ts) = (psxB t.2.2).map (fun s => (s, t.1)) ++ ptsX ts := by simp [ptsX]
    rw [e, List.map_append, ih, List.flatMap_cons, ← psxB_enc, List.map_map, List.map_map]
    rfl
def bndT (nm : Str) (p : Sx × Str) : List Str := if p.2 = nm then bndS p.1 else []
theorem bndT_skip (nm : Str) : ∀ ts : List Tp3, nm ∉ ts.map (·.1) → (ptsX ts).flatMap (bndT nm) = []
  | [], _ => rfl
  | t :: ts, h => by
    simp only [List.map_cons, List.mem_cons, not_or] at h
    have e : ptsX (t :: ts) = (psxB t.2.2).map (fun s => (s, t.1)) ++ ptsX ts := by simp [ptsX]
    rw [e, List.flatMap_append, bndT_skip nm ts h.2, List.append_nil, List.flatMap_map]
    have ne : ¬ t.1 = nm := fun z => h.1 z.symm
    simp only [bndT, if_neg ne]
    simp
theorem bndT_own : ∀ (ts : List Tp3) (t : Tp3), (ts.map (·.1)).Nodup → t ∈ ts → (ptsX ts).flatMap (bndT t.1) = bnB t.2.2
  | u :: ts, t, hn, ht => by
    simp only [List.map_cons, List.nodup_cons] at hn
    have e : ptsX (u :: ts) = (psxB u.2.2).map (fun s => (s, u.1)) ++ ptsX ts := by simp [ptsX]
    rw [e, List.flatMap_append, List.flatMap_map]
    rcases List.mem_cons.mp ht with rfl | h
    · rw [bndT_skip _ ts hn.1, List.append_nil]
      simp only [bndT, if_pos, bnB]
    · have ne : u.1 ≠ t.1 := fun z => hn.1 (z ▸ List.mem_map_of_mem h)
      rw [bndT_own ts t hn.2 h]
      simp only [bndT, if_neg ne]
      simp
theorem ptsX_sh {ts : List Tp3} (h : ∀ t ∈ ts, okTp t) {p : Sx × Str} (hp : p ∈ ptsX ts) : shS p.1 := by
  obtain ⟨t, ht, hp⟩ := List.mem_flatMap.mp hp
  obtain ⟨s, hs, rfl⟩ := List.mem_map.mp hp
  exact psxB_sh (h t ht).1 s hs
end PJ

set_option maxHeartbeats 4000000
namespace K4
open PySem L2 Evl DL PJ PG TL
section
variable {P : Program} {w : World} {K : PySem.W.Frag} {mg : Str → Option Value} {base : Heap}
/-! ### what statements use and bind -/
theorem at_val {H : Hp} {v : V} {a : At} (h : Dp K H v a.enc) : v = atV a := by
  cases a with
  | num n => exact dp_int h
  | nm x => exact dp_str h
theorem ats_val {H : Hp} : ∀ {vs : List V} {as : List At}, DpAll K H vs (as.map At.enc) → vs = as.map atV
  | _, [], .nil => rfl
  | _, a :: as, .cons h r => by rw [at_val h, ats_val r]; rfl
def spFunLet (K : PySem.W.Frag) : Sp := fun vs H Q _ => ∃ (v : V) (s : Sx) (Hb : Hp), vs = [v] ∧ Ex Hb H ∧ Dp K Hb v s.enc ∧ shS s ∧ Q (.bl (funS s)) H
theorem bd_funlet : BindP "is_fun_let" s_is_fun_let ["statement"] := fun _ _ _ _ _ _ us hl => match us, hl with | [_], _ => rfl
theorem ok_funlet (T : Txt K mg) : DefOk P w K mg base CX0 false 1 "is_fun_let" s_is_fun_let ["statement"] (spFunLet K) := by
  refine T.d_is_fun_let.ok scs_is_fun_let (fun vs H Q E h => ?_) (fun f cdv A outer s0 H vs Q E hr h => ?_)
  · obtain ⟨v, s, Hb, rfl, _⟩ := h
    rfl
  · obtain ⟨v, s, Hb, rfl, eb, hd, sh, k⟩ := h
    refine ⟨_, pss_one (ps_ret (pe_and (pe_cmpR op_eq (pe_ix ix_tup (pv 0) pe_int (fun _ _ => rfl)) pe_str (nomark _)) (pe_one (pe_cmpR op_eq (pe_ix ix_tup (pe_ix ix_tup (pv 0) pe_int (fun _ _ => rfl)) pe_int (fun _ _ => rfl)) pe_str (nomark _))))), ?_⟩
    rcases sx_word s with ⟨x, r, rfl⟩ | ⟨w, r, e, hw, hf, _⟩
    rotate_left
    · rw [e] at hd
      obtain ⟨a, xs, rfl, hS, hxs⟩ := dp_tup hd
      cases hxs with | cons g0 gr =>
      obtain rfl := dp_str g0
      rw [hf] at k
      exact ⟨_, rfl, a, _, 0, _, rfl, rfl, ex_t eb hS, atI_nat (j := 0) rfl, rfl, _, rfl, itF (str_ne hw) k⟩
    ·
      obtain ⟨a, xs, rfl, hS, hxs⟩ := dp_tup hd
      cases hxs with | cons g0 gr => cases gr with | cons g1 gr => cases gr with | cons g2 gr => cases gr with | nil =>
      obtain rfl := dp_str g0
      obtain ⟨w, t, er, hf⟩ := rt_word (r := r) sh
      have hf : funS (.lets x r) = decide (w = "fun") := by rw [hf]; cases r <;> rfl
      rw [er] at g2
      obtain ⟨c, cs, rfl, hc, hcs⟩ := dp_tup g2
      cases hcs with | cons f0 fr =>
      obtain rfl := dp_str f0
      refine ⟨_, rfl, a, _, 0, _, rfl, rfl, ex_t eb hS, atI_nat (j := 0) rfl, rfl, _, rfl, itT (str_eq rfl) ⟨_, rfl, a, _, 2, _, rfl, rfl, ex_t eb hS, atI_nat (j := 2) rfl, c, _, 0, _, rfl, rfl, ex_t eb hc, atI_nat (j := 0) rfl, rfl, ?_⟩⟩
      rw [hf] at k
      have e : decide (V.str w = V.str "fun") = decide (w = "fun") := decide_eq_decide.mpr ⟨fun z => by injection z, fun z => by rw [z]⟩
      rw [e]
      exact k
def spAtsR (K : PySem.W.Frag) : Sp := fun vs H Q _ => ∃ (v : V) (r : Rt) (Hb : Hp), vs = [v] ∧ Ex Hb H ∧ Dp K Hb v r.enc ∧ shR r ∧ wt r.enc ≤ 1000000 ∧ ∀ p H', H p = none → Ex H H' → H' p = some (.lst ((atsR r).map atV)) → Q (.ref p) H'
theorem bd_atsr : BindP "atoms_of_right" s_atoms_of_right ["right"] := fun _ _ _ _ _ _ us hl => match us, hl with | [_], _ => rfl
theorem ok_atsr (T : Txt K mg) : DefOk P w K mg base CX0 false 1 "atoms_of_right" s_atoms_of_right ["right"] (spAtsR K) := by
  refine T.d_atoms_of_right.ok scs_atoms_of_right (fun vs H Q E h => ?_) (fun f cdv A outer s0 H vs Q E hr h => ?_)
  · obtain ⟨v, s, Hb, rfl, _⟩ := h
    rfl
  · obtain ⟨v, r, Hb, rfl, eb, hd, sh, hz, k⟩ := h
    refine ⟨_, pss_cons (ps_if (pt_cmpR op_eq (pe_ix ix_tup (pv 0) pe_int (fun _ _ => rfl)) pe_str (nomark _)) (pss_one (ps_ret (pe_lst pa_nil))) pss_nil)
      (pss_cons (ps_if (pt_cmpR op_eq (pe_ix ix_tup (pv 0) pe_int (fun _ _ => rfl)) pe_str (nomark _)) (pss_one (ps_ret (pe_lst (pa_cons (pe_ix ix_tup (pv 0) pe_int (fun _ _ => rfl)) (StX.pa_star (pe_ix ix_tup (pv 0) pe_int (fun _ _ => rfl)) pa_nil))))) pss_nil)
      (pss_one (ps_ret (pe_callTy call_list_of (by rfl) T.b_list (by decide +kernel) (pa_cons (pe_slice sl_tup (pv 0) (po_some pe_int) po_none) pa_nil))))), ?_⟩
    cases r with
    | fn ps b =>
      obtain ⟨a, xs, rfl, hS, hxs⟩ := dp_tup hd
      cases hxs with | cons g0 gr =>
      obtain rfl := dp_str g0
      exact ⟨_, rfl, a, _, 0, _, rfl, rfl, ex_t eb hS, atI_nat (j := 0) rfl, rfl, _, rfl, itT (str_eq rfl) ⟨sz_of (Nat.zero_le _), fun p hp => k p _ hp (Ex.new hp) upd_same⟩⟩
    | call f xs =>
      obtain ⟨a, ys, rfl, hS, hys⟩ := dp_tup hd
      cases hys with | cons g0 gr => cases gr with | cons g1 gr => cases gr with | cons g2 gr => cases gr with | nil =>
      obtain rfl := dp_str g0
      have e1 := at_val g1
      obtain ⟨c, zs, rfl, hc, hzs⟩ := dp_tup g2
      have e2 := ats_val hzs
      subst e1 e2
      refine ⟨_, rfl, a, _, 0, _, rfl, rfl, ex_t eb hS, atI_nat (j := 0) rfl, rfl, _, rfl, itF (str_ne (by decide +kernel)) ⟨_, rfl, a, _, 0, _, rfl, rfl, ex_t eb hS, atI_nat (j := 0) rfl, rfl, _, rfl, itT (str_eq rfl) ?_⟩⟩
      refine ⟨_, rfl, a, _, 1, _, rfl, rfl, ex_t eb hS, atI_nat (j := 1) rfl, _, rfl, a, _, 2, _, rfl, rfl, ex_t eb hS, atI_nat (j := 2) rfl, c, _, rfl, .inl (ex_t eb hc), ?_, fun p hp => k p _ hp (Ex.new hp) ?_⟩
      · have := wts_ats xs
        simp only [Rt.enc, wt, wts] at hz
        have big : (1000000 : Nat) < sizeLine := by decide
        simp only [List.length_cons, List.length_append, List.length_map, List.length_nil]
        omega
      · rw [upd_same, List.append_nil]
        rfl
    | two w x y =>
      obtain ⟨a, ys, rfl, hS, hys⟩ := dp_tup hd
      cases hys with | cons g0 gr => cases gr with | cons g1 gr => cases gr with | cons g2 gr => cases gr with | nil =>
      obtain rfl := dp_str g0
      have e1 := at_val g1
      have e2 := at_val g2
      subst e1 e2
      simp only [shR] at sh
      refine ⟨_, rfl, a, _, 0, _, rfl, rfl, ex_t eb hS, atI_nat (j := 0) rfl, rfl, _, rfl, itF (str_ne sh.1) ⟨_, rfl, a, _, 0, _, rfl, rfl, ex_t eb hS, atI_nat (j := 0) rfl, rfl, _, rfl, itF (str_ne sh.2) ?_⟩⟩
      refine ⟨_, rfl, _, rfl, a, _, rfl, ex_t eb hS, fun z => ?_, fun p hp => ⟨p, _, rfl, .inr (st_of upd_same), fun l hl => k l _ (fresh_back (Ex.new hp) hl) ((Ex.new hp).trans (Ex.new hl)) upd_same⟩⟩
      have e : HT.sIx 3 0 (some ((1 : Nat) : Int)) = 0 := z.1
      rw [HT.sIx_nat] at e
      omega
    | one w x =>
      obtain ⟨a, ys, rfl, hS, hys⟩ := dp_tup hd
      cases hys with | cons g0 gr => cases gr with | cons g1 gr => cases gr with | nil =>
      obtain rfl := dp_str g0
      have e1 := at_val g1
      subst e1
      simp only [shR] at sh
      refine ⟨_, rfl, a, _, 0, _, rfl, rfl, ex_t eb hS, atI_nat (j := 0) rfl, rfl, _, rfl, itF (str_ne sh.1) ⟨_, rfl, a, _, 0, _, rfl, rfl, ex_t eb hS, atI_nat (j := 0) rfl, rfl, _, rfl, itF (str_ne sh.2) ?_⟩⟩
      refine ⟨_, rfl, _, rfl, a, _, rfl, ex_t eb hS, fun z => ?_, fun p hp => ⟨p, _, rfl, .inr (st_of upd_same), fun l hl => k l _ (fresh_back (Ex.new hp) hl) ((Ex.new hp).trans (Ex.new hl)) upd_same⟩⟩
      have e : HT.sIx 2 0 (some ((1 : Nat) : Int)) = 0 := z.1
      rw [HT.sIx_nat] at e
      omega
def spAtsS (K : PySem.W.Frag) : Sp := fun vs H Q _ => ∃ (v : V) (s : Sx) (Hb : Hp), vs = [v] ∧ Ex Hb H ∧ Dp K Hb v s.enc ∧ shS s ∧ wt s.enc ≤ 1000000 ∧ ∀ p H', H p = none → Ex H H' → H' p = some (.lst ((atsS s).map atV)) → Q (.ref p) H'
theorem bd_atss : BindP "atoms_in" s_atoms_in ["statement"] := fun _ _ _ _ _ _ us hl => match us, hl with | [_], _ => rfl
theorem ok_atss (T : Txt K mg) : DefOk P w K mg base CX0 false 2 "atoms_in" s_atoms_in ["statement"] (spAtsS K) := by
  refine T.d_atoms_in.ok scs_atoms_in (fun vs H Q E h => ?_) (fun f cdv A outer s0 H vs Q E hr h => ?_)
  · obtain ⟨v, s, Hb, rfl, _⟩ := h
    rfl
  · obtain ⟨v, s, Hb, rfl, eb, hd, sh, hz, k⟩ := h
    refine ⟨_, pss_cons (ps_if (pt_cmpR op_eq (pe_ix ix_tup (pv 0) pe_int (fun _ _ => rfl)) pe_str (nomark _)) (pss_one (ps_ret (pe_callD (ok_atsr T) hr (.inl rfl) bd_atsr pass0 (pa_cons (pe_ix ix_tup (pv 0) pe_int (fun _ _ => rfl)) pa_nil)))) pss_nil)
      (pss_cons (ps_if (pt_cmpR op_eq (pe_ix ix_tup (pv 0) pe_int (fun _ _ => rfl)) pe_str (nomark _)) (pss_one (ps_ret (pe_lst (pa_cons (pe_ix ix_tup (pv 0) pe_int (fun _ _ => rfl)) (StX.pa_star (pe_ix ix_tup (pv 0) pe_int (fun _ _ => rfl)) pa_nil))))) pss_nil)
      (pss_one (ps_ret (pe_lst (pa_cons (pe_ix ix_tup (pv 0) pe_int (fun _ _ => rfl)) pa_nil))))), ?_⟩
    have one : ∀ (w : Str) (a : At) (t : List PyData), w ≠ "let" → w ≠ "tail" → s.enc = .tuple (.str w :: a.enc :: t) → atsS s = [a] → ∃ (c : Addr) (xs : List V), v = .ref c ∧ SqT K H c (.str w :: atV a :: xs) := fun w a t h1 h2 e _ => by
      rw [e] at hd
      obtain ⟨c, xs, rfl, hS, hxs⟩ := dp_tup hd
      cases hxs with | cons g0 gr => cases gr with | cons g1 gr =>
      obtain rfl := dp_str g0
      have e1 := at_val g1
      subst e1
      exact ⟨c, _, rfl, ex_t eb hS⟩
    cases s with
    | lets x r =>
      obtain ⟨a, ys, rfl, hS, hys⟩ := dp_tup hd
      cases hys with | cons g0 gr => cases gr with | cons g1 gr => cases gr with | cons g2 gr => cases gr with | nil =>
      obtain rfl := dp_str g0
      refine ⟨_, rfl, a, _, 0, _, rfl, rfl, ex_t eb hS, atI_nat (j := 0) rfl, rfl, _, rfl, itT (str_eq rfl) ⟨_, rfl, a, _, 2, _, rfl, rfl, ex_t eb hS, atI_nat (j := 2) rfl, _, r, Hb, rfl, eb, g2, sh, ?_, fun p H' hp e hh => k p H' hp e hh⟩⟩
      simp only [Sx.enc, wt, wts] at hz
      omega
    | tail f xs =>
      obtain ⟨a, ys, rfl, hS, hys⟩ := dp_tup hd
      cases hys with | cons g0 gr => cases gr with | cons g1 gr => cases gr with | cons g2 gr => cases gr with | nil =>
      obtain rfl := dp_str g0
      have e1 := at_val g1
      obtain ⟨c, zs, rfl, hc, hzs⟩ := dp_tup g2
      have e2 := ats_val hzs
      subst e1 e2
      refine ⟨_, rfl, a, _, 0, _, rfl, rfl, ex_t eb hS, atI_nat (j := 0) rfl, rfl, _, rfl, itF (str_ne (by decide +kernel)) ⟨_, rfl, a, _, 0, _, rfl, rfl, ex_t eb hS, atI_nat (j := 0) rfl, rfl, _, rfl, itT (str_eq rfl) ?_⟩⟩
      refine ⟨_, rfl, a, _, 1, _, rfl, rfl, ex_t eb hS, atI_nat (j := 1) rfl, _, rfl, a, _, 2, _, rfl, rfl, ex_t eb hS, atI_nat (j := 2) rfl, c, _, rfl, .inl (ex_t eb hc), ?_, fun p hp => k p _ hp (Ex.new hp) ?_⟩
      · have := wts_ats xs
        simp only [Sx.enc, wt, wts] at hz
        have big : (1000000 : Nat) < sizeLine := by decide
        simp only [List.length_cons, List.length_append, List.length_map, List.length_nil]
        omega
      · rw [upd_same, List.append_nil]
        rfl
    | says a =>
      obtain ⟨c, xs, rfl, hS⟩ := one "say" a [] (by decide +kernel) (by decide +kernel) rfl rfl
      exact ⟨_, rfl, c, _, 0, _, rfl, rfl, hS, atI_nat (j := 0) rfl, rfl, _, rfl, itF (str_ne (by decide +kernel)) ⟨_, rfl, c, _, 0, _, rfl, rfl, hS, atI_nat (j := 0) rfl, rfl, _, rfl, itF (str_ne (by decide +kernel))
        ⟨_, rfl, c, _, 1, _, rfl, rfl, hS, atI_nat (j := 1) rfl, sz_of (by simp), fun p hp => k p _ hp (Ex.new hp) upd_same⟩⟩⟩
    | give a =>
      obtain ⟨c, xs, rfl, hS⟩ := one "give" a [] (by decide +kernel) (by decide +kernel) rfl rfl
      exact ⟨_, rfl, c, _, 0, _, rfl, rfl, hS, atI_nat (j := 0) rfl, rfl, _, rfl, itF (str_ne (by decide +kernel)) ⟨_, rfl, c, _, 0, _, rfl, rfl, hS, atI_nat (j := 0) rfl, rfl, _, rfl, itF (str_ne (by decide +kernel))
        ⟨_, rfl, c, _, 1, _, rfl, rfl, hS, atI_nat (j := 1) rfl, sz_of (by simp), fun p hp => k p _ hp (Ex.new hp) upd_same⟩⟩⟩
    | cond a b0 c0 =>
      obtain ⟨c, xs, rfl, hS⟩ := one "if" a _ (by decide +kernel) (by decide +kernel) rfl rfl
      exact ⟨_, rfl, c, _, 0, _, rfl, rfl, hS, atI_nat (j := 0) rfl, rfl, _, rfl, itF (str_ne (by decide +kernel)) ⟨_, rfl, c, _, 0, _, rfl, rfl, hS, atI_nat (j := 0) rfl, rfl, _, rfl, itF (str_ne (by decide +kernel))
        ⟨_, rfl, c, _, 1, _, rfl, rfl, hS, atI_nat (j := 1) rfl, sz_of (by simp), fun p hp => k p _ hp (Ex.new hp) upd_same⟩⟩⟩
def spBound (K : PySem.W.Frag) : Sp := fun vs H Q _ => ∃ (v : V) (s : Sx) (Hb : Hp), vs = [v] ∧ Ex Hb H ∧ Dp K Hb v s.enc ∧ shS s ∧ (bndS s).length ≤ 1000000 ∧ ∀ p H', H p = none → Ex H H' → H' p = some (.lst ((bndS s).map V.str)) → Q (.ref p) H'
theorem bd_bound : BindP "bound_in" s_bound_in ["statement"] := fun _ _ _ _ _ _ us hl => match us, hl with | [_], _ => rfl
theorem ok_bound (T : Txt K mg) : DefOk P w K mg base CX0 false 2 "bound_in" s_bound_in ["statement"] (spBound K) := by
  refine T.d_bound_in.ok scs_bound_in (fun vs H Q E h => ?_) (fun f cdv A outer s0 H vs Q E hr h => ?_)
  · obtain ⟨v, s, Hb, rfl, _⟩ := h
    rfl
  · obtain ⟨v, s, Hb, rfl, eb, hd, sh, hz, k⟩ := h
    refine ⟨_, pss_cons (ps_if (pt_cmpR op_ne (pe_ix ix_tup (pv 0) pe_int (fun _ _ => rfl)) pe_str (nomark _)) (pss_one (ps_ret (pe_lst pa_nil))) pss_nil)
      (pss_one (ps_ret (pe_lst (pa_cons (pe_ix ix_tup (pv 0) pe_int (fun _ _ => rfl)) (StX.pa_star (pe_ifExp (pt_val (pe_callD (ok_funlet T) hr (.inl rfl) bd_funlet pass0 (pa_cons (pv 0) pa_nil))) (pe_ix ix_tup (pe_ix ix_tup (pv 0) pe_int (fun _ _ => rfl)) pe_int (fun _ _ => rfl)) (pe_tup pa_nil)) pa_nil))))), ?_⟩
    rcases sx_word s with ⟨x, r, rfl⟩ | ⟨w, r, e, hw, hf, hb, _⟩
    · obtain ⟨a, ys, rfl, hS, hys⟩ := dp_tup hd
      cases hys with | cons g0 gr => cases gr with | cons g1 gr => cases gr with | cons g2 gr => cases gr with | nil =>
      obtain rfl := dp_str g0
      obtain rfl := dp_str g1
      refine ⟨_, rfl, a, _, 0, _, rfl, rfl, ex_t eb hS, atI_nat (j := 0) rfl, rfl, _, rfl, itF (by rw [str_eq rfl]; rfl) ⟨_, rfl, a, _, 1, _, rfl, rfl, ex_t eb hS, atI_nat (j := 1) rfl, _, rfl, .ref a, .lets x r, Hb, rfl, eb, hd, sh, _, rfl, ?_⟩⟩
      have big : (1000000 : Nat) < sizeLine := by decide
      cases r with
      | fn ps b =>
        obtain ⟨c, zs, rfl, hc, hzs⟩ := dp_tup g2
        cases hzs with | cons f0 fr => cases fr with | cons f1 fr => cases fr with | cons f2 fr => cases fr with | nil =>
        obtain ⟨c2, ws, rfl, hc2, hws⟩ := dp_tup f1
        have ew := dpa_strs_eq hws
        subst ew
        refine itT rfl ⟨_, rfl, a, _, 2, _, rfl, rfl, ex_t eb hS, atI_nat (j := 2) rfl, c, _, 1, _, rfl, rfl, ex_t eb hc, atI_nat (j := 1) rfl, c2, _, rfl, .inl (ex_t eb hc2), ?_, fun p hp => k p _ hp (Ex.new hp) ?_⟩
        · simp only [bndS, bndR, List.length_cons] at hz
          simp only [List.length_cons, List.length_append, List.length_map, List.length_nil]
          omega
        · rw [upd_same, List.append_nil]
          rfl
      | two w y z => exact itF rfl ⟨sz_of (Nat.zero_le _), fun p hp => ⟨p, [], rfl, .inl (st_of upd_same), sz_of (by simp), fun l hl => k l _ (fresh_back (Ex.new hp) hl) ((Ex.new hp).trans (Ex.new hl)) upd_same⟩⟩
      | one w y => exact itF rfl ⟨sz_of (Nat.zero_le _), fun p hp => ⟨p, [], rfl, .inl (st_of upd_same), sz_of (by simp), fun l hl => k l _ (fresh_back (Ex.new hp) hl) ((Ex.new hp).trans (Ex.new hl)) upd_same⟩⟩
      | call f ys => exact itF rfl ⟨sz_of (Nat.zero_le _), fun p hp => ⟨p, [], rfl, .inl (st_of upd_same), sz_of (by simp), fun l hl => k l _ (fresh_back (Ex.new hp) hl) ((Ex.new hp).trans (Ex.new hl)) upd_same⟩⟩
    · rw [e] at hd
      obtain ⟨a, xs, rfl, hS, hxs⟩ := dp_tup hd
      cases hxs with | cons g0 gr =>
      obtain rfl := dp_str g0
      rw [hb] at k
      exact ⟨_, rfl, a, _, 0, _, rfl, rfl, ex_t eb hS, atI_nat (j := 0) rfl, rfl, _, rfl, itT (by rw [str_ne hw]; rfl) ⟨sz_of (Nat.zero_le _), fun p hp => k p _ hp (Ex.new hp) upd_same⟩⟩
end
end K4

set_option maxHeartbeats 4000000
namespace K4
open PySem L2 Evl DL PJ PG TL
section
variable {P : Program} {w : World} {K : PySem.W.Frag} {mg : Str → Option Value} {base : Heap}
/-! ### scoping -/
theorem bd_scini : BindQ "__init__" "Scoping.__init__" s_Scoping_init ["self", "tops"] := fun _ _ _ _ _ _ us hl => match us, hl with | [_, _], _ => rfl
def scpF (tv : V) (r : Bool) : List (Str × V) := [("tops", tv), ("is_right", .bl r)]
def spScI (mg : Str → Option Value) : Sp := fun vs H Q _ => ∃ (x dx : Addr) (tv : V), vs = [.ref x, tv] ∧ H x = some (.ins (gA mg "Scoping") dx []) ∧ ∀ H', Kp [x] H H' → H' x = some (.ins (gA mg "Scoping") dx (scpF tv true)) → Q .non H'
theorem ok_scini (T : Txt K mg) : C8.Mak P w K mg base 1 "Scoping" (gA mg "Scoping") (spScI mg) [] := by
  refine T.i_Scoping.ok T.k_Scoping scs_Scoping_init bd_scini (fun vs H Q E h => ?_) (fun f cdv A outer s H vs Q E hr h => ?_)
  · obtain ⟨x, dx, tv, rfl, _⟩ := h
    rfl
  · obtain ⟨x, dx, tv, rfl, hx, k⟩ := h
    have C := T.k_Scoping.cls
    have no := T.k_Scoping.no
    refine ⟨_, pss_cons (ps_fld (pv 0) (pv 1) rfl) (pss_one (ps_fld (pv 0) pe_bl rfl)), ?_⟩
    refine ⟨_, rfl, _, rfl, x, _, dx, _, rfl, hx, C, no _ (by simp), by decide, ?_⟩
    let F1 : List (Str × V) := [("tops", tv)]
    have f0 : putF "tops" tv [] = F1 := rfl
    rw [f0]
    refine ⟨_, rfl, x, _, dx, _, rfl, upd_same, C, no _ (by simp), by show 1 < 1000; decide, ?_⟩
    have f1 : putF "is_right" (.bl true) F1 = scpF tv true := putF_app (fs := F1) (ks := ["tops"]) rfl (by decide +kernel)
    rw [f1]
    exact k _ (((Kp.refl H).upd (by simp)).upd (by simp)) upd_same
theorem put_right (tv : V) (r s : Bool) : putF "is_right" (.bl s) (scpF tv r) = scpF tv s := by
  show (if _ then _ else (_, _) :: (if _ then _ else _)) = _
  rw [if_neg (by decide +kernel), if_pos rfl]
  rfl
def spSee (mg : Str → Option Value) (K : PySem.W.Frag) : Sp := fun vs H Q _ => ∃ (Hb : Hp) (so dx tp q : Addr) (v : V) (r : Bool) (tops held : List Str) (s : Sx), vs = [.ref so, .ref q, v] ∧ Ex Hb (hid [so] H) ∧ H so = some (.ins (gA mg "Scoping") dx (scpF (.ref tp) r)) ∧
  SqL K Hb tp (tops.map V.str) ∧ SqL K (hid [so] H) q (held.map V.str) ∧ Dp K Hb v s.enc ∧ shS s ∧ wt s.enc ≤ 1000000 ∧
  ∀ H', Kp [so] H H' → H' so = some (.ins (gA mg "Scoping") dx (scpF (.ref tp) (r && seeL tops held (atsS s)))) → Q .non H'
theorem bd_see : BindQ "see" "Scoping.see" s_Scoping_see ["self", "names", "statement"] := fun _ _ _ _ _ _ us hl => match us, hl with | [_, _, _], _ => rfl
theorem ok_see (T : Txt K mg) : C8.Met P w K mg base 3 (gA mg "Scoping") "see" (spSee mg K) [] := by
  refine T.m_Scoping_see.ok T.k_Scoping scs_Scoping_see bd_see (fun vs H Q E h => ?_) (fun f cdv A outer s0 H vs Q E hr h => ?_)
  · obtain ⟨Hb, so, dx, tp, q, v, r, tops, held, s, rfl, _⟩ := h
    rfl
  · obtain ⟨Hb, so, dx, tp, q, v, r, tops, held, s, rfl, eb, hso, htp, hq, hd, sh, hz, k⟩ := h
    have C := T.k_Scoping.cls
    have no := T.k_Scoping.no
    have nd := scs_Scoping_see.nd
    refine ⟨_, pss_one (ps_for PassesOwn.never rfl (pi_list (pe_callD (ok_atss T) hr (.inl rfl) bd_atss pass0 (pa_cons (pv 2) pa_nil))) (pg_name (i := 3) nd rfl (.inl rfl))
      (pss_one (ps_if (PW.pt (pw_and (pt_val (pe_callB call_isa (by rfl) T.b_isinstance (by decide +kernel) (pa_cons (pv 3) (pa_cons (pe_bltn (v := .ty "str") (by rfl) T.b_str (by decide +kernel) rfl) pa_nil))))
        (pw_and (pt_cmpR op_notIn_seq (pv 3) (pv 1) (by with_unfolding_all rfl)) (pw_and1 (pt_cmpR op_notIn_seq (pv 3) (pe_fld (pv 0) rfl) (by with_unfolding_all rfl)))))) (pss_one (ps_fld (pv 0) pe_bl rfl)) pss_nil))), ?_⟩
    refine ⟨_, rfl, v, s, Hb, rfl, eb.trans hid_ex, hd, sh, hz, fun p H1 np e1 hp => ⟨p, rfl, ⟨_, sq_of hp⟩, ?_⟩⟩
    have nps : p ≠ so := (ne_of_none hso np).symm
    refine for_list (K := K) (a := p) (xs := (atsS s).map atV) (fun i σ' H' => ∃ y : Option V, σ' = [some (.ref so), some (.ref q), some v, y] ∧ Kp [so] H1 H' ∧ H' so = some (.ins (gA mg "Scoping") dx (scpF (.ref tp) (r && seeL tops held ((atsS s).take i)))))
      ⟨none, rfl, Kp.refl _, by rw [e1 _ _ hso]; simp [seeL]⟩ (fun i σ' H' _ z => ?_) ?_ ?_
    · obtain ⟨_, _, kk, _⟩ := z
      exact sq_of (kk _ _ (by simp [nps]) hp)
    · rintro i y σ' H2 hy ⟨y3, rfl, k2, hso2⟩
      rw [List.getElem?_map] at hy
      obtain ⟨a, ha, rfl⟩ := Option.map_eq_some_iff.mp hy
      have k02 : Kp [so] H H2 := (Kp.of e1).trans k2
      have et : seeL tops held ((atsS s).take (i + 1)) = (seeL tops held ((atsS s).take i) && seeA tops held a) := by
        rw [List.take_succ, ha]
        simp [seeL]
      have hq2 : SqL K H2 q (held.map V.str) := ex_l (k02.ex.trans hid_ex) hq
      have ht2 : SqL K H2 tp (tops.map V.str) := ex_l (eb.trans (k02.ex.trans hid_ex)) htp
      have keep : seeA tops held a = true → ∃ y : Option V, [some (V.ref so), some (.ref q), some v, some (atV a)] = [some (.ref so), some (.ref q), some v, y] ∧ Kp [so] H1 H2 ∧ H2 so = some (.ins (gA mg "Scoping") dx (scpF (.ref tp) (r && seeL tops held ((atsS s).take (i + 1))))) := fun e =>
        ⟨_, rfl, k2, by rw [et, e, Bool.and_true]; exact hso2⟩
      cases a with
      | num n => exact ⟨_, rfl, _, _, .int n, rfl, .int n, by simp, _, rfl, itF rfl (keep rfl)⟩
      | nm x =>
        refine ⟨_, rfl, _, _, .str x, rfl, .str x, by simp, _, rfl, itT rfl ⟨_, rfl, _, rfl, q, _, rfl, .inl hq2, rfl, flat_strs _, _, rfl, ?_⟩⟩
        have n1 : (!inV (.str x) (held.map V.str)) = !held.contains x := by rw [inV_strs]
        have n2 : (!inV (.str x) (tops.map V.str)) = !tops.contains x := by rw [inV_strs]
        cases h1 : held.contains x with
        | true => exact itF (n1.trans (by rw [h1]; rfl)) (itF rfl (keep (by rw [seeA, h1]; rfl)))
        | false =>
          refine itT (n1.trans (by rw [h1]; rfl)) ⟨_, rfl, _, rfl, so, _, dx, _, _, rfl, hso2, C, no _ (by simp), rfl, tp, _, rfl, .inl ht2, rfl, flat_strs _, _, rfl, ?_⟩
          cases h2 : tops.contains x with
          | true => exact itF (n2.trans (by rw [h2]; rfl)) (keep (by rw [seeA, h1, h2]; rfl))
          | false =>
            refine itT (n2.trans (by rw [h2]; rfl)) ⟨_, rfl, so, _, dx, _, rfl, hso2, C, no _ (by simp), by show 2 < 1000; decide, _, rfl, k2.upd (by simp), ?_⟩
            rw [upd_same, put_right, et]
            have e : seeA tops held (.nm x) = false := by rw [seeA, h1, h2]; rfl
            rw [e, Bool.and_false, Bool.and_false]
    · rintro σ' H2 ⟨y3, rfl, k2, hso2⟩
      rw [List.take_of_length_le (by simp)] at hso2
      exact k H2 ((Kp.of e1).trans k2) hso2
end
end K4

set_option maxHeartbeats 4000000
namespace K4
open PySem L2 Evl DL PJ PG TL
section
variable {P : Program} {w : World} {K : PySem.W.Frag} {mg : Str → Option Value} {base : Heap}
def spScope (mg : Str → Option Value) (K : PySem.W.Frag) (dd : Nat) : Sp := fun vs H Q _ => ∃ (Hb : Hp) (so dx tp q a : Addr) (r : Bool) (tops names : List Str) (b : Bd) (funs ifs : Nat), vs = [.ref so, .ref q, .ref a, .int (funs : Nat), .int (ifs : Nat)] ∧ Ex Hb (hid [so] H) ∧
  H so = some (.ins (gA mg "Scoping") dx (scpF (.ref tp) r)) ∧ SqL K Hb tp (tops.map V.str) ∧ (SqL K (hid [so] H) q (names.map V.str) ∨ SqT K (hid [so] H) q (names.map V.str)) ∧ Dp K Hb (.ref a) (.tuple b.encs) ∧ shB b ∧ b.deep ≤ dd ∧ names.length + wB b ≤ 1000000 ∧ wts b.encs ≤ 1000000 ∧
  ∀ H', Kp [so] H H' → H' so = some (.ins (gA mg "Scoping") dx (scpF (.ref tp) (r && scB tops names funs ifs b))) → Q .non H'
theorem bd_scope : BindQ "body" "Scoping.body" s_Scoping_body ["self", "names", "body", "funs", "ifs"] := fun _ _ _ _ _ _ us hl => match us, hl with | [_, _, _, _, _], _ => rfl
theorem ok_scope (T : Txt K mg) : ∀ dd : Nat, C8.Met P w K mg base (dd + 3) (gA mg "Scoping") "body" (spScope mg K dd) [] := by
  intro dd
  induction dd with
  | zero =>
    refine T.m_Scoping_body.void T.k_Scoping bd_scope (fun vs H Q E h => ?_) (fun vs H Q E h => ?_)
    · obtain ⟨Hb, so, dx, tp, q, a, r, tops, names, b, funs, ifs, rfl, _, _, _, _, _, _, hd, _⟩ := h
      exact absurd (Bd.deep_pos b) (by omega)
    · obtain ⟨Hb, so, dx, tp, q, a, r, tops, names, b, funs, ifs, rfl, _⟩ := h
      rfl
  | succ dd ih =>
    refine T.m_Scoping_body.ok T.k_Scoping scs_Scoping_body bd_scope (fun vs H Q E h => ?_) (fun f cdv A outer s0 H vs Q E hr h => ?_)
    · obtain ⟨Hb, so, dx, tp, q, a, r, tops, names, b, funs, ifs, rfl, _⟩ := h
      rfl
    · obtain ⟨Hb, so, dx, tp, q, a, r, tops, names, b, funs, ifs, rfl, eb, hso, htp, hq, hd, sh, hdp, hz, hz2, k⟩ := h
      have C := T.k_Scoping.cls
      have no := T.k_Scoping.no
      have nd := scs_Scoping_body.nd
      refine ⟨_, pss_cons (ps_if (PW.pt (pw_or (pt_cmpR op_gt (pv 3) (pe_const T.c_MOST_FUNS) (nomark _)) (pw_or1 (pt_cmpR op_gt (pv 4) (pe_const T.c_MOST_IFS) (nomark _))))) (pss_cons (ps_fld (pv 0) pe_bl rfl) (pss_one ps_retN)) pss_nil)
        (pss_cons (ps_set (i := 5) nd rfl (.inl rfl) (pe_callTy call_list_of (by rfl) T.b_list (by decide +kernel) (pa_cons (pv 1) pa_nil)))
        (pss_one (ps_for PassesOwn.never rfl (pi_tup (pv 2)) (pg_name (i := 6) nd rfl (.inl rfl))
          (pss_cut (ps_expr (C8.pe_mt (ok_see T) hr (by omega) (pv 0) (pa_cons (pv 5) (pa_cons (pv 6) pa_nil))))
          (pss_cut (ps_if (pt_val (pe_callD (ok_funlet T) (hr.mono (by omega)) (.inl rfl) bd_funlet pass0 (pa_cons (pv 6) pa_nil)))
            (pss_one (ps_expr (C8.pe_mt ih hr (Nat.le_refl _) (pv 0) (pa_cons (pe_lst (StX.pa_star (pv 5) (StX.pa_star (pe_ix ix_tup (pe_ix ix_tup (pv 6) pe_int (fun _ _ => rfl)) pe_int (fun _ _ => rfl)) pa_nil)))
              (pa_cons (pe_ix ix_tup (pe_ix ix_tup (pv 6) pe_int (fun _ _ => rfl)) pe_int (fun _ _ => rfl)) (pa_cons (pe_op op_add (pv 3) pe_int) (pa_cons (pv 4) pa_nil))))))) pss_nil)
          (pss_cut (ps_for PassesOwn.never rfl (pi_list (pe_ifExp (pt_cmpR op_eq (pe_ix ix_tup (pv 6) pe_int (fun _ _ => rfl)) pe_str (nomark _)) (pe_callD (ok_bodies T) (hr.mono (by omega)) (.inl rfl) bd_bodies pass0 (pa_cons (pv 6) pa_nil)) (pe_lst pa_nil))) (pg_name (i := 7) nd rfl (.inl rfl))
            (pss_one (ps_expr (C8.pe_mt ih hr (Nat.le_refl _) (pv 0) (pa_cons (pv 5) (pa_cons (pv 7) (pa_cons (pv 3) (pa_cons (pe_op op_add (pv 4) pe_int) pa_nil))))))))
          (pss_one (ps_expr (pe_bm PySem.F.plainAttrs_list PySem.F.slot_list_extend PySem.F.type_list_extend mt_extend (pv 5)
            (pa_cons (pe_ifExp (pt_cmpR op_eq (pe_ix ix_tup (pv 6) pe_int (fun _ _ => rfl)) pe_str (nomark _)) (pe_lst (pa_cons (pe_ix ix_tup (pv 6) pe_int (fun _ _ => rfl)) pa_nil)) (pe_lst pa_nil)) pa_nil)))))))))), ?_⟩
      obtain ⟨a', xs, ea, hS, hxs⟩ := dp_tup hd
      cases ea
      rw [← smsB_encs] at hxs
      have lx := dpa_len hxs
      rw [List.length_map] at lx
      have big : (1000000 : Nat) < sizeLine := by decide
      have ebk : ∀ {H'}, Kp [so] H H' → Ex Hb H' := fun k' => eb.trans (k'.ex.trans hid_ex)
      have done : okN funs ifs = false → Q .non (L2.upd H so (.ins (gA mg "Scoping") dx (putF "is_right" (.bl false) (scpF (.ref tp) r)))) := fun e => by
        refine k _ ((Kp.refl H).upd (by simp)) ?_
        rw [upd_same, put_right, scB, e, Bool.false_and, Bool.and_false]
      refine ⟨_, rfl, _, _, rfl, rfl, _, rfl, ?_⟩
      by_cases hf : funs ≤ 3
      rotate_left
      · exact itT (decide_eq_true (by omega)) ⟨_, rfl, so, _, dx, _, rfl, hso, C, no _ (by simp), by show 2 < 1000; decide, done (by rw [okN, decide_eq_false hf, Bool.false_and])⟩
      refine itF (decide_eq_false (by omega)) ⟨_, rfl, _, _, rfl, rfl, _, rfl, ?_⟩
      by_cases hi6 : ifs ≤ 6
      rotate_left
      · exact itT (decide_eq_true (by omega)) ⟨_, rfl, so, _, dx, _, rfl, hso, C, no _ (by simp), by show 2 < 1000; decide, done (by rw [okN, decide_eq_false hi6, Bool.and_false])⟩
      have hok : okN funs ifs = true := by rw [okN, decide_eq_true hf, decide_eq_true hi6]; rfl
      rw [show scB tops names funs ifs b = scF tops funs ifs names (smsB b) by rw [scB, hok, scF_eq, Bool.true_and]] at k
      refine itF (decide_eq_false (by omega)) ⟨_, rfl, q, _, rfl, hq.imp (ex_l hid_ex) (ex_t hid_ex), fun l hl => ?_⟩
      have nls : l ≠ so := (ne_of_none hso hl).symm
      refine ⟨_, rfl, a, rfl, ⟨xs, ex_t (ebk (Kp.new hl)) hS⟩, for_tup (K := K) (a := a) (xs := xs) (fun i σ' H' => ∃ (y6 y7 : Option V) (held : List Str) (r' : Bool), σ' = [some (.ref so), some (.ref q), some (.ref a), some (.int (funs : Nat)), some (.int (ifs : Nat)), some (.ref l), y6, y7] ∧ Kp [so] H H' ∧
        H' l = some (.lst (held.map V.str)) ∧ H' so = some (.ins (gA mg "Scoping") dx (scpF (.ref tp) r')) ∧ (r' && scF tops funs ifs held ((smsB b).drop i)) = (r && scF tops funs ifs names (smsB b)) ∧ held.length + (((smsB b).drop i).map wSx).sum ≤ names.length + wB b)
        ⟨none, none, names, r, rfl, Kp.new hl, upd_same, (by rw [upd_ne nls.symm]; exact hso), by rw [List.drop_zero], by rw [List.drop_zero, wB_sum]; exact Nat.le_refl _⟩ (fun i σ' H' _ z => ?_) ?_ ?_⟩
      · obtain ⟨_, _, _, _, _, kk, _⟩ := z
        exact ex_t (ebk kk) hS
      · rintro i x σ' H2 hx ⟨y6, y7, held, r', rfl, k2, hl2, hso2, hval, hw⟩
        obtain ⟨d, hd', hxd⟩ := dpa_getV hxs hx
        rw [List.getElem?_map] at hd'
        obtain ⟨s, hs, rfl⟩ := Option.map_eq_some_iff.mp hd'
        have hmem := List.mem_of_getElem? hs
        have shs := smsB_sh sh s hmem
        have dps := sms_deep hmem
        have hzs : wt s.enc ≤ 1000000 := Nat.le_trans (wts_mem (by rw [← smsB_encs]; exact List.mem_map_of_mem hmem)) hz2
        have hdrop : (smsB b).drop i = s :: (smsB b).drop (i + 1) := by
          have lt := (List.getElem?_eq_some_iff.mp hs).1
          rw [List.drop_eq_getElem_cons lt, (List.getElem?_eq_some_iff.mp hs).2]
        rw [hdrop, List.map_cons, List.sum_cons] at hw
        rw [hdrop, scF, subS_eq] at hval
        have inL : ∀ {H' : Hp}, H' l = some (.lst (held.map V.str)) → SqL K (hid [so] H') l (held.map V.str) := fun h => sq_of (hid_of h (by simp [nls]))
        let σ1 : L2.St := [some (.ref so), some (.ref q), some (.ref a), some (.int (funs : Nat)), some (.int (ifs : Nat)), some (.ref l), some x, y7]
        refine ⟨fun σ' H' => σ' = σ1 ∧ Kp [so] H H' ∧ H' l = some (.lst (held.map V.str)) ∧ H' so = some (.ins (gA mg "Scoping") dx (scpF (.ref tp) (r' && seeL tops held (atsS s)))), ?_, ?_⟩
        · exact ⟨_, rfl, so, dx, _, rfl, hso2, rfl, _, rfl, _, rfl, Hb, so, dx, tp, l, x, r', tops, held, s, rfl, eb.trans k2.ex, hso2, htp, inL hl2, hxd, shs, hzs, fun H3 k3 hso3 => ⟨rfl, k2.trans k3, k3 _ _ (by simp [nls]) hl2, hso3⟩⟩
        rintro _ H3 ⟨rfl, k3, hl3, hso3⟩
        generalize hr1 : (r' && seeL tops held (atsS s)) = r1 at hso3
        -- a fun's body
        refine ⟨fun σ' H' => σ' = σ1 ∧ Kp [so] H H' ∧ H' l = some (.lst (held.map V.str)) ∧ H' so = some (.ins (gA mg "Scoping") dx (scpF (.ref tp) (r1 && fubS tops held funs ifs s))), ?_, ?_⟩
        · refine ⟨_, rfl, x, s, Hb, rfl, ebk k3, hxd, shs, _, rfl, ?_⟩
          cases hfs : funS s with
          | false =>
            refine itF rfl ⟨rfl, k3, hl3, ?_⟩
            have e : fubS tops held funs ifs s = true := by
              cases s with
              | lets x r => cases r <;> first | rfl | cases hfs
              | _ => rfl
            rw [e, Bool.and_true]
            exact hso3
          | true =>
            refine itT rfl ?_
            cases s with
            | lets x0 rt =>
              cases rt with
              | fn ps b' =>
                have dp' := dps.1 x0 ps b' rfl
                obtain ⟨c, ys, rfl, hc, hys⟩ := dp_tup hxd
                cases hys with | cons g0 gr => cases gr with | cons g1 gr => cases gr with | cons g2 gr => cases gr with | nil =>
                obtain ⟨c2, zs, rfl, hc2, hzs2⟩ := dp_tup g2
                cases hzs2 with | cons f0 fr => cases fr with | cons f1 fr => cases fr with | cons f2 fr => cases fr with | nil =>
                obtain ⟨c3, ws, rfl, hc3, hws⟩ := dp_tup f1
                obtain rfl := dpa_strs_eq hws
                obtain ⟨c4, us, rfl, hc4, hus⟩ := dp_tup f2
                have eb3 := ebk k3
                simp only [wSx, wR] at hw
                have hz4 : wts b'.encs ≤ 1000000 := by simp only [Sx.enc, Rt.enc, wt, wts] at hzs; omega
                refine ⟨_, rfl, so, dx, _, rfl, hso3, rfl, _, rfl, l, _, rfl, .inr (sq_of hl3), _, rfl, c, _, 2, _, rfl, rfl, ex_t eb3 hc, atI_nat (j := 2) rfl, c2, _, 1, _, rfl, rfl, ex_t eb3 hc2, atI_nat (j := 1) rfl, c3, _, rfl, .inl (ex_t eb3 hc3), ?_, fun p hp => ?_⟩
                · simp only [List.length_append, List.length_map, List.length_nil]
                  omega
                · have e4 : Ex H3 (L2.upd H3 p (.lst (held.map V.str ++ (ps.map V.str ++ [])))) := Ex.new hp
                  have nps : p ≠ so := (ne_of_none hso3 hp).symm
                  have k4 := k3.trans (Kp.of e4)
                  refine ⟨_, rfl, c, _, 2, _, rfl, rfl, ex_t (ebk k4) hc, atI_nat (j := 2) rfl, c2, _, 2, _, rfl, rfl, ex_t (ebk k4) hc2, atI_nat (j := 2) rfl, _, rfl, _, _, rfl, rfl, _, rfl, Hb, so, dx, tp, p, c4, r1, tops, held ++ ps, b', funs + 1, ifs, rfl, eb.trans k4.ex, e4 _ _ hso3, htp,
                    .inl (sq_of (hid_of (by rw [upd_same, List.map_append, List.append_nil]) (by simp [nps]))), .tup hc4 hus, shs, by omega, by rw [List.length_append]; omega, hz4, fun H5 k5 hso5 => ⟨rfl, k4.trans k5, k5 _ _ (by simp [nls]) (e4 _ _ hl3), hso5⟩⟩
              | two _ _ _ => cases hfs
              | one _ _ => cases hfs
              | call _ _ => cases hfs
            | says _ => cases hfs
            | give _ => cases hfs
            | tail _ _ => cases hfs
            | cond _ _ _ => cases hfs
        rintro _ H4 ⟨rfl, k4, hl4, hso4⟩
        generalize hr2 : (r1 && fubS tops held funs ifs s) = r2 at hso4
        -- the bodies of an if
        refine ⟨fun σ' H' => (∃ y, σ' = [some (.ref so), some (.ref q), some (.ref a), some (.int (funs : Nat)), some (.int (ifs : Nat)), some (.ref l), some x, y]) ∧ Kp [so] H H' ∧ H' l = some (.lst (held.map V.str)) ∧ H' so = some (.ins (gA mg "Scoping") dx (scpF (.ref tp) (r2 && cobS tops held funs ifs s))), ?_, ?_⟩
        · rcases ifs_word (s := s) with ⟨a0, b1, b2, rfl⟩ | ⟨w, t, ew, hw2, hcob⟩
          · obtain ⟨d1, d2⟩ := dps.2 a0 b1 b2 rfl
            simp only [shS] at shs
            have hxd' := hxd
            obtain ⟨c, ys, rfl, hc, hys⟩ := dp_tup hxd
            cases hys with | cons g0 gr =>
            obtain rfl := dp_str g0
            refine ⟨_, rfl, c, _, 0, _, rfl, rfl, ex_t (ebk k4) hc, atI_nat (j := 0) rfl, rfl, _, rfl, itT (str_eq rfl) ⟨_, rfl, .ref c, _, _, Hb, rfl, ebk k4, hxd', .cond, fun p H5 zs np e5 hp hzs3 => ⟨p, rfl, ⟨zs, sq_of hp⟩, ?_⟩⟩⟩
            cases hzs3 with | @cons z1 zr _ _ g1 gr3 => cases gr3 with | @cons z2 _ _ _ g2 gr4 => cases gr4 with | nil =>
            have k5 := k4.trans (Kp.of e5)
            have nps : p ≠ so := (ne_of_none hso4 np).symm
            simp only [wSx] at hw
            have hz5 : wts b1.encs ≤ 1000000 ∧ wts b2.encs ≤ 1000000 := by simp only [Sx.enc, wt, wts] at hzs; omega
            have bds : ∀ j bj, [b1, b2][j]? = some bj → shB bj ∧ bj.deep ≤ dd ∧ held.length + wB bj ≤ 1000000 ∧ wts bj.encs ≤ 1000000 := fun j bj hj => by
              rcases List.mem_cons.mp (List.mem_of_getElem? hj) with rfl | m
              · exact ⟨shs.1, by omega, by omega, hz5.1⟩
              · cases List.mem_singleton.mp m
                exact ⟨shs.2, by omega, by omega, hz5.2⟩
            refine for_list (K := K) (a := p) (xs := [z1, z2]) (fun j σ' H' => ∃ y, σ' = [some (.ref so), some (.ref q), some (.ref a), some (.int (funs : Nat)), some (.int (ifs : Nat)), some (.ref l), some (.ref c), y] ∧ Kp [so] H5 H' ∧
              H' so = some (.ins (gA mg "Scoping") dx (scpF (.ref tp) (r2 && (([b1, b2].take j).all fun b => scB tops held funs (ifs + 1) b))))) ⟨y7, rfl, Kp.refl _, by rw [e5 _ _ hso4]; simp⟩ (fun j σ' H' _ z => ?_) ?_ ?_
            · obtain ⟨_, _, kk, _⟩ := z
              exact sq_of (kk _ _ (by simp [nps]) hp)
            · rintro j z σ' H6 hz6 ⟨y, rfl, k6, hso6⟩
              obtain ⟨bd, hbd, hzd⟩ := dpa_getV (ds := [b1, b2].map encT) (.cons g1 (.cons g2 .nil)) hz6
              rw [List.getElem?_map] at hbd
              obtain ⟨bj, hbj, rfl⟩ := Option.map_eq_some_iff.mp hbd
              obtain ⟨q1, q2, q3, q4⟩ := bds j bj hbj
              obtain ⟨c5, us, rfl, hc5, hus⟩ := dp_tup hzd
              have k06 := k5.trans k6
              have et : ([b1, b2].take (j + 1)).all (fun b => scB tops held funs (ifs + 1) b) = (([b1, b2].take j).all (fun b => scB tops held funs (ifs + 1) b) && scB tops held funs (ifs + 1) bj) := by
                rw [List.take_succ, hbj]
                simp
              have hl6 : H6 l = some (.lst (held.map V.str)) := k6 _ _ (by simp [nls]) (e5 _ _ hl4)
              exact ⟨_, rfl, so, dx, _, rfl, hso6, rfl, _, rfl, _, rfl, _, rfl, _, rfl, _, _, rfl, rfl, Hb, so, dx, tp, l, c5, _, tops, held, bj, funs, ifs + 1, rfl, eb.trans k06.ex, hso6, htp, .inl (inL hl6), .tup hc5 hus, q1, q2, q3, q4,
                fun H7 k7 hso7 => ⟨_, rfl, k6.trans k7, by rw [et, ← Bool.and_assoc]; exact hso7⟩⟩
            · rintro σ' H6 ⟨y, rfl, k6, hso6⟩
              refine ⟨⟨_, rfl⟩, k5.trans k6, k6 _ _ (by simp [nls]) (e5 _ _ hl4), ?_⟩
              have e : ([b1, b2].take [z1, z2].length).all (fun b => scB tops held funs (ifs + 1) b) = cobS tops held funs ifs (.cond a0 b1 b2) := by simp [cobS]
              rw [e] at hso6
              exact hso6
          · have hxd' := hxd
            rw [ew] at hxd'
            obtain ⟨c, ys, rfl, hc, hys⟩ := dp_tup hxd'
            cases hys with | cons g0 gr =>
            obtain rfl := dp_str g0
            refine ⟨_, rfl, c, _, 0, _, rfl, rfl, ex_t (ebk k4) hc, atI_nat (j := 0) rfl, rfl, _, rfl, itF (str_ne hw2) ⟨sz_of (Nat.zero_le _), fun p hp => ⟨p, rfl, ⟨[], sq_of upd_same⟩, ?_⟩⟩⟩
            have nps : p ≠ so := (ne_of_none hso4 hp).symm
            refine for_list (K := K) (a := p) (xs := []) (fun j σ' H' => σ' = σ1 ∧ H' = L2.upd H4 p (.lst [])) ⟨rfl, rfl⟩ (fun j σ' H' _ z => ?_) ?_ ?_
            · obtain ⟨_, rfl⟩ := z
              exact sq_of upd_same
            · rintro j z σ' H' hz6 _
              simp at hz6
            · rintro σ' H' ⟨rfl, rfl⟩
              refine ⟨⟨_, rfl⟩, k4.trans (Kp.new hp), (Ex.new hp) _ _ hl4, ?_⟩
              rw [hcob, Bool.and_true]
              exact (Ex.new hp) _ _ hso4
        rintro _ H5 ⟨⟨y, rfl⟩, k5, hl5, hso5⟩
        -- held.extend
        have hv2 : ((r2 && cobS tops held funs ifs s) && scF tops funs ifs (held ++ ownS s) ((smsB b).drop (i + 1))) = (r && scF tops funs ifs names (smsB b)) := by
          rw [← hval, ← hr2, ← hr1]
          simp only [Bool.and_assoc]
        have hH5 : H l = none := hl
        rcases sx_word s with ⟨x0, rt, rfl⟩ | ⟨w, t, ew, hw2, _, _, how⟩
        · obtain ⟨c, ys, rfl, hc, hys⟩ := dp_tup hxd
          cases hys with | cons g0 gr => cases gr with | cons g1 gr =>
          obtain rfl := dp_str g0
          obtain rfl := dp_str g1
          refine ⟨_, rfl, .inl ⟨rfl, _, sq_of hl5⟩, _, rfl, c, _, 0, _, rfl, rfl, ex_t (ebk k5) hc, atI_nat (j := 0) rfl, rfl, _, rfl, itT (str_eq rfl) ⟨_, rfl, c, _, 1, _, rfl, rfl, ex_t (ebk k5) hc, atI_nat (j := 1) rfl, sz_of (by simp), fun p hp => ?_⟩⟩
          have e6 : Ex H5 (L2.upd H5 p (.lst [.str x0])) := Ex.new hp
          simp only [wSx] at hw
          refine ⟨l, p, _, _, rfl, rfl, e6 _ _ hl5, upd_same, by simp only [List.length_map, List.length_singleton]; omega, _, _, held ++ [x0], _, rfl, (k5.trans (Kp.of e6)).mut hl, ?_, ?_, hv2, by rw [List.length_append, List.length_singleton]; omega⟩
          · rw [upd_same, List.map_append]; rfl
          · rw [upd_ne nls.symm]; exact e6 _ _ hso5
        · rw [ew] at hxd
          obtain ⟨c, ys, rfl, hc, hys⟩ := dp_tup hxd
          cases hys with | cons g0 gr =>
          obtain rfl := dp_str g0
          refine ⟨_, rfl, .inl ⟨rfl, _, sq_of hl5⟩, _, rfl, c, _, 0, _, rfl, rfl, ex_t (ebk k5) hc, atI_nat (j := 0) rfl, rfl, _, rfl, itF (str_ne hw2) ⟨sz_of (Nat.zero_le _), fun p hp => ?_⟩⟩
          have e6 : Ex H5 (L2.upd H5 p (.lst [])) := Ex.new hp
          rw [how, List.append_nil] at hv2
          refine ⟨l, p, _, _, rfl, rfl, e6 _ _ hl5, upd_same, by simp only [List.length_map, List.length_nil]; omega, _, _, held, _, rfl, (k5.trans (Kp.of e6)).mut hl, ?_, ?_, hv2, by omega⟩
          · rw [upd_same, List.append_nil]
          · rw [upd_ne nls.symm]; exact e6 _ _ hso5
      · rintro σ' H2 ⟨y6, y7, held, r', rfl, k2, hl2, hso2, hval, hw⟩
        have et : (smsB b).drop xs.length = [] := List.drop_eq_nil_of_le (by omega)
        rw [et, scF, Bool.and_true] at hval
        rw [← hval] at k
        exact k H2 k2 hso2
end
end K4

set_option maxHeartbeats 4000000
namespace K4
open PySem L2 Evl DL PJ PG TL
section
variable {P : Program} {w : World} {K : PySem.W.Frag} {mg : Str → Option Value} {base : Heap}
/-! ### names bound in a top -/
theorem PtAll.getV {Hb H : Hp} {vs : List V} {ds : List (PyData × Str)} (h : PtAll mg K Hb H vs ds) : ∀ {i : Nat} {v : V}, vs[i]? = some v → ∃ d, ds[i]? = some d ∧ PtOk mg K Hb H v d := by
  induction h with
  | nil => intro i v hv; simp at hv
  | cons h _ ih =>
    intro i v hv
    cases i with
    | zero => simp at hv; subst hv; exact ⟨_, rfl, h⟩
    | succ i =>
      simp only [List.getElem?_cons_succ] at hv
      obtain ⟨d, h1, h2⟩ := ih hv
      exact ⟨d, by simpa using h1, h2⟩
def spNames (mg : Str → Option Value) (K : PySem.W.Frag) : Sp := fun vs H Q _ => ∃ (Hb : Hp) (π : Addr) (ts : List Tp3) (t : Tp3), vs = [.ref π, .str t.1] ∧ Ex Hb H ∧ PlanOk mg K Hb H π ts ∧ (ts.map (·.1)).Nodup ∧ t ∈ ts ∧ (∀ t ∈ ts, okTp t) ∧ t.2.1.length + wB t.2.2 ≤ 1000000 ∧
  ∀ p H', H p = none → Ex H H' → H' p = some (.lst ((namesT t).map V.str)) → Q (.ref p) H'
theorem bd_names : BindP "names_bound" s_names_bound ["plan", "top"] := fun _ _ _ _ _ _ us hl => match us, hl with | [_, _], _ => rfl
theorem ok_names (T : Txt K mg) : DefOk P w K mg base CX0 false 3 "names_bound" s_names_bound ["plan", "top"] (spNames mg K) := by
  refine T.d_names_bound.ok scs_names_bound (fun vs H Q E h => ?_) (fun f cdv A outer s0 H vs Q E hr h => ?_)
  · obtain ⟨Hb, π, ts, t, rfl, _⟩ := h
    rfl
  · obtain ⟨Hb, π, ts, t, rfl, eb, hp, hn, ht, ok, hz, k⟩ := h
    have C := T.k_Plan.cls
    have no := T.k_Plan.no
    have cp := T.k_Point.cls
    have np := T.k_Point.no
    have nd := scs_names_bound.nd
    refine ⟨_, pss_cons (ps_setLc2 (i := 2) (own := [("point", 3), ("name", 4)]) (vs1 := [4]) (g := gName 3) (g1 := gName 4) (tt1 := tYes) (te := tVar 4) (tt := tTest (tOp rEq (tFld K (tVar 3) "top") (tVar 1)))
        (wi1 := iList K (tCall (spBound K) [] E0 (tCons (tFld K (tVar 3) "statement") tNil))) rfl nd rfl rfl (sw_true rfl rfl rfl (by decide +kernel)) (pi_list (pe_fld (pv 0) rfl))
        (blkOk_by (N := ["plan", "top", "own", "point", "name"]) (sc := defScope s_names_bound) (by decide +kernel)) (by decide) (fun _ _ _ _ _ => pg_name (i := 3) nd rfl (.inl rfl)) (fun _ _ _ _ _ => pts_one (pt_cmpR op_eq (pe_fld (pv 3) rfl) (pv 1) (nomark _)))
        (fun _ _ _ _ _ => pi_list (pe_callD (ok_bound T) hr (.inl rfl) bd_bound pass0 (pa_cons (pe_fld (pv 3) rfl) pa_nil))) (fun _ _ _ _ _ => pg_name (i := 4) nd rfl (.inl rfl)) (fun _ _ _ _ _ => pts_nil) (fun _ _ _ _ _ => pv 4))
      (pss_one (ps_ret (pe_lst (StX.pa_star (pe_dget (hu_of hr) (pe_fld (pv 0) rfl) (pv 1) (fun _ _ => rfl)) (StX.pa_star (pv 2) pa_nil))))), ?_⟩
    obtain ⟨dx, fs, pp, pd, pts, kvs, hins, lp, lpd, hpp, pa, hpd, hkv⟩ := hp.ex
    have ep : ptsP ts = (ptsX ts).map fun p => (p.1.enc, p.2) := (ptsX_P ts).symm
    rw [ep] at pa
    have lpt := pa.len
    rw [List.length_map] at lpt
    have hown := bndT_own ts t hn ht
    have hbw := bnB_w t.2.2
    have big : (1000000 : Nat) < sizeLine := by decide
    have total : ∀ i p, (ptsX ts)[i]? = some p → (((ptsX ts).take i).flatMap (bndT t.1)).length + (bndT t.1 p).length ≤ 1000000 := fun i p h => by
      have h1 := flat_take_le (bndT t.1) (ptsX ts) (i + 1)
      rw [flat_take_succ h, hown, List.length_append] at h1
      omega
    dsimp only [tAsg, tLc2]
    refine ⟨_, rfl, π, _, dx, fs, _, rfl, hins, C, no _ (by simp), lp, pp, rfl, ⟨pts, sq_of hpp⟩, fun D nD => ?_⟩
    have nDpp : pp ≠ D := ne_of_none hpp nD
    refine ⟨fun i m H' => m = pts.length - i ∧ i ≤ pts.length ∧ Ex H H' ∧ H' D = some (.lst ((((ptsX ts).take i).flatMap (bndT t.1)).map V.str)), ⟨_, rfl, Nat.zero_le _, Ex.new nD, by rw [upd_same]; simp⟩, ?_⟩
    rintro i m H1 ⟨rfl, hi, e1, hD1⟩
    rcases Nat.lt_or_ge i pts.length with lt | ge
    · refine .inr ⟨⟨pts, pts[i], sq_of (e1 _ _ hpp), List.getElem?_eq_getElem lt⟩, fun H' => Ex H H' ∧ H' D = some (.lst ((((ptsX ts).take (i + 1)).flatMap (bndT t.1)).map V.str)), fun H' g => ⟨_, by omega, rfl, lt, g⟩, ?_⟩
      rintro y _ ⟨rfl, hy⟩
      have hy := hy pts (sq_of (e1 _ _ hpp))
      obtain ⟨dd, hdd, q, dq, fq, u, rfl, hq, ls, hu, lt2⟩ := pa.getV hy
      rw [List.getElem?_map] at hdd
      obtain ⟨p, hpx, rfl⟩ := Option.map_eq_some_iff.mp hdd
      have tot := total i p hpx
      have shp := ptsX_sh ok (List.mem_of_getElem? hpx)
      rw [flat_take_succ hpx]
      refine ⟨rfl, ⟨_, rfl, q, _, dq, fq, _, rfl, e1 _ _ hq, cp, np _ (by simp), lt2, _, rfl, rfl, _, rfl, ?_⟩⟩
      by_cases hpt : p.2 = t.1
      · refine itT (str_eq hpt) ?_
        have eb2 : bndT t.1 p = bndS p.1 := by rw [bndT, if_pos hpt]
        rw [eb2] at tot ⊢
        refine ⟨_, rfl, q, _, dq, fq, _, rfl, e1 _ _ hq, cp, np _ (by simp), ls, _, p.1, Hb, rfl, eb.trans e1, hu, shp, by omega, fun z H2 nz e2 hz2 => ⟨z, rfl, ⟨_, sq_of hz2⟩, ?_⟩⟩
        generalize hpre : ((ptsX ts).take i).flatMap (bndT t.1) = pre at hD1 tot ⊢
        have nDz : D ≠ z := ne_of_none hD1 nz
        refine ⟨fun j m H' => m = ((bndS p.1).map V.str).length - j ∧ j ≤ ((bndS p.1).map V.str).length ∧ Ex H H' ∧ H' z = some (.lst ((bndS p.1).map V.str)) ∧ H' D = some (.lst ((pre ++ (bndS p.1).take j).map V.str)), ⟨_, rfl, Nat.zero_le _, e1.trans e2, hz2, by simpa using e2 _ _ hD1⟩, ?_⟩
        rintro j m H3 ⟨rfl, hj, e3, hz3, hD3⟩
        rcases Nat.lt_or_ge j ((bndS p.1).map V.str).length with ltj | gej
        · refine .inr ⟨⟨_, _, sq_of hz3, List.getElem?_eq_getElem ltj⟩, fun H' => Ex H H' ∧ H' z = some (.lst ((bndS p.1).map V.str)) ∧ H' D = some (.lst ((pre ++ (bndS p.1).take (j + 1)).map V.str)), fun H' g => ⟨_, by omega, rfl, ltj, g⟩, ?_⟩
          rintro w _ ⟨rfl, hw⟩
          have hw := hw _ (sq_of hz3)
          rw [List.getElem?_map] at hw
          obtain ⟨x, hx, rfl⟩ := Option.map_eq_some_iff.mp hw
          refine ⟨rfl, lc_yes ⟨_, rfl, _, hD3, ?_, ?_, ?_, ?_⟩⟩
          · have : ((bndS p.1).take j).length ≤ (bndS p.1).length := by rw [List.length_take]; exact Nat.min_le_right _ _
            simp only [List.length_map, List.length_append]
            omega
          · intro b o hb
            have nb : b ≠ D := fun e => by rw [e, nD] at hb; cases hb
            rw [upd_ne nb]
            exact e3 _ _ hb
          · rw [upd_ne nDz.symm]; exact hz3
          · rw [upd_same, List.take_succ, hx]
            simp
        · have ej : j = ((bndS p.1).map V.str).length := by omega
          subst ej
          refine .inl ⟨⟨_, sq_of hz3, Nat.le_refl _⟩, e3, ?_⟩
          rw [List.length_map, List.take_length] at hD3
          exact hD3
      · refine itF (str_ne hpt) ⟨e1, ?_⟩
        rw [bndT, if_neg hpt, List.append_nil]
        exact hD1
    · have e : i = pts.length := by omega
      subst e
      have et : (ptsX ts).take pts.length = ptsX ts := List.take_of_length_le (by omega)
      rw [et, hown] at hD1
      refine .inl ⟨⟨pts, sq_of (e1 _ _ hpp), Nat.le_refl _⟩, ?_⟩
      obtain ⟨v, hv, hdv⟩ := hkv hn t ht
      obtain ⟨c, ws, rfl, hc, hws⟩ := dp_tup hdv
      obtain rfl := dpa_strs_eq hws
      refine ⟨_, rfl, π, _, dx, fs, _, rfl, e1 _ _ hins, C, no _ (by simp), lpd, _, rfl, pd, .ref c, rfl, ?_, c, _, rfl, .inl (ex_t (eb.trans e1) hc), _, rfl, D, _, rfl, .inr (sq_of hD1), ?_, fun p hp => k p _ (fresh_back e1 hp) (e1.trans (Ex.new hp)) ?_⟩
      · have := DGet.k (k := (Sum.inr t.1 : Key)) (e1 _ _ hpd)
        rw [hv] at this
        exact this
      · simp only [List.length_append, List.length_map, List.length_nil]
        omega
      · rw [upd_same, List.append_nil, namesT, List.map_append]
end
end K4

set_option maxHeartbeats 4000000
namespace K4
open PySem L2 Evl DL PJ PG TL
section
variable {P : Program} {w : World} {K : PySem.W.Frag} {mg : Str → Option Value} {base : Heap}
/-! ### is it a right program -/
/-- what is told of data: b -/
def RightV (d : PyData) (b : Bool) : Prop := (formD d = false ∧ b = false) ∨ ∃ ts : List Tp3, d = .tuple (ts.map pEnc) ∧ formD d = true ∧ (∀ t ∈ ts, okTp t) ∧ b = rightP ts
theorem PlanOk.ex' {Hb H H' : Hp} {π : Addr} {ts : List Tp3} (h : PlanOk mg K Hb H π ts) (e : Ex H H') : PlanOk mg K Hb H' π ts := by
  obtain ⟨dx, fs, pp, pd, pts, kvs, hi, lp, lpd, hpp, pa, hpd, hkv⟩ := h.ex
  exact ⟨dx, fs, pp, pd, pts, kvs, e _ _ hi, lp, lpd, e _ _ hpp, pa.mono fun a C dx fs ha => e _ _ ha, e _ _ hpd, hkv⟩
theorem PlanOk.kpS {Hb H H' : Hp} {π so C dx : Addr} {tv : V} {r : Bool} {ts : List Tp3} (h : PlanOk mg K Hb H π ts) (hs : H so = some (.ins C dx (scpF tv r))) (k : Kp [so] H H') : PlanOk mg K Hb H' π ts := by
  obtain ⟨dx, fs, pp, pd, pts, kvs, hi, lp, lpd, hpp, pa, hpd, hkv⟩ := h.ex
  have np : π ≠ so := fun e => by rw [e, hs] at hi; cases hi; exact absurd lp (by rw [show fld (scpF tv r) "points" = none from rfl]; exact fun z => nomatch z)
  refine ⟨dx, fs, pp, pd, pts, kvs, k _ _ (by simp [np]) hi, lp, lpd, k _ _ (by simp; rintro rfl; rw [hs] at hpp; cases hpp) hpp, ?_, k _ _ (by simp; rintro rfl; rw [hs] at hpd; cases hpd) hpd, hkv⟩
  clear hpp
  generalize ptsP ts = ds at pa ⊢
  induction pa with
  | nil => exact .nil
  | cons hq _ ih =>
    obtain ⟨q, dq, fq, u, e, hq, l1, r⟩ := hq
    have nq : q ≠ so := fun e => by rw [e, hs] at hq; cases hq; exact absurd l1 (by rw [show fld (scpF tv _) "statement" = none from rfl]; exact fun z => nomatch z)
    exact .cons ⟨q, dq, fq, u, e, k _ _ (by simp [nq]) hq, l1, r⟩ ih
def spIsRight (K : PySem.W.Frag) : Sp := fun vs H Q _ => ∃ (v : V) (d : PyData) (b : Bool), vs = [v] ∧ Dp K H v d ∧ okd d = true ∧ RightV d b ∧ ∀ H', Ex H H' → Q (.bl b) H'
theorem bd_isright : BindP "is_right_program" s_is_right_program ["value"] := fun _ _ _ _ _ _ us hl => match us, hl with | [_], _ => rfl
theorem ok_isright (T : Txt K mg) : DefOk P w K mg base CX0 false 15 "is_right_program" s_is_right_program ["value"] (spIsRight K) := by
  refine T.d_is_right_program.ok scs_is_right_program (fun vs H Q E h => ?_) (fun f cdv A outer s H vs Q E hr h => ?_)
  · obtain ⟨v, d, b, rfl, _⟩ := h
    rfl
  · obtain ⟨v, d, b, rfl, hd, ok, rv, k⟩ := h
    have nd := scs_is_right_program.nd
    refine ⟨_, pss_cons (ps_if (PW.pt (pw_or (pt_not (pt_val (pe_callD (ok_short T) (hr.mono (by decide)) (.inl rfl) bd_short pass0 (pa_cons (pv 0) (pa_cons pe_int (pa_cons (pe_const T.c_MOST_TOPS) pa_nil))))))
        (pw_or1 (pt_not (pt_val (pe_callB (cr_all rfl) (by rfl) T.b_all (by decide +kernel) (pa_cons (pe_lc (own := [("each", 8)]) (g := gName 8) (tt := tYes) rfl nd (pi_tup (pv 0)) (blkOk_by (N := ["value", "tops", "scoping", "plan", "name", "params", "body", "names", "each", "_", "own"]) (sc := defScope s_is_right_program) (by decide +kernel))
          (fun _ _ _ _ _ => pg_name (i := 8) nd rfl (.inl rfl)) (fun _ _ _ _ _ => pts_nil) (fun _ _ _ _ _ => pe_callD (ok_top T) (hr.mono (by decide)) (.inl rfl) bd_top pass0 (pa_cons (pv 8) pa_nil))) pa_nil))))))) (pss_one (ps_ret pe_bl)) pss_nil)
      (pss_cut (ps_asg (pe_tup (pa_cons (pe_lc (own := [("name", 4), ("_", 9)]) (g := gTup K 3 (gCons (gName 4) (gCons (gName 9) (gCons (gName 9) gNil)))) (tt := tYes) (te := tVar 4) rfl nd (pi_tup (pv 0)) (blkOk_by (N := ["value", "tops", "scoping", "plan", "name", "params", "body", "names", "each", "_", "own"]) (sc := defScope s_is_right_program) (by decide +kernel))
            (fun _ _ _ _ _ => pg_tup rfl (pgs_cons (pg_name (i := 4) nd rfl (.inl rfl)) (pgs_cons (pg_name (i := 9) nd rfl (.inl rfl)) (pgs_cons (pg_name (i := 9) nd rfl (.inl rfl)) pgs_nil)))) (fun _ _ _ _ _ => pts_nil) (fun _ _ _ _ _ => pv 4))
          (pa_cons (C8.pe_mk (ok_scini T) hr (by decide) (by rfl) (pa_cons (pe_lc (own := [("name", 4), ("_", 9)]) (g := gTup K 3 (gCons (gName 4) (gCons (gName 9) (gCons (gName 9) gNil)))) (tt := tYes) (te := tVar 4) rfl nd (pi_tup (pv 0)) (blkOk_by (N := ["value", "tops", "scoping", "plan", "name", "params", "body", "names", "each", "_", "own"]) (sc := defScope s_is_right_program) (by decide +kernel))
            (fun _ _ _ _ _ => pg_tup rfl (pgs_cons (pg_name (i := 4) nd rfl (.inl rfl)) (pgs_cons (pg_name (i := 9) nd rfl (.inl rfl)) (pgs_cons (pg_name (i := 9) nd rfl (.inl rfl)) pgs_nil)))) (fun _ _ _ _ _ => pts_nil) (fun _ _ _ _ _ => pv 4)) pa_nil))
          (pa_cons (C8.pe_mk (ok_plan T) hr (by decide) (by rfl) (pa_cons (pv 0) pa_nil)) pa_nil)))) (pg_tup rfl (pgs_cons (pg_name (i := 1) nd rfl (.inr rfl)) (pgs_cons (pg_name (i := 2) nd rfl (.inl rfl)) (pgs_cons (pg_name (i := 3) nd rfl (.inl rfl)) pgs_nil)))))
      (pss_cut (ps_if (PW.pt (pw_or (pt_not (pt_val (pe_callD (ok_unlikeL T) (hr.mono (by decide)) (.inl rfl) bd_unlike pass0 (pa_cons (pv 1) pa_nil)))) (pw_or (pt_cmpR op_notIn_seq (pe_const T.c_MAIN) (pv 1) (by with_unfolding_all rfl))
          (pw_or1 (pt_cmpR op_gt (pe_callB call_len_seq (by rfl) T.b_len PySem.boot_len (pa_cons (pe_fld (pv 3) rfl) pa_nil)) (pe_const T.c_MOST_STATEMENTS) (nomark _)))))) (pss_one (ps_ret pe_bl)) pss_nil)
      (pss_cons (ps_for PassesOwn.never rfl (pi_tup (pv 0)) (pg_tup rfl (pgs_cons (pg_name (i := 4) nd rfl (.inl rfl)) (pgs_cons (pg_name (i := 5) nd rfl (.inl rfl)) (pgs_cons (pg_name (i := 6) nd rfl (.inl rfl)) pgs_nil))))
        (pss_cut (ps_set (i := 7) nd rfl (.inl rfl) (pe_callD (ok_names T) (hr.mono (by decide)) (.inl rfl) bd_names pass0 (pa_cons (pv 3) (pa_cons (pv 4) pa_nil))))
        (pss_cut (ps_if (PW.pt (pw_or (pt_not (pt_val (pe_callD (ok_unlikeL T) (hr.mono (by decide)) (.inl rfl) bd_unlike pass0 (pa_cons (pv 7) pa_nil)))) (pw_or1 (pt_val (pe_callB (cr_any rfl) (by rfl) T.b_any (by decide +kernel)
            (pa_cons (pe_lc (own := [("own", 10)]) (g := gName 10) (tt := tYes) (te := tOp (rIn K false) (tVar 10) (tVar 1)) rfl nd (pi_list (pv 7)) (blkOk_by (N := ["value", "tops", "scoping", "plan", "name", "params", "body", "names", "each", "_", "own"]) (sc := defScope s_is_right_program) (by decide +kernel))
            (fun _ _ _ _ _ => pg_name (i := 10) nd rfl (.inl rfl)) (fun _ _ _ _ _ => pts_nil) (fun _ _ _ _ _ => pe_cmpR op_in_seq (pv 10) (pv 1) (by with_unfolding_all rfl))) pa_nil)))))) (pss_one (ps_ret pe_bl)) pss_nil)
        (pss_one (ps_expr (C8.pe_mt (ok_scope T 10) hr (by decide) (pv 2) (pa_cons (pv 5) (pa_cons (pv 6) (pa_cons pe_int (pa_cons pe_int pa_nil)))))))))) 
      (pss_one (ps_ret (pe_fld (pv 2) rfl)))))), ?_⟩
    have hb0 : formD d = false → b = false := fun e => by
      rcases rv with ⟨_, h⟩ | ⟨ts, _, h, _⟩
      · exact h
      · rw [e] at h; cases h
    refine ⟨_, rfl, v, d, 1, 8, rfl, hd, fun H1 e1 => ⟨_, rfl, ?_⟩⟩
    cases hsh : shortD d 1 8 with
    | false =>
      have e : b = false := hb0 (by
        cases d with
        | tuple l =>
          have hsh : (decide (1 ≤ l.length) && decide (l.length ≤ 8)) = false := hsh
          show (decide (1 ≤ l.length) && (decide (l.length ≤ 8) && l.all topD)) = false
          rw [← Bool.and_assoc, hsh, Bool.false_and]
        | _ => rfl)
      have q := k H1 e1
      rw [e] at q
      exact itT rfl q
    | true =>
      obtain ⟨ds, rfl⟩ : ∃ ds, d = .tuple ds := by
        cases d with
        | tuple l => exact ⟨l, rfl⟩
        | _ => cases hsh
      have hsh : (decide (1 ≤ ds.length) && decide (ds.length ≤ 8)) = true := hsh
      have hd0 := hd
      obtain ⟨a, xs, rfl, hS, hxs⟩ := dp_tup hd
      have lx := dpa_len hxs
      rw [Bool.and_eq_true] at hsh
      have l8 : ds.length ≤ 8 := of_decide_eq_true hsh.2
      refine itF rfl ?_
      dsimp only [tNot, tTest, tB, tCB, tCons, tNil]
      refine lc_tupV (K := K) (a := a) (xs := xs) (R := fun j v => v = .bl ((fun j => match ds[j]? with | some c => topD c | none => true) j)) (σ := [some (.ref a), none, none, none, none, none, none, none, none, none, none]) (ts := tVar 0) (ev_var rfl) (ex_t e1 hS) (by omega) (fun j x H' hx e Q' kk => ?_) (fun p vs H2 nP e2 hp hvl hR => ?_)
      · obtain ⟨c, hc, hdc⟩ := dpa_getV hxs hx
        exact ⟨_, rfl, x, c, rfl, dp_ex (e1.trans e) hdc, okd_mem ok (List.mem_of_getElem? hc), fun H2 e2 => kk _ H2 e2 (by dsimp only; rw [hc])⟩
      refine all_bools _ ds.length hp (by omega) hR ?_
      rw [range_all ds topD _ (fun j c hc => by rw [hc])]
      refine ⟨_, rfl, ?_⟩
      have eform : formD (.tuple ds) = ds.all topD := by
        show (decide (1 ≤ ds.length) && (decide (ds.length ≤ 8) && ds.all topD)) = _
        rw [hsh.1, hsh.2]
        rfl
      cases hall : ds.all topD with
      | false =>
        have e := hb0 (eform.trans hall)
        have q := k H2 (e1.trans e2)
        rw [e] at q
        exact itT rfl q
      | true =>
        obtain ⟨ts, ed, _, okt, rfl⟩ : ∃ ts : List Tp3, PyData.tuple ds = .tuple (ts.map pEnc) ∧ formD (.tuple ds) = true ∧ (∀ t ∈ ts, okTp t) ∧ b = rightP ts := by
          rcases rv with ⟨h, _⟩ | h
          · rw [eform, hall] at h; cases h
          · exact h
        injection ed with ed
        subst ed
        rw [List.length_map] at l8
        have hw := wP_le ts ok
        have hsz : sizeP ts ≤ 1000000 := by
          have : ∀ l : List Tp3, sizeP l ≤ (l.map fun t => t.2.1.length + wB t.2.2).sum := fun l => by
            induction l with
            | nil => exact Nat.le_refl _
            | cons t l ih =>
              have := sizeB_w t.2.2
              simp only [sizeP] at ih
              simp only [sizeP, List.map_cons, List.sum_cons]
              omega
          exact Nat.le_trans (this ts) hw
        have e12 := e1.trans e2
        refine itF rfl ?_
        let nms : List V := (ts.map (·.1)).map V.str
        -- tops, scoping, plan
        refine ⟨fun σ' H' => ∃ (q so dso tp π : Addr), σ' = [some (.ref a), some (.ref q), some (.ref so), some (.ref π), none, none, none, none, none, none, none] ∧ Ex H H' ∧ H so = none ∧ H' q = some (.lst nms) ∧ H' so = some (.ins (gA mg "Scoping") dso (scpF (.ref tp) true)) ∧ H' tp = some (.lst nms) ∧ PlanOk mg K H H' π ts, ?_, ?_⟩
        · dsimp only [tAsg, tTup, tCons, tNil, tMake]
          refine lc_names (K := K) (Hb := H) (a := a) (xs := xs) (tps := ts) (ts := tVar 0) (σ := [some (.ref a), none, none, none, none, none, none, none, none, none, none]) (i := 4) (j := 9) (ev_var rfl) (by decide) (by show 4 < 11; decide) (ex_t e12 hS) hxs e12 (by omega) fun q H3 nq e3 hq => ?_
          refine lc_names (K := K) (Hb := H) (a := a) (xs := xs) (tps := ts) (ts := tVar 0) (σ := [some (.ref a), none, none, none, none, none, none, none, none, none, none]) (i := 4) (j := 9) (ev_var rfl) (by decide) (by show 4 < 11; decide) (ex_t (e12.trans e3) hS) hxs (e12.trans e3) (by omega) fun tp H4 ntp e4 htp => ?_
          refine fun so dso nso ndso nsd => ⟨so, dso, .ref tp, rfl, upd_same, fun H5 k5 hso => ⟨rfl, ?_⟩⟩
          have e45 : Ex H4 H5 := fun z o hz => by
            have z1 : z ≠ so := ne_of_none hz nso
            have z2 : z ≠ dso := ne_of_none hz ndso
            exact k5 z o (by simp [z1]) (by rw [upd_ne z1, upd_ne z2]; exact hz)
          have e05 := (e12.trans e3).trans (e4.trans e45)
          refine ⟨_, rfl, fun π dπ nπ ndπ nπd => ⟨H, π, dπ, .ref a, ts, rfl, upd_same, exHid (e05.trans ((Ex.new ndπ).trans (Ex.new (by rw [upd_ne nπd.symm]; exact nπ)))) (by simp [fresh_back e05 nπ]), hd0, okt, hsz, by omega, fun H6 k6 po => ⟨rfl, ?_⟩⟩⟩
          have e56 : Ex H5 H6 := fun z o hz => by
            have z1 : z ≠ π := ne_of_none hz nπ
            have z2 : z ≠ dπ := ne_of_none hz ndπ
            exact k6 z o (by simp [z1]) (by rw [upd_ne z1, upd_ne z2]; exact hz)
          refine ⟨sz_of (by simp), fun p hp => ⟨p, _, rfl, st_of upd_same, rfl, _, _, rfl, _, _, rfl, _, _, rfl, rfl, q, so, dso, tp, π, rfl, (e05.trans e56).trans (Ex.new hp), fresh_back ((e12.trans e3).trans e4) nso, ?_, ?_, ?_, po.ex' (Ex.new hp)⟩⟩
          · exact (Ex.new hp) _ _ (e56 _ _ (e45 _ _ (e4 _ _ hq)))
          · exact (Ex.new hp) _ _ (e56 _ _ hso)
          · exact (Ex.new hp) _ _ (e56 _ _ (e45 _ _ htp))
        rintro _ H3 ⟨q, so, dso, tp, π, rfl, e3, nso, hq, hso, htp, po⟩
        have C := T.k_Plan.cls
        have no := T.k_Plan.no
        have cs := T.k_Scoping.cls
        have ns := T.k_Scoping.no
        have hlen : (ts.map (·.1)).length ≤ 1000000 := by rw [List.length_map]; omega
        let σ3 : L2.St := [some (.ref a), some (.ref q), some (.ref so), some (.ref π), none, none, none, none, none, none, none]
        -- unlike tops, main, few points
        refine ⟨fun σ' H' => σ' = σ3 ∧ Ex H3 H' ∧ (ts.map (·.1)).Nodup ∧ (ts.map (·.1)).contains (Str.ofString "main") = true ∧ (ts.map fun t => t.2.2.size).sum ≤ 120, ?_, ?_⟩
        · have bad : ∀ {H'}, Ex H3 H' → rightP ts = false → Q (.bl false) H' := fun e h => by
            have q := k _ (e3.trans e)
            rw [h] at q
            exact q
          refine ⟨_, rfl, q, ts.map (·.1), rfl, sq_of hq, hlen, fun H4 e4 => ⟨_, rfl, ?_⟩⟩
          by_cases hn : (ts.map (·.1)).Nodup
          rotate_left
          · exact itT (by rw [decide_eq_false hn]; rfl) (bad e4 (by rw [rightP, decide_eq_false hn]; rfl))
          refine itF (by rw [decide_eq_true hn]; rfl) ⟨_, rfl, q, _, rfl, .inl (sq_of (e4 _ _ hq)), rfl, flat_strs _, _, rfl, ?_⟩
          have n1 : (!inV (.str "main") ((ts.map (·.1)).map V.str)) = !(ts.map (·.1)).contains (Str.ofString "main") := by rw [inV_strs]
          cases hm : (ts.map (·.1)).contains (Str.ofString "main") with
          | false => exact itT (n1.trans (by rw [hm]; rfl)) (bad e4 (by rw [rightP, hm, Bool.false_and, Bool.and_false]))
          | true =>
            obtain ⟨dx, fs, pp, pd, pts, kvs, hi, lp, lpd, hpp, pa, hpd, hkv⟩ := po.ex
            have lpt := pa.len
            have lsz : (ptsP ts).length = (ts.map fun t => t.2.2.size).sum := by
              have : ∀ l : List Tp3, (ptsP l).length = (l.map fun t => t.2.2.size).sum := fun l => by
                induction l with
                | nil => rfl
                | cons y l ih =>
                  have e : ptsP (y :: l) = (ptsB y.2.2).map (fun d => (d, y.1)) ++ ptsP l := by simp [ptsP]
                  rw [e, List.length_append, List.length_map, ptsB_len, ih]
                  rfl
              exact this ts
            refine itF (n1.trans (by rw [hm]; rfl)) ⟨_, rfl, π, _, dx, fs, _, rfl, e4 _ _ hi, C, no _ (by simp), lp, pp, pts, rfl, .inl (sq_of (e4 _ _ hpp)), _, _, rfl, rfl, _, rfl, ?_⟩
            by_cases h120 : (ts.map fun t => t.2.2.size).sum ≤ 120
            · exact itF (decide_eq_false (by omega)) ⟨rfl, e4, hn, rfl, h120⟩
            · exact itT (decide_eq_true (by omega)) (bad e4 (by rw [rightP, decide_eq_false h120, Bool.false_and, Bool.and_false, Bool.and_false]))
        rintro _ H4 ⟨rfl, e4, hn, hm, h120⟩
        have hq4 := e4 _ _ hq
        have hso4 := e4 _ _ hso
        have htp4 := e4 _ _ htp
        have po4 := po.ex' e4
        have e04 := e3.trans e4
        have nqs : q ≠ so := fun e => by rw [e, hso] at hq; cases hq
        have nts : tp ≠ so := fun e => by rw [e, hso] at htp; cases htp
        have erp : rightP ts = ts.all (rightT (ts.map (·.1))) := by rw [rightP, decide_eq_true hn, hm, decide_eq_true h120]; rfl
        have ebk : ∀ {H'}, Kp [so] H4 H' → Ex H H' := fun k' => (exHid e04 (by simp [nso])).trans (k'.ex.trans hid_ex)
        refine ⟨_, rfl, a, rfl, ⟨xs, ex_t e04 hS⟩, for_tup (K := K) (a := a) (xs := xs) (fun i σ' H' => ∃ (y4 y5 y6 y7 : Option V) (r : Bool), σ' = [some (.ref a), some (.ref q), some (.ref so), some (.ref π), y4, y5, y6, y7, none, none, none] ∧ Kp [so] H4 H' ∧
          H' so = some (.ins (gA mg "Scoping") dso (scpF (.ref tp) r)) ∧ ((ts.take i).all (rightT (ts.map (·.1))) = r)) ⟨none, none, none, none, true, rfl, Kp.refl _, hso4, rfl⟩ (fun i σ' H' _ z => ?_) ?_ ?_⟩
        · obtain ⟨_, _, _, _, _, _, kk, _⟩ := z
          exact ex_t (ebk kk) hS
        · rintro i x σ' H5 hx ⟨y4, y5, y6, y7, r, rfl, k5, hso5, hr5⟩
          obtain ⟨d, hd', hxd⟩ := dpa_getV hxs hx
          rw [List.getElem?_map] at hd'
          obtain ⟨t, ht, rfl⟩ := Option.map_eq_some_iff.mp hd'
          have htm := List.mem_of_getElem? ht
          have et : (ts.take (i + 1)).all (rightT (ts.map (·.1))) = ((ts.take i).all (rightT (ts.map (·.1))) && rightT (ts.map (·.1)) t) := by
            rw [List.take_succ, ht]
            simp
          have bad : ∀ {H'}, Ex H H' → rightT (ts.map (·.1)) t = false → Q (.bl false) H' := fun e h => by
            have q := k _ e
            rw [erp, show ts.all (rightT (ts.map (·.1))) = false by rw [List.all_eq_false]; exact ⟨t, htm, by rw [h]; exact Bool.false_ne_true⟩] at q
            exact q
          have wt1 : t.2.1.length + wB t.2.2 ≤ 1000000 := by
            have : ∀ (l : List Tp3), t ∈ l → t.2.1.length + wB t.2.2 ≤ (l.map fun t => t.2.1.length + wB t.2.2).sum := fun l => by
              induction l with
              | nil => intro h; cases h
              | cons u l ih =>
                intro h
                simp only [List.map_cons, List.sum_cons]
                rcases List.mem_cons.mp h with rfl | h
                · omega
                · have := ih h; omega
            exact Nat.le_trans (this ts htm) hw
          obtain ⟨c, cs', rfl, hc, hcs⟩ := dp_tup hxd
          cases hcs with | cons g0 gr => cases gr with | cons g1 gr => cases gr with | cons g2 gr => cases gr with | nil =>
          obtain rfl := dp_str g0
          obtain ⟨c1, ws, rfl, hc1, hws⟩ := dp_tup g1
          obtain rfl := dpa_strs_eq hws
          obtain ⟨c2, us, rfl, hc2, hus⟩ := dp_tup g2
          have po5 := po4.kpS hso4 k5
          refine ⟨c, _, rfl, ex_t (ebk k5) hc, rfl, _, _, rfl, _, _, rfl, _, _, rfl, rfl, ?_⟩
          let σ5 : V → L2.St := fun p => [some (.ref a), some (.ref q), some (.ref so), some (.ref π), some (.str t.1), some (.ref c1), some (.ref c2), some p, none, none, none]
          refine ⟨fun σ' H' => ∃ p : Addr, σ' = σ5 (.ref p) ∧ Ex H5 H' ∧ H' p = some (.lst ((namesT t).map V.str)), ?_, ?_⟩
          · exact ⟨_, rfl, _, rfl, H, π, ts, t, rfl, ebk k5, po5, hn, htm, okt, wt1, fun p H6 np e6 hp => ⟨p, rfl, e6, hp⟩⟩
          rintro _ H6 ⟨p, rfl, e6, hp6⟩
          have e06 := (ebk k5).trans e6
          have lnm : (namesT t).length ≤ 1000000 := by
            have := bnB_w t.2.2
            rw [namesT, List.length_append]
            omega
          refine ⟨fun σ' H' => σ' = σ5 (.ref p) ∧ Ex H5 H' ∧ (namesT t).Nodup ∧ (namesT t).any (ts.map (·.1)).contains = false, ?_, ?_⟩
          · refine ⟨_, rfl, p, namesT t, rfl, sq_of hp6, lnm, fun H7 e7 => ⟨_, rfl, ?_⟩⟩
            by_cases hnn : (namesT t).Nodup
            rotate_left
            · exact itT (by rw [decide_eq_false hnn]; rfl) (bad (e06.trans e7) (by rw [rightT, decide_eq_false hnn]; rfl))
            refine itF (by rw [decide_eq_true hnn]; rfl) ?_
            dsimp only [tTest, tB, tCB, tCons, tNil]
            refine lc_listV (K := K) (a := p) (xs := (namesT t).map V.str) (R := fun j v => v = .bl ((fun j => match (namesT t)[j]? with | some c => (ts.map (·.1)).contains c | none => false) j)) (σ := σ5 (.ref p)) (ts := tVar 7) (ev_var rfl) (sq_of (e7 _ _ hp6)) (by rw [List.length_map]; exact lnm) (fun j y H8 hy e8 Q' kk => ?_) (fun p2 vs2 H8 np2 e8 hp2 hvl2 hR2 => ?_)
            · rw [List.getElem?_map] at hy
              obtain ⟨nm, hnm, rfl⟩ := Option.map_eq_some_iff.mp hy
              have hq8 : SqL K H8 q ((ts.map (·.1)).map V.str) := sq_of (e8 _ _ (e7 _ _ (e6 _ _ (k5 _ _ (by simp [nqs]) hq4))))
              refine ⟨_, rfl, _, rfl, q, _, rfl, .inl hq8, rfl, flat_strs _, ?_⟩
              refine kk _ H8 (Ex.refl _) ?_
              dsimp only
              rw [hnm]
              exact congrArg V.bl (inV_strs _ _)
            · refine any_bools _ (namesT t).length hp2 (by rw [hvl2, List.length_map]) hR2 ?_
              rw [range_any (namesT t) (ts.map (·.1)).contains _ (fun j c hc => by rw [hc])]
              refine ⟨_, rfl, ?_⟩
              cases han : (namesT t).any (ts.map (·.1)).contains with
              | true => exact itT rfl (bad ((e06.trans e7).trans e8) (by rw [rightT, han]; simp))
              | false => exact itF rfl ⟨rfl, e6.trans (e7.trans e8), hnn, rfl⟩
          rintro _ H7 ⟨rfl, e7, hnn, han⟩
          have k7 : Kp [so] H4 H7 := k5.trans (Kp.of e7)
          have hso7 := e7 _ _ hso5
          have ertt : rightT (ts.map (·.1)) t = scB (ts.map (·.1)) t.2.1 0 0 t.2.2 := by rw [rightT, decide_eq_true hnn, han]; rfl
          have okb := okt t htm
          have eb4 : Ex (hid [so] H4) (hid [so] H7) := k7.ex
          have eh4 : Ex H (hid [so] H4) := exHid e04 (by simp [nso])
          refine ⟨_, rfl, so, dso, _, rfl, hso7, rfl, _, rfl, _, rfl, hid [so] H4, so, dso, tp, c1, c2, r, ts.map (·.1), t.2.1, t.2.2, 0, 0, rfl, eb4, hso7, sq_of (hid_of htp4 (by simp [nts])), .inr (ex_t (eh4.trans eb4) hc1), .tup (ex_t eh4 hc2) (dpa_ex eh4 hus), okb.1, okb.2, wt1, ?_, fun H8 k8 hso8 => ?_⟩
          · have h1 := okd_mem ok (List.mem_map_of_mem (f := pEnc) htm)
            rw [okd_iff] at h1
            have e : wt (pEnc t) = (wt (.str t.1) + ((wts (t.2.1.map PyData.str) + 1) + ((wts t.2.2.encs + 1) + 0))) + 1 := by simp only [pEnc, wt, wts]
            omega
          · exact ⟨_, _, _, _, _, rfl, k7.trans k8, hso8, by rw [et, hr5, ertt]⟩
        · rintro σ' H5 ⟨y4, y5, y6, y7, r, rfl, k5, hso5, hr5⟩
          rw [List.take_of_length_le (by rw [lx, List.length_map]; exact Nat.le_refl _), ← erp] at hr5
          refine ⟨_, rfl, so, _, dso, _, _, rfl, hso5, cs, ns _ (by simp), rfl, ?_⟩
          rw [← hr5]
          exact k _ (ebk k5)
end
end K4

set_option maxHeartbeats 4000000
namespace K4
open PySem L2 Evl DL PJ PG TL
section
variable {P : Program} {w : World} {K : PySem.W.Frag} {mg : Str → Option Value} {base : Heap}
/-! ### the functions asked -/
theorem bd_isprog : BindP "is_program" s_is_program ["value"] := fun _ _ _ _ _ _ us hl => match us, hl with | [_], _ => rfl
theorem bk_isprog : BindK "is_program" s_is_program ["value"] ["value"] fun r => r := fun _ _ _ _ _ _ us hl => match us, hl with | [_], _ => rfl
theorem ok_isprog (T : Txt K mg) : DefOk P w K mg base CX0 false 16 "is_program" s_is_program ["value"] (spIsRight K) := by
  refine T.d_is_program.ok scs_is_program (fun vs H Q E h => ?_) (fun f cdv A outer s H vs Q E hr h => ?_)
  · obtain ⟨v, d, b, rfl, _⟩ := h
    rfl
  · obtain ⟨v, d, b, rfl, hd, ok, rv, k⟩ := h
    exact ⟨_, pss_one (ps_ret (pe_callD (ok_isright T) hr (.inl rfl) bd_isright pass0 (pa_cons (pv 0) pa_nil))), _, rfl, v, d, b, rfl, hd, ok, rv, k⟩
/-- a right program as a value -/
structure RightP (K : PySem.W.Frag) (H : Hp) (v : V) (ts : List Tp3) : Prop where
  dp : Dp K H v (.tuple (ts.map pEnc))
  ok : okd (.tuple (ts.map pEnc)) = true
  rv : RightV (.tuple (ts.map pEnc)) true
  tp : ∀ t ∈ ts, okTp t
  sz : ts.length ≤ 8
def spChk (K : PySem.W.Frag) : Sp := fun vs H Q _ => ∃ (v : V) (ts : List Tp3), vs = [v] ∧ RightP K H v ts ∧ ∀ H', Ex H H' → Q .non H'
theorem bd_chk : BindP "check_program" s_check_program ["value"] := fun _ _ _ _ _ _ us hl => match us, hl with | [_], _ => rfl
theorem ok_chk (T : Txt K mg) : DefOk P w K mg base CX0 false 16 "check_program" s_check_program ["value"] (spChk K) := by
  refine T.d_check_program.ok scs_check_program (fun vs H Q E h => ?_) (fun f cdv A outer s H vs Q E hr h => ?_)
  · obtain ⟨v, ts, rfl, _⟩ := h
    rfl
  · obtain ⟨v, ts, rfl, r, k⟩ := h
    refine ⟨_, pss_one (ps_if (pt_not (pt_val (pe_callD (ok_isright T) hr (.inl rfl) bd_isright pass0 (pa_cons (pv 0) pa_nil)))) (pss_one ps_never) pss_nil), ?_⟩
    exact ⟨_, rfl, v, _, true, rfl, r.dp, r.ok, r.rv, fun H1 e1 => ⟨_, rfl, itF rfl (k H1 e1)⟩⟩
def spTopN (K : PySem.W.Frag) : Sp := fun vs H Q _ => ∃ (v : V) (ts : List Tp3), vs = [v] ∧ Dp K H v (.tuple (ts.map pEnc)) ∧ ts.length ≤ 8 ∧ ∀ p H', H p = none → Ex H H' → H' p = some (.lst ((ts.map (·.1)).map V.str)) → Q (.ref p) H'
theorem bd_topn : BindP "top_names" s_top_names ["program"] := fun _ _ _ _ _ _ us hl => match us, hl with | [_], _ => rfl
theorem ok_topn (T : Txt K mg) : DefOk P w K mg base CX0 false 1 "top_names" s_top_names ["program"] (spTopN K) := by
  refine T.d_top_names.ok scs_top_names (fun vs H Q E h => ?_) (fun f cdv A outer s H vs Q E hr h => ?_)
  · obtain ⟨v, ts, rfl, _⟩ := h
    rfl
  · obtain ⟨v, ts, rfl, hd, hl, k⟩ := h
    have nd := scs_top_names.nd
    refine ⟨_, pss_one (ps_ret (pe_lc (own := [("name", 1), ("_", 2)]) (g := gTup K 3 (gCons (gName 1) (gCons (gName 2) (gCons (gName 2) gNil)))) (tt := tYes) (te := tVar 1) rfl nd (pi_tup (pv 0)) (blkOk_by (N := ["program", "name", "_"]) (sc := defScope s_top_names) (by decide +kernel))
        (fun _ _ _ _ _ => pg_tup rfl (pgs_cons (pg_name (i := 1) nd rfl (.inl rfl)) (pgs_cons (pg_name (i := 2) nd rfl (.inl rfl)) (pgs_cons (pg_name (i := 2) nd rfl (.inl rfl)) pgs_nil)))) (fun _ _ _ _ _ => pts_nil) (fun _ _ _ _ _ => pv 1))), ?_⟩
    obtain ⟨a, xs, rfl, hS, hxs⟩ := dp_tup hd
    dsimp only [tRet]
    exact lc_names (K := K) (Hb := H) (a := a) (xs := xs) (tps := ts) (ts := tVar 0) (σ := [some (.ref a), none, none]) (i := 1) (j := 2) (ev_var rfl) (by decide) (by show 1 < 3; decide) hS hxs (Ex.refl _) (by omega) k
def spTops (K : PySem.W.Frag) : Sp := fun vs H Q _ => ∃ (v : V) (ts : List Tp3), vs = [v] ∧ RightP K H v ts ∧ ∀ u H', Ex H H' → Dp K H' u (.tuple ((ts.map (·.1)).map PyData.str)) → Q u H'
theorem bd_tops : BindP "tops" s_tops ["program"] := fun _ _ _ _ _ _ us hl => match us, hl with | [_], _ => rfl
theorem bk_tops : BindK "tops" s_tops ["program"] ["program"] fun r => r := fun _ _ _ _ _ _ us hl => match us, hl with | [_], _ => rfl
theorem ok_tops (T : Txt K mg) : DefOk P w K mg base CX0 false 17 "tops" s_tops ["program"] (spTops K) := by
  refine T.d_tops.ok scs_tops (fun vs H Q E h => ?_) (fun f cdv A outer s H vs Q E hr h => ?_)
  · obtain ⟨v, ts, rfl, _⟩ := h
    rfl
  · obtain ⟨v, ts, rfl, r, k⟩ := h
    refine ⟨_, pss_cons (ps_expr (pe_callD (ok_chk T) hr (.inl rfl) bd_chk pass0 (pa_cons (pv 0) pa_nil))) (pss_one (ps_ret (pe_callTy call_tuple_of (by rfl) T.b_tuple (by decide +kernel) (pa_cons (pe_callD (ok_topn T) (hr.mono (by decide)) (.inl rfl) bd_topn pass0 (pa_cons (pv 0) pa_nil)) pa_nil)))), ?_⟩
    refine ⟨_, rfl, v, ts, rfl, r, fun H1 e1 => ⟨_, rfl, v, ts, rfl, dp_ex e1 r.dp, r.sz, fun p H2 np e2 hp => ⟨p, _, rfl, .inl ⟨sq_of hp, fun l hl => ?_⟩⟩⟩⟩
    exact k _ _ ((e1.trans e2).trans (Ex.new hl)) (.tup (st_of upd_same) (dpa_strs _))
def spPtn (K : PySem.W.Frag) : Sp := fun vs H Q _ => ∃ (v : V) (ts : List Tp3), vs = [v] ∧ RightP K H v ts ∧ ∀ H', Ex H H' → Q (.int ((ts.map fun t => t.2.2.size).sum : Nat)) H'
theorem bd_ptn : BindP "point_number" s_point_number ["program"] := fun _ _ _ _ _ _ us hl => match us, hl with | [_], _ => rfl
theorem ok_ptn (T : Txt K mg) : DefOk P w K mg base CX0 false 17 "point_number" s_point_number ["program"] (spPtn K) := by
  refine T.d_point_number.ok scs_point_number (fun vs H Q E h => ?_) (fun f cdv A outer s H vs Q E hr h => ?_)
  · obtain ⟨v, ts, rfl, _⟩ := h
    rfl
  · obtain ⟨v, ts, rfl, r, k⟩ := h
    have C := T.k_Plan.cls
    have no := T.k_Plan.no
    refine ⟨_, pss_cons (ps_expr (pe_callD (ok_chk T) hr (.inl rfl) bd_chk pass0 (pa_cons (pv 0) pa_nil))) (pss_one (ps_ret (pe_callB call_len_seq (by rfl) T.b_len PySem.boot_len (pa_cons (pe_fld (C8.pe_mk (ok_plan T) hr (by decide) (by rfl) (pa_cons (pv 0) pa_nil)) rfl) pa_nil)))), ?_⟩
    have hw := wP_le ts r.ok
    have hsz : sizeP ts ≤ 1000000 := by
      have : ∀ l : List Tp3, sizeP l ≤ (l.map fun t => t.2.1.length + wB t.2.2).sum := fun l => by
        induction l with
        | nil => exact Nat.le_refl _
        | cons t l ih =>
          have := sizeB_w t.2.2
          simp only [sizeP] at ih
          simp only [sizeP, List.map_cons, List.sum_cons]
          omega
      exact Nat.le_trans (this ts) hw
    refine ⟨_, rfl, v, ts, rfl, r, fun H1 e1 => ⟨_, rfl, fun π dπ nπ ndπ nπd => ⟨H, π, dπ, v, ts, rfl, upd_same, exHid (e1.trans ((Ex.new ndπ).trans (Ex.new (by rw [upd_ne nπd.symm]; exact nπ)))) (by simp [fresh_back e1 nπ]), r.dp, r.tp, hsz, Nat.le_trans r.sz (by decide), fun H6 k6 po => ⟨rfl, ?_⟩⟩⟩⟩
    obtain ⟨dx, fs, pp, pd, pts, kvs, hi, lp, lpd, hpp, pa, hpd, hkv⟩ := po.ex
    have lpt := pa.len
    have lsz : (ptsP ts).length = (ts.map fun t => t.2.2.size).sum := by
      have : ∀ l : List Tp3, (ptsP l).length = (l.map fun t => t.2.2.size).sum := fun l => by
        induction l with
        | nil => rfl
        | cons y l ih =>
          have e : ptsP (y :: l) = (ptsB y.2.2).map (fun d => (d, y.1)) ++ ptsP l := by simp [ptsP]
          rw [e, List.length_append, List.length_map, ptsB_len, ih]
          rfl
      exact this ts
    have e16 : Ex H1 H6 := fun z o hz => by
      have z1 : z ≠ π := ne_of_none hz nπ
      have z2 : z ≠ dπ := ne_of_none hz ndπ
      exact k6 z o (by simp [z1]) (by rw [upd_ne z1, upd_ne z2]; exact hz)
    refine ⟨π, _, dx, fs, _, rfl, hi, C, no _ (by simp), lp, pp, pts, rfl, .inl (sq_of hpp), ?_⟩
    rw [lpt, lsz]
    exact k H6 (e1.trans e16)
end
end K4

set_option maxHeartbeats 4000000
namespace K4
open PySem L2 Evl DL
section
variable {P : Program} {w : World} {K : PySem.W.Frag} {mg : Str → Option Value} {base : Heap} {CX : CXT}
/-! ### draws -/
def Pail (H : Hp) (p : Addr) : Prop := ∃ a b c : Int, H p = some (.lst [.int a, .int b, .int c])
def spDeal : Sp := fun vs H Q _ => ∃ p top, vs = [.ref p, .int top] ∧ Pail H p ∧ 0 < top ∧ top < 1073741824 ∧
  ∀ k H', 0 ≤ k → k < top → Kp [p] H H' → Pail H' p → Q (.int k) H'
theorem bd_deal : BindP "_law_deal" s_law_deal ["pail", "top"] := fun _ _ _ _ _ _ us hl => match us, hl with | [_, _], _ => rfl
theorem ok_deal (T : Txt K mg) : DefOk P w K mg base CX false 1 "_law_deal" s_law_deal ["pail", "top"] spDeal := by
  refine T.d_law_deal.ok scs_law_deal (fun vs H Q E h => ?_) (fun f cdv A outer s H vs Q E hr h => ?_)
  · obtain ⟨p, top, rfl, _⟩ := h
    rfl
  · obtain ⟨p, top, rfl, ⟨a, b, c, hp⟩, h0, h1, k⟩ := h
    have nd := scs_law_deal.nd
    refine ⟨_, pss_cons (ps_if (pt_cmpR op_gt (pe_ix ix_list (pv 0) pe_int (fun _ _ => rfl)) pe_int (nomark _))
        (pss_cons (ps_asg (pe_callB call_divmodW (by rfl) T.b_divmod (by decide +kernel) (pa_cons (pe_ix ix_list (pv 0) pe_int (fun _ _ => rfl)) (pa_cons (pv 1) pa_nil))) (pg_tup (by rfl) (pgs_cons (pg_sub (pv 0) pe_int set_list) (pgs_cons (pg_name (i := 2) nd rfl (.inl rfl)) pgs_nil))))
        (pss_one (ps_ret (pv 2)))) pss_nil)
      (pss_cons (ps_asg (pe_op op_add (pe_ix ix_list (pv 0) pe_int (fun _ _ => rfl)) pe_int) (pg_sub (pv 0) pe_int set_list))
      (pss_cons (ps_set (i := 3) nd rfl (.inl rfl) (pe_op op_mod (pe_callTy call_int1 (by rfl) T.b_int (by decide +kernel) (pa_cons (pe_op op_add (pe_op op_mul (pe_ix ix_list (pv 0) pe_int (fun _ _ => rfl)) pe_int) (pe_op op_mul pe_int (pe_ix ix_list (pv 0) pe_int (fun _ _ => rfl)))) pa_nil)) pe_int))
      (pss_cons (ps_asg (pe_op op_mod (pe_callTy call_int1 (by rfl) T.b_int (by decide +kernel) (pa_cons (pe_op op_add (pe_op op_mul (pv 3) (pe_op op_add (pe_op op_mod (pe_callTy call_int1 (by rfl) T.b_int (by decide +kernel) (pa_cons (pv 3) pa_nil)) pe_int) pe_int)) (pe_op op_mul pe_int (pe_ix ix_list (pv 0) pe_int (fun _ _ => rfl)))) pa_nil)) pe_int) (pg_sub (pv 0) pe_int set_list))
      (pss_one (ps_ret (pe_op op_mod (pe_callTy call_int1 (by rfl) T.b_int (by decide +kernel) (pa_cons (pe_op op_fdiv (pe_ix ix_list (pv 0) pe_int (fun _ _ => rfl)) pe_int) pa_nil)) (pv 1))))))), ?_⟩
    have at0 : ∀ {x y z : V}, atI [x, y, z] 0 = some x := rfl
    have at1 : ∀ {x y z : V}, atI [x, y, z] 1 = some y := rfl
    have at2 : ∀ {x y z : V}, atI [x, y, z] 2 = some z := rfl
    refine ⟨_, rfl, p, _, 0, _, rfl, rfl, sq_of hp, at0, _, _, rfl, rfl, _, rfl, ?_⟩
    refine ite2 (fun hc => ?_) (fun hc => ?_)
    · -- from the figures
      refine ⟨_, rfl, p, _, 0, _, rfl, rfl, sq_of hp, at0, _, rfl, a, top, rfl, ⟨h0, pylong_small h0 h1⟩, fun q hq => ?_⟩
      have npq : p ≠ q := ne_of_none hp hq
      refine ⟨q, _, rfl, st_of upd_same, rfl, _, _, rfl, ?_⟩
      refine ⟨_, rfl, p, _, 0, 0, rfl, rfl, (by rw [upd_ne npq]; exact hp), rfl, _, _, rfl, rfl, _, rfl, ?_⟩
      refine k _ _ (Int.emod_nonneg _ (by omega)) (Int.emod_lt_of_pos _ h0) ((Kp.new hq).upd (by simp)) ⟨_, _, _, upd_same⟩
    · refine ⟨_, rfl, p, _, 2, _, rfl, rfl, sq_of hp, at2, _, _, rfl, rfl, _, rfl, p, _, 2, 2, rfl, rfl, hp, rfl, ?_⟩
      have h2 : (upd H p (.lst [.int a, .int b, .int (c + 1)])) p = some (.lst [.int a, .int b, .int (c + 1)]) := upd_same
      have m0 : 0 ≤ (b * 14503 + 12007 * (c + 1)) % 2147483489 ∧ (b * 14503 + 12007 * (c + 1)) % 2147483489 < 2147483489 := ⟨Int.emod_nonneg _ (by decide), Int.emod_lt_of_pos _ (by decide)⟩
      have r0 : 0 ≤ (b * 14503 + 12007 * (c + 1)) % 2147483489 % 5147 ∧ (b * 14503 + 12007 * (c + 1)) % 2147483489 % 5147 < 5147 := ⟨Int.emod_nonneg _ (by decide), Int.emod_lt_of_pos _ (by decide)⟩
      refine ⟨_, rfl, p, _, 1, _, rfl, rfl, sq_of h2, at1, _, _, rfl, rfl, .inr (by decide), _, rfl, p, _, 2, _, rfl, rfl, sq_of h2, at2, _, _, rfl, rfl, .inl (by decide), _, _, rfl, rfl, .inl ⟨_, rfl, _, _, rfl, rfl, (by show (0 : Int) < 2147483489; decide), ?_⟩⟩
      refine ⟨_, rfl, _, rfl, .inl ⟨_, rfl, _, _, rfl, rfl, (by show (0 : Int) < 5147; decide), _, _, rfl, rfl, _, _, rfl, rfl, .inl ⟨by omega, by omega⟩, _, rfl, p, _, 2, _, rfl, rfl, sq_of h2, at2, _, _, rfl, rfl, .inl (by decide), _, _, rfl, rfl, .inl ⟨_, rfl, _, _, rfl, rfl, (by show (0 : Int) < 2147483489; decide), ?_⟩⟩⟩
      refine ⟨_, rfl, p, _, 1, 1, rfl, rfl, h2, rfl, ?_⟩
      refine ⟨_, rfl, p, _, 1, _, rfl, rfl, sq_of upd_same, rfl, _, _, rfl, rfl, ⟨by decide, by decide⟩, .inl ⟨_, rfl, _, rfl, _, _, rfl, rfl, h0, ?_⟩⟩
      exact k _ _ (Int.emod_nonneg _ (by omega)) (Int.emod_lt_of_pos _ h0) (((Kp.refl H).upd (by simp)).upd (by simp)) ⟨_, _, _, upd_same⟩

def spAny (K : PySem.W.Frag) : Sp := fun vs H Q _ => ∃ p q xs, vs = [.ref p, .ref q] ∧ Pail H p ∧ q ≠ p ∧ (SqL K H q xs ∨ SqT K H q xs) ∧ 0 < xs.length ∧ xs.length < 1000000 ∧
  ∀ (i : Nat) x H', xs[i]? = some x → Kp [p] H H' → Pail H' p → Q x H'
theorem bd_any : BindP "_law_any" s_law_any ["pail", "some"] := fun _ _ _ _ _ _ us hl => match us, hl with | [_, _], _ => rfl
theorem ok_any (T : Txt K mg) : DefOk P w K mg base CX0 false 2 "_law_any" s_law_any ["pail", "some"] (spAny K) := by
  refine T.d_law_any.ok scs_law_any (fun vs H Q E h => ?_) (fun f cdv A outer s H vs Q E hr h => ?_)
  · obtain ⟨p, top, xs, rfl, _⟩ := h
    rfl
  · obtain ⟨p, q, xs, rfl, hp, hne, hq, h0, h1, k⟩ := h
    refine ⟨_, pss_one (ps_ret (pe_ix (ix_list.or ix_tup) (pv 1) (pe_callD (ok_deal T) hr (.inl rfl) bd_deal pass0 (pa_cons (pv 0) (pa_cons (pe_callB call_len_seq (by rfl) T.b_len PySem.boot_len (pa_cons (pv 1) pa_nil)) pa_nil))) (fun _ _ => rfl))), ?_⟩
    refine ⟨_, rfl, _, rfl, _, rfl, q, xs, rfl, hq, p, (xs.length : Int), rfl, hp, by omega, by omega, fun j H1 j0 j1 kp hp1 => ?_⟩
    have hn : q ∉ ([p] : List Addr) := by simpa using hne
    obtain ⟨n, rfl⟩ : ∃ n : Nat, j = (n : Int) := ⟨j.toNat, by omega⟩
    have hlt : n < xs.length := by omega
    have hx : xs[n]? = some xs[n] := List.getElem?_eq_getElem hlt
    rcases hq with hq | hq
    · exact .inl ⟨q, xs, _, _, rfl, rfl, kp_l kp hn hq, atI_nat hx, k n _ H1 hx kp hp1⟩
    · exact .inr ⟨q, xs, _, _, rfl, rfl, kp_t kp hn hq, atI_nat hx, k n _ H1 hx kp hp1⟩
def spPail (K : PySem.W.Frag) : Sp := fun vs H Q _ => ∃ (a : Addr) (ns : List Int) (t : Nat), vs = [.ref a, .int (t : Int)] ∧ SqL K H a (ns.map V.int) ∧ ns.length ≤ 1000 ∧
  ∀ p H', H p = none → Ex H H' → Pail H' p → Q (.ref p) H'
theorem bd_pail : BindP "_law_pail" s_law_pail ["script", "turn"] := fun _ _ _ _ _ _ us hl => match us, hl with | [_, _], _ => rfl
theorem ok_pail (T : Txt K mg) : DefOk P w K mg base CX0 false 1 "_law_pail" s_law_pail ["script", "turn"] (spPail K) := by
  refine T.d_law_pail.ok scs_law_pail (fun vs H Q E h => ?_) (fun f cdv A outer s H vs Q E hr h => ?_)
  · obtain ⟨a, ns, t, rfl, _⟩ := h
    rfl
  · obtain ⟨a, ns, t, rfl, hS, hlen, k⟩ := h
    have nd := scs_law_pail.nd
    refine ⟨_, pss_cons (ps_set (i := 2) nd rfl (.inl rfl) (pe_op op_add pe_int (pe_op op_mul pe_int (pv 1))))
      (pss_cons (ps_for PassesOwn.never rfl (pi_list (pe_slice sl_list (pv 0) po_none (po_some pe_int))) (pg_name (i := 3) nd rfl (.inl rfl))
        (pss_one (ps_set (i := 2) nd rfl (.inl rfl) (pe_op op_mod (pe_callTy call_int1 (by rfl) T.b_int (by decide +kernel) (pa_cons (pe_op op_add (pe_op op_add (pe_op op_mul (pv 2) pe_int) (pe_op op_mul (pe_op op_mod (pe_callTy call_int1 (by rfl) T.b_int (by decide +kernel) (pa_cons (pv 3) pa_nil)) pe_int) pe_int)) pe_int) pa_nil)) pe_int))))
      (pss_cons (ps_set (i := 4) nd rfl (.inl rfl) (pe_ifExp (pt_cmpR op_lt (pv 1) (pe_callB call_len_seq (by rfl) T.b_len PySem.boot_len (pa_cons (pv 0) pa_nil)) (nomark _)) (pe_callTy call_int1 (by rfl) T.b_int (by decide +kernel) (pa_cons (pe_ix ix_list (pv 0) (pv 1) (fun _ _ => rfl)) pa_nil)) pe_int))
      (pss_cons (ps_set (i := 2) nd rfl (.inl rfl) (pe_op op_mod (pe_callTy call_int1 (by rfl) T.b_int (by decide +kernel) (pa_cons (pe_op op_add (pe_op op_add (pe_op op_mul (pv 2) pe_int) (pe_op op_mul (pe_op op_mod (pv 4) pe_int) pe_int)) pe_int) pa_nil)) pe_int))
      (pss_one (ps_ret (pe_lst (pa_cons (pe_ifExp (PW.pt (pw_or (pt_cmpR op_lt (pv 4) pe_int (nomark _)) (pw_or1 (pt_cmpR op_ge (pv 4) (pe_op op_pow pe_int pe_int) (nomark _))))) (pe_callB call_abs (by rfl) T.b_abs (by decide +kernel) (pa_cons (pv 4) pa_nil)) pe_int) (pa_cons (pv 2) (pa_cons pe_int pa_nil))))))))), ?_⟩
    refine ⟨_, rfl, _, _, rfl, rfl, .inl (by decide), _, _, rfl, rfl, ?_⟩
    refine ⟨_, rfl, _, rfl, a, _, rfl, hS, fun c hc => ⟨c, rfl, ⟨_, sq_of upd_same⟩, ?_⟩⟩
    have e1 : Ex H (upd H c (.lst (cutV (ns.map V.int) none (some 12)))) := Ex.new hc
    refine for_list (K := K) (a := c) (xs := cutV (ns.map V.int) none (some 12)) (fun i σ H' => ∃ (m : Int) (y : Option V), σ = [some (.ref a), some (.int (t : Int)), some (.int m), y, none] ∧ Ex (upd H c (.lst (cutV (ns.map V.int) none (some 12)))) H')
      ⟨_, none, rfl, Ex.refl _⟩ (fun i σ H' _ z => ?_) ?_ ?_
    · obtain ⟨m, y, _, e⟩ := z
      exact ex_l e (sq_of upd_same)
    · rintro i y σ H' hi ⟨m, y', rfl, e⟩
      have hy : y ∈ ns.map V.int := by
        have hm := List.mem_of_getElem? hi
        unfold cutV at hm
        exact List.mem_of_mem_drop (List.mem_of_mem_take hm)
      obtain ⟨z, _, rfl⟩ := List.mem_map.mp hy
      refine ⟨_, rfl, _, _, rfl, rfl, .inr (by decide), _, rfl, .inl ⟨_, rfl, _, _, rfl, rfl, (by show (0 : Int) < 2147483489; decide), _, _, rfl, rfl, .inr (by decide), _, _, rfl, rfl, _, _, rfl, rfl, .inl ⟨_, rfl, _, _, rfl, rfl, (by show (0 : Int) < 2147483489; decide), ?_⟩⟩⟩
      exact ⟨_, _, rfl, e⟩
    · rintro σ H' ⟨m, y', rfl, e⟩
      have hS' : SqL K H' a (ns.map V.int) := ex_l (e1.trans e) hS
      have tail : ∀ own : Int, (tSeq (tAsg (tOp (rI (fun _ j => 0 < j) fun i j => .int (i % j)) (tCB (fun xs H Q => (∃ i, xs = [.int i] ∧ Q (.int i) H) ∨ ∃ k, xs = [.bl k] ∧ Q (.int (if k then 1 else 0)) H) (tCons (tOp (rI0 fun i j => .int (i + j)) (tOp (rI0 fun i j => .int (i + j)) (tOp (rI CMul fun i j => .int (i * j)) (tVar 2) (tC (.int 89))) (tOp (rI CMul fun i j => .int (i * j)) (tOp (rI (fun _ j => 0 < j) fun i j => .int (i % j)) (tVar 4) (tC (.int 2147483489))) (tC (.int 77017)))) (tC (.int 11))) tNil)) (tC (.int 2147483489))) (gName 2))
          (tRet (tLst (tCons (tIf (tOr (tTest (tOp (rI0 fun i j => .bl (decide (i < j))) (tVar 4) (tC (.int 0)))) (tTest (tOp (rI0 fun i j => .bl (decide (j ≤ i))) (tVar 4) (tOp (rI CPow fun i j => .int (i ^ j.toNat)) (tC (.int 10)) (tC (.int 15)))))) (tCB (fun xs H Q => ∃ i, xs = [.int i] ∧ Q (.int (if i < 0 then -i else i)) H) (tCons (tVar 4) tNil)) (tC (.int 0))) (tCons (tVar 2) (tCons (tC (.int 0)) tNil))))))
          { nx := fun _ H' => Q .non H', rt := Q } [some (.ref a), some (.int (t : Int)), some (.int m), y', some (.int own)] H' := by
        intro own
        refine ⟨_, rfl, _, _, rfl, rfl, .inr (by decide), _, rfl, _, _, rfl, rfl, (by show (0 : Int) < 2147483489; decide), _, _, rfl, rfl, .inr (by decide), _, _, rfl, rfl, _, _, rfl, rfl, .inl ⟨_, rfl, _, _, rfl, rfl, (by show (0 : Int) < 2147483489; decide), ?_⟩⟩
        have fin : ∀ x z : Int, (Nat.succ 2) ≤ sizeLine ∧ ∀ p, H' p = none → Q (.ref p) (upd H' p (.lst [.int x, .int z, .int 0])) := fun x z => ⟨by decide, fun p hp => k p _ (fresh_back (e1.trans e) hp) ((e1.trans e).trans (Ex.new hp)) ⟨_, _, _, upd_same⟩⟩
        refine ⟨_, rfl, _, _, rfl, rfl, _, rfl, ite2 (fun _ => ?_) (fun _ => ?_)⟩
        · exact ⟨_, rfl, _, rfl, _, rfl, fin _ _⟩
        · refine ⟨_, rfl, _, _, rfl, rfl, ⟨by decide, by decide, by decide⟩, _, _, rfl, rfl, _, rfl, ite2 (fun _ => ?_) (fun _ => ?_)⟩
          · exact ⟨_, rfl, _, rfl, _, rfl, fin _ _⟩
          · exact ⟨_, rfl, fin _ _⟩
      refine ⟨_, rfl, _, rfl, a, _, rfl, .inl hS', _, _, rfl, rfl, _, rfl, ite2 (fun hc => ?_) (fun _ => ?_)⟩
      · have hlt : t < (ns.map V.int).length := by
          have : (t : Int) < ((ns.map V.int).length : Int) := of_decide_eq_true hc
          omega
        have hx : (ns.map V.int)[t]? = some (.int (ns[t]'(by simpa using hlt))) := by
          rw [List.getElem?_map, List.getElem?_eq_getElem (by simpa using hlt)]
          rfl
        exact ⟨_, rfl, _, rfl, a, _, _, _, rfl, rfl, hS', atI_nat hx, .inl ⟨_, rfl, tail _⟩⟩
      · exact tail 0
end
end K4

set_option maxHeartbeats 4000000
namespace PG
open PySem L2 Evl DL TL
def At.val : At → V
  | .num n => .int n
  | .nm x => .str x
theorem dp_at {K : PySem.W.Frag} {H : Hp} : ∀ a : At, Dp K H a.val a.enc
  | .num n => .int n
  | .nm x => .str x
theorem dpa_ats {K : PySem.W.Frag} {H : Hp} : ∀ xs : List At, DpAll K H (xs.map At.val) (xs.map At.enc)
  | [] => .nil
  | a :: r => .cons (dp_at a) (dpa_ats r)
/-- what is free behind was free ahead -/
theorem fresh_kp {H H' : Hp} {p b q : Addr} {o : HO} (k : Kp [p, b] H H') (hp : K4.Pail H p) (hb : H b = some o) (h : H' q = none) (n : q ∉ [p, b]) : H q = none := by
  cases e : H q with
  | none => rfl
  | some u => rw [k q u n e] at h; cases h
theorem any_atom {scs : List Str} {ns : List Int} (hn : ∀ n ∈ ns, 0 ≤ n ∧ n ≤ 7) {i : Nat} {x : V} (h : (scs.map V.str ++ ns.map V.int)[i]? = some x) : ∃ a : At, okA scs a ∧ x = a.val := by
  rcases List.mem_append.mp (List.mem_of_getElem? h) with m | m
  · obtain ⟨y, hy, rfl⟩ := List.mem_map.mp m
    exact ⟨.nm y, hy, rfl⟩
  · obtain ⟨n, hm, rfl⟩ := List.mem_map.mp m
    exact ⟨.num n, hn n hm, rfl⟩
theorem any_str {ws : List Str} {i : Nat} {x : V} (h : (ws.map V.str)[i]? = some x) : ∃ w ∈ ws, x = .str w := by
  obtain ⟨y, hy, e⟩ := List.mem_map.mp (List.mem_of_getElem? h)
  exact ⟨y, hy, e.symm⟩
/-- the world of the draws: pail, box, the names in scope -/
structure DW (H : Hp) (p b s : Addr) (scs : List Str) (n : Nat) : Prop where
  pail : K4.Pail H p
  box : H b = some (.lst [.int (n : Int)])
  sc : H s = some (.lst (scs.map V.str))
  pb : p ≠ b
  sp : s ≠ p
  sb : s ≠ b
theorem DW.step {H H' : Hp} {p b s : Addr} {scs : List Str} {n n' : Nat} (W : DW H p b s scs n) (k : Kp [p, b] H H') (hp : K4.Pail H' p) (hb : H' b = some (.lst [.int (n' : Int)])) : DW H' p b s scs n' :=
  ⟨hp, hb, k s _ (by simp [W.sp, W.sb]) W.sc, W.pb, W.sp, W.sb⟩
/-- a step that leaves the box -/
theorem DW.keep {H H' : Hp} {p b s : Addr} {scs : List Str} {n : Nat} (W : DW H p b s scs n) (k : Kp [p] H H') (hp : K4.Pail H' p) : DW H' p b s scs n :=
  W.step (k.mono (by simp)) hp (k b _ (by simpa using W.pb.symm) W.box)
/-- a new thing -/
theorem DW.new {H : Hp} {p b s q : Addr} {o : HO} {scs : List Str} {n : Nat} (W : DW H p b s scs n) (hq : H q = none) : DW (upd H q o) p b s scs n := by
  obtain ⟨x, y, z, hp⟩ := W.pail
  exact W.keep (Kp.new hq) ⟨x, y, z, by rw [upd_ne (ne_of_none hp hq)]; exact hp⟩
/-- another scope -/
theorem DW.other {H : Hp} {p b s s' : Addr} {scs scs' : List Str} {n : Nat} (W : DW H p b s scs n) (h : H s' = some (.lst (scs'.map V.str))) (h1 : s' ≠ p) (h2 : s' ≠ b) : DW H p b s' scs' n := ⟨W.pail, W.box, h, W.pb, h1, h2⟩
theorem DW.nep {H : Hp} {p b s q : Addr} {scs : List Str} {n : Nat} (W : DW H p b s scs n) (hq : H q = none) : q ≠ p ∧ q ≠ b ∧ q ≠ s ∧ q ∉ [p, b] := by
  obtain ⟨x, y, z, hp⟩ := W.pail
  have h1 := ne_of_none hp hq
  have h2 := ne_of_none W.box hq
  have h3 := ne_of_none W.sc hq
  exact ⟨h1.symm, h2.symm, h3.symm, by simp [h1.symm, h2.symm]⟩
theorem DW.mut {H : Hp} {p b s q : Addr} {o : HO} {scs : List Str} {n : Nat} (W : DW H p b s scs n) (h1 : q ≠ p) (h2 : q ≠ b) (h3 : q ≠ s) : DW (upd H q o) p b s scs n := by
  obtain ⟨x, y, z, hp⟩ := W.pail
  exact ⟨⟨x, y, z, by rw [upd_ne h1.symm]; exact hp⟩, by rw [upd_ne h2.symm]; exact W.box, by rw [upd_ne h3.symm]; exact W.sc, W.pb, W.sp, W.sb⟩
theorem DW.boxed {H : Hp} {p b s : Addr} {scs : List Str} {n n' : Nat} (W : DW H p b s scs n) : DW (upd H b (.lst [.int (n' : Int)])) p b s scs n' := by
  obtain ⟨x, y, z, hp⟩ := W.pail
  exact ⟨⟨x, y, z, by rw [upd_ne W.pb]; exact hp⟩, upd_same, by rw [upd_ne W.sb]; exact W.sc, W.pb, W.sp, W.sb⟩
/-- box[0] = box[0] + 1 -/
theorem box_succ (n : Nat) : HO.lst (([.int ((n : Nat) : Int)] : List V).set 0 (.int (((n : Nat) : Int) + 1))) = HO.lst [.int ((n + 1 : Nat) : Int)] := rfl
/-- a new tuple of data -/
theorem DW.tup {K : PySem.W.Frag} {H : Hp} {p b s q : Addr} {scs : List Str} {n : Nat} {vs : List V} {ds : List PyData} (W : DW H p b s scs n) (hq : H q = none) (hd : DpAll K (tp H) vs ds) :
    Dp K (tp (upd H q (.tup vs))) (.ref q) (.tuple ds) :=
  .tup (st_of (tp_of upd_same)) (dpa_ex (Tp.new hq).ex hd)
theorem DW.tpk {H H' : Hp} {p b s : Addr} {scs : List Str} {n : Nat} (W : DW H p b s scs n) (k : Kp [p, b] H H') : Tp H H' := k.tp fun a h => by
  obtain ⟨x, y, z, hp⟩ := W.pail
  rcases List.mem_cons.mp h with h | h
  · exact ⟨_, h ▸ hp⟩
  · exact ⟨_, (List.mem_singleton.mp h) ▸ W.box⟩
theorem sz1 {n : Nat} (h : n ≤ 5000) : n ≤ sizeLine := Nat.le_trans h (by decide)
theorem num_log {n : Nat} (h : n < 10000000000) : ((n : Nat) : Int).natAbs.log2 < 1920 := by
  have e : ((n : Nat) : Int).natAbs = n := by omega
  rw [e]
  cases n with
  | zero => decide
  | succ m => exact (Nat.log2_lt (by omega)).mpr (Nat.lt_of_lt_of_le h (by decide))
theorem num_len {n : Nat} (h : n < 10000000000) : (Str.ofString (toString ((n : Nat) : Int))).length ≤ 10 := by
  rw [len_tl, tl_num]
  exact numL_len (by decide) h
theorem nPs_succ (k n : Nat) : nPs k (n + 1) = nPs k n ++ [nP (k + 1 + n)] := by
  unfold nPs
  rw [List.range_succ, List.map_append]
  rfl
theorem nPs_len (k n : Nat) : (nPs k n).length = n := by unfold nPs; simp
def LR (dp : Nat) : Nat := 1000000000 - 1000000 * (3 * dp) + 500000
def LB (dp mo : Nat) : Nat := 1000000000 - 1000000 * (3 * dp + mo)
end PG
namespace K4
open PySem L2 Evl DL PG
section
variable {P : Program} {w : World} {K : PySem.W.Frag} {mg : Str → Option Value} {base : Heap}
def spRight (K : PySem.W.Frag) (dp : Nat) : Sp := fun vs H Q _ => ∃ p b s scs n, vs = [.ref p, .ref b, .ref s, .int (dp : Int)] ∧ DW H p b s scs n ∧ dp ≤ 2 ∧ scs.length + 100 * (3 * dp) ≤ 1050 ∧ n ≤ LR dp ∧
  ∀ r n' v H', okR scs n dp r n' → Kp [p, b] H H' → Pail H' p → H' b = some (.lst [.int (n' : Nat)]) → Dp K (tp H') v r.enc → Q v H'
def spBody (K : PySem.W.Frag) (dp mo : Nat) : Sp := fun vs H Q _ => ∃ p b s scs n, vs = [.ref p, .ref b, .ref s, .int (dp : Int), .int (mo : Int)] ∧ DW H p b s scs n ∧ dp ≤ 2 ∧ mo ≤ 2 ∧ scs.length + 100 * (3 * dp + mo) ≤ 1000 ∧ n ≤ LB dp mo ∧
  ∀ r n' v H', okB scs n dp mo 4 r n' → Kp [p, b] H H' → Pail H' p → H' b = some (.lst [.int (n' : Nat)]) → Dp K (tp H') v (.tuple r.encs) → Q v H'
theorem bd_right : BindP "_law_drawn_right" s_law_drawn_right ["pail", "box", "scope", "deep"] := fun _ _ _ _ _ _ us hl => match us, hl with | [_, _, _, _], _ => rfl
theorem bd_body : BindP "_law_drawn_body" s_law_drawn_body ["pail", "box", "scope", "deep", "most"] := fun _ _ _ _ _ _ us hl => match us, hl with | [_, _, _, _, _], _ => rfl
/-- [a, b, c] of texts -/
theorem ok_right (T : Txt K mg) {k dp : Nat} (hk : 2 ≤ k) (hB : ∀ dq, dp = dq + 1 → DefOk P w K mg base CX0 false k "_law_drawn_body" s_law_drawn_body ["pail", "box", "scope", "deep", "most"] (spBody K dq 1)) :
    DefOk P w K mg base CX0 false (k + 1) "_law_drawn_right" s_law_drawn_right ["pail", "box", "scope", "deep"] (spRight K dp) := by
  have hB' : ∃ spB : Sp, DefOk P w K mg base CX0 false k "_law_drawn_body" s_law_drawn_body ["pail", "box", "scope", "deep", "most"] spB ∧ ∀ dq, dp = dq + 1 → spB = spBody K dq 1 := by
    cases dp with
    | zero =>
      obtain ⟨f, fd, F, hm⟩ := T.d_law_drawn_body.ex
      exact ⟨fun _ _ _ _ => False, ⟨f, fd, F, hm, ⟨fun _ _ _ _ h => h.elim, fun _ _ _ _ _ _ _ _ _ _ _ _ _ h => h.elim⟩⟩, fun dq h => nomatch h⟩
    | succ dq => exact ⟨_, hB dq rfl, fun dr h => by cases h; rfl⟩
  obtain ⟨spB, DB, hspB⟩ := hB'
  refine T.d_law_drawn_right.ok scs_law_drawn_right (fun vs H Q E h => ?_) (fun f cdv A outer s0 H vs Q E hr h => ?_)
  · obtain ⟨p, b, s, scs, n, rfl, _⟩ := h
    rfl
  · obtain ⟨p, b, s, scs, n, rfl, W, hdp, hsc, hn, kk⟩ := h
    have nd := scs_law_drawn_right.nd
    have hr1 : Room 1 _ := hr.mono (by omega)
    have hr2 : Room 2 _ := hr.mono hk
    refine ⟨_, pss_cut (ps_asg (pe_tup (pa_cons (pe_callD (ok_deal T) hr1 (.inl rfl) bd_deal pass0 (pa_cons (pv 0) (pa_cons pe_int pa_nil))) (pa_cons (pe_op op_cat (pv 2) (pe_lst (pa_cons pe_int (pa_cons pe_int (pa_cons pe_int pa_nil))))) pa_nil)))
        (pg_tup (by rfl) (pgs_cons (pg_name (i := 4) nd rfl (.inl rfl)) (pgs_cons (pg_name (i := 5) nd rfl (.inr rfl)) pgs_nil))))
      (pss_cut (ps_par (i := 6) (j := 7) (by rfl) nd rfl rfl (by decide) rfl rfl (pa_cons (pe_callD (ok_any T) hr2 (.inl rfl) bd_any pass0 (pa_cons (pv 0) (pa_cons (pv 5) pa_nil))) (pa_cons (pe_callD (ok_any T) hr2 (.inl rfl) bd_any pass0 (pa_cons (pv 0) (pa_cons (pv 5) pa_nil))) pa_nil)) (by rfl))
      (pss_cons (ps_if (pt_cmpR op_lt (pv 4) pe_int (nomark _)) (pss_one (ps_ret (pe_tup (pa_cons (pe_callD (ok_any T) hr2 (.inl rfl) bd_any pass0 (pa_cons (pv 0) (pa_cons (pe_lst (pa_cons pe_str (pa_cons pe_str (pa_cons pe_str (pa_cons pe_str (pa_cons pe_str pa_nil)))))) pa_nil))) (pa_cons (pv 6) (pa_cons (pv 7) pa_nil)))))) pss_nil)
      (pss_cons (ps_if (pt_cmpR op_lt (pv 4) pe_int (nomark _)) (pss_one (ps_ret (pe_tup (pa_cons pe_str (pa_cons (pv 6) (pa_cons (pv 7) pa_nil)))))) pss_nil)
      (pss_cons (ps_if (pt_cmpR op_lt (pv 4) pe_int (nomark _)) (pss_one (ps_ret (pe_tup (pa_cons (pe_callD (ok_any T) hr2 (.inl rfl) bd_any pass0 (pa_cons (pv 0) (pa_cons (pe_lst (pa_cons pe_str (pa_cons pe_str (pa_cons pe_str pa_nil)))) pa_nil))) (pa_cons (pv 6) pa_nil))))) pss_nil)
      (pss_cut (ps_if (PW.pt (pw_and (pt_cmpR op_lt (pv 4) pe_int (nomark _)) (pw_and1 (pt_cmpR op_gt (pv 3) pe_int (nomark _)))))
        (pss_cons (ps_set (i := 8) nd rfl (.inl rfl) (pe_lst pa_nil))
        (pss_cons (ps_for PassesOwn.never rfl (pi_range1 (by rfl) T.b_range (pa_cons (pe_callD (ok_deal T) hr1 (.inl rfl) bd_deal pass0 (pa_cons (pv 0) (pa_cons pe_int pa_nil))) pa_nil)) (pg_name (i := 9) nd rfl (.inl rfl))
          (pss_cons (ps_asg (pe_op op_add (pe_ix ix_list (pv 1) pe_int (fun _ _ => rfl)) pe_int) (pg_sub (pv 1) pe_int set_list))
          (pss_one (ps_expr (pe_bm PySem.F.plainAttrs_list PySem.F.slot_list_append PySem.F.type_list_append mt_append (pv 8) (pa_cons (pe_op op_add_str pe_str (pe_callTy call_str_int (by rfl) T.b_str (by decide +kernel) (pa_cons (pe_ix ix_list (pv 1) pe_int (fun _ _ => rfl)) pa_nil))) pa_nil))))))
        (pss_cons (ps_set (i := 10) nd rfl (.inl rfl) (pe_callD DB hr (.inl rfl) bd_body pass0 (pa_cons (pv 0) (pa_cons (pv 1) (pa_cons (pe_op op_cat (pv 2) (pv 8)) (pa_cons (pe_op op_sub (pv 3) pe_int) (pa_cons pe_int pa_nil)))))))
        (pss_one (ps_ret (pe_tup (pa_cons pe_str (pa_cons (pe_callTy call_tuple_of (by rfl) T.b_tuple (by decide +kernel) (pa_cons (pv 8) pa_nil)) (pa_cons (pv 10) pa_nil))))))))) pss_nil)
      (pss_cons (ps_if (pt_cmpR op_lt (pv 4) pe_int (nomark _))
        (pss_cons (ps_set (i := 11) nd rfl (.inl rfl) (pe_callD (ok_any T) hr2 (.inl rfl) bd_any pass0 (pa_cons (pv 0) (pa_cons (pe_op op_cat (pe_lst (pa_cons pe_str (pa_cons pe_str pa_nil))) (pv 2)) pa_nil))))
        (pss_one (ps_ret (pe_tup (pa_cons pe_str (pa_cons (pv 11) (pa_cons (pe_callTy call_tuple_of (by rfl) T.b_tuple (by decide +kernel) (pa_cons
          (pe_lc (own := [("k", 9)]) (g := gName 9) (tt := tYes) rfl nd (pi_range1 (by rfl) T.b_range (pa_cons (pe_callD (ok_any T) hr2 (.inl rfl) bd_any pass0 (pa_cons (pv 0) (pa_cons (pe_lst (pa_cons pe_int (pa_cons pe_int (pa_cons pe_int (pa_cons pe_int pa_nil))))) pa_nil))) pa_nil))
            (blkOk_by (N := ["pail", "box", "scope", "deep", "sort", "some", "one", "two", "params", "k", "body", "called"]) (sc := defScope s_law_drawn_right) (by decide +kernel)) (fun _ _ _ _ _ => pg_name (i := 9) nd rfl (Or.inl rfl)) (fun _ _ _ _ _ => pts_nil)
            (fun _ _ _ _ _ => pe_callD (ok_any T) hr2 (.inl rfl) bd_any pass0 (pa_cons (pv 0) (pa_cons (pv 5) pa_nil)))) pa_nil)) pa_nil))))))) pss_nil)
      (pss_one (ps_ret (pe_tup (pa_cons pe_str (pa_cons (pv 6) pa_nil))))))))))), ?_⟩
    -- sort, some
    refine ⟨fun σ' H' => ∃ (sort : Int) (m : Addr), σ' = [some (.ref p), some (.ref b), some (.ref s), some (.int (dp : Int)), some (.int sort), some (.ref m), none, none, none, none, none, none] ∧
      Kp [p, b] H H' ∧ DW H' p b s scs n ∧ H' m = some (.lst (scs.map V.str ++ ([0, 1, 3] : List Int).map V.int)) ∧ m ≠ p ∧ m ≠ b, ?_, ?_⟩
    · refine ⟨_, rfl, p, 14, rfl, W.pail, by decide, by decide, fun sort H1 _ _ k1 P1 => ?_⟩
      have W1 := W.keep k1 P1
      refine ⟨_, rfl, sz1 (by simp), fun l hl => ⟨s, l, _, _, rfl, rfl, (W1.new hl).sc, upd_same, sz1 (by simp; omega), fun m hm => ⟨sz1 (by simp), fun t ht => ⟨t, _, rfl, st_of upd_same, rfl, _, _, rfl, _, _, rfl, rfl, ?_⟩⟩⟩⟩
      have W3 := (W1.new (o := .lst [.int 0, .int 1, .int 3]) hl).new (o := .lst (scs.map V.str ++ [.int 0, .int 1, .int 3])) hm
      have nm := (W1.new (o := .lst [.int 0, .int 1, .int 3]) hl).nep hm
      have tm : m ≠ t := ne_of_none (upd_same) ht
      exact ⟨sort, m, rfl, ((k1.mono (by simp)).trans (Kp.new hl)).trans ((Kp.new hm).trans (Kp.new ht)), W3.new ht, by rw [upd_ne tm, upd_same]; rfl, nm.1, nm.2.1⟩
    rintro σ H1 ⟨sort, m, rfl, k1, W1, hm, mp, mb⟩
    have hlen : (scs.map V.str ++ ([0, 1, 3] : List Int).map V.int).length < 1000000 := by simp; omega
    have hpos : 0 < (scs.map V.str ++ ([0, 1, 3] : List Int).map V.int).length := by simp
    have hns : ∀ n ∈ ([0, 1, 3] : List Int), 0 ≤ n ∧ n ≤ 7 := by decide
    -- one, two
    refine ⟨fun σ' H' => ∃ one two : At, okA scs one ∧ okA scs two ∧ σ' = [some (.ref p), some (.ref b), some (.ref s), some (.int (dp : Int)), some (.int sort), some (.ref m), some one.val, some two.val, none, none, none, none] ∧
      Kp [p, b] H H' ∧ DW H' p b s scs n ∧ H' m = some (.lst (scs.map V.str ++ ([0, 1, 3] : List Int).map V.int)), ?_, ?_⟩
    · refine ⟨_, rfl, _, rfl, p, m, _, rfl, W1.pail, mp, .inl (sq_of hm), hpos, hlen, fun i x H2 hx k2 P2 => ?_⟩
      have W2 := W1.keep k2 P2
      have hm2 := k2 m _ (by simpa using mp) hm
      refine ⟨_, rfl, _, rfl, p, m, _, rfl, W2.pail, mp, .inl (sq_of hm2), hpos, hlen, fun j y H3 hy k3 P3 => ?_⟩
      obtain ⟨one, o1, rfl⟩ := any_atom hns hx
      obtain ⟨two, o2, rfl⟩ := any_atom hns hy
      exact ⟨_, _, rfl, one, two, o1, o2, rfl, k1.trans ((k2.mono (by simp)).trans (k3.mono (by simp))), W2.keep k3 P3, k3 m _ (by simpa using mp) hm2⟩
    rintro σ H2 ⟨one, two, o1, o2, rfl, k2, W2, hm2⟩
    -- an operation
    refine ⟨_, rfl, _, _, rfl, rfl, _, rfl, ite2 (fun _ => ?_) (fun _ => ?_)⟩
    · refine ⟨_, rfl, sz1 (by simp), fun l hl => ⟨p, l, _, rfl, (W2.new hl).pail, (W2.nep hl).1, .inl (sq_of upd_same), by simp, by simp, fun i x H3 hx k3 P3 => ?_⟩⟩
      have W3 := (W2.new hl).keep k3 P3
      obtain ⟨w, hw, rfl⟩ := any_str (ws := wOps) hx
      refine ⟨_, rfl, _, rfl, sz1 (by simp), fun t ht => kk (.two w one two) n _ _ (okR_two (List.mem_append_left _ hw) o1 o2) ((k2.trans ((Kp.new hl).trans (k3.mono (by simp)))).trans (Kp.new ht)) (W3.new ht).pail (W3.new ht).box (W3.tup ht (.cons (.str w) (.cons (dp_at one) (.cons (dp_at two) .nil))))⟩
    -- a pair
    refine ⟨_, rfl, _, _, rfl, rfl, _, rfl, ite2 (fun _ => ?_) (fun _ => ?_)⟩
    · refine ⟨_, rfl, _, rfl, sz1 (by simp), fun t ht => kk (.two "pair" one two) n _ _ (okR_two (by unfold wTwo; simp) o1 o2) (k2.trans (Kp.new ht)) (W2.new ht).pail (W2.new ht).box (W2.tup ht (.cons (.str "pair") (.cons (dp_at one) (.cons (dp_at two) .nil))))⟩
    -- left, right, paired
    refine ⟨_, rfl, _, _, rfl, rfl, _, rfl, ite2 (fun _ => ?_) (fun _ => ?_)⟩
    · refine ⟨_, rfl, sz1 (by simp), fun l hl => ⟨p, l, _, rfl, (W2.new hl).pail, (W2.nep hl).1, .inl (sq_of upd_same), by simp, by simp, fun i x H3 hx k3 P3 => ?_⟩⟩
      have W3 := (W2.new hl).keep k3 P3
      obtain ⟨w, hw, rfl⟩ := any_str (ws := wSides) hx
      refine ⟨_, rfl, sz1 (by simp), fun t ht => kk (.one w one) n _ _ (okR_one (List.mem_append_left _ hw) o1) ((k2.trans ((Kp.new hl).trans (k3.mono (by simp)))).trans (Kp.new ht)) (W3.new ht).pail (W3.new ht).box (W3.tup ht (.cons (.str w) (.cons (dp_at one) .nil)))⟩
    -- a fun
    refine ⟨fun σ' H' => σ' = [some (.ref p), some (.ref b), some (.ref s), some (.int (dp : Int)), some (.int sort), some (.ref m), some one.val, some two.val, none, none, none, none] ∧ H' = H2, ?_, ?_⟩
    · refine ⟨_, rfl, _, _, rfl, rfl, _, rfl, ite2 (fun _ => ⟨_, rfl, _, _, rfl, rfl, _, rfl, ite2 (fun hd => ?_) (fun _ => ⟨rfl, rfl⟩)⟩) (fun _ => ⟨rfl, rfl⟩)⟩
      have hd0 : 0 < dp := by have : (0 : Int) < (dp : Int) := of_decide_eq_true hd; omega
      obtain ⟨dq, rfl⟩ : ∃ dq, dp = dq + 1 := ⟨dp - 1, by omega⟩
      refine ⟨sz1 (by simp), fun q hq => ?_⟩
      have Wq := W2.new (o := .lst []) hq
      have nq := W2.nep hq
      have kq : Kp [p, b] H (upd H2 q (.lst [])) := k2.trans (Kp.new hq)
      refine ⟨_, rfl, p, 3, rfl, Wq.pail, by decide, by decide, fun c H3 c0 c1 k3 P3 => ⟨c, rfl, by omega, by omega, ?_⟩⟩
      have W3 := Wq.keep k3 P3
      have hq3 : H3 q = some (.lst []) := k3 q _ (by simpa using nq.1) upd_same
      refine for_range (lo := 0) (n := c.toNat) (fun i σ' H' => ∃ z : Option V, σ' = [some (.ref p), some (.ref b), some (.ref s), some (.int ((dq + 1 : Nat) : Int)), some (.int sort), some (.ref m), some one.val, some two.val, some (.ref q), z, none, none] ∧
        Kp [p, b] H H' ∧ DW H' p b s scs (n + i) ∧ H' q = some (.lst ((nPs n i).map V.str)))
        ⟨none, rfl, kq.trans (k3.mono (by simp)), W3, by rw [hq3]; rfl⟩ ?_ ?_
      · rintro i σ' H' hi ⟨z, rfl, kH, WH, hqH⟩
        have hi2 : i < 3 := by omega
        refine ⟨_, rfl, b, _, 0, _, rfl, rfl, sq_of WH.box, rfl, _, _, rfl, rfl, _, rfl, b, _, 0, 0, rfl, rfl, WH.box, rfl, ?_⟩
        have W' : DW (upd H' b (.lst [.int ((n + i + 1 : Nat) : Int)])) p b s scs (n + i + 1) := WH.boxed
        have hq' : (upd H' b (.lst [.int ((n + i + 1 : Nat) : Int)])) q = some (.lst ((nPs n i).map V.str)) := by rw [upd_ne nq.2.1]; exact hqH
        have hsm : n + i + 1 < 10000000000 := by unfold LR at hn; omega
        refine ⟨_, rfl, .inl ⟨rfl, _, sq_of hq'⟩, _, rfl, b, _, 0, _, rfl, rfl, sq_of W'.box, rfl, _, rfl, num_log hsm, _, _, rfl, rfl, sz1 ?_, q, _, _, rfl, rfl, hq', ?_, ?_⟩
        · have := num_len hsm
          show (Str.ofString "p").length + _ ≤ _
          have e : (Str.ofString "p").length = 1 := rfl
          omega
        · rw [List.length_map, nPs_len]
          exact Nat.lt_of_lt_of_le hi2 (by decide)
        · refine ⟨_, rfl, (kH.upd (by simp)).mut (fresh_kp k2 W.pail W.box hq nq.2.2.2), ?_, ?_⟩
          · have W'' := W'.mut (o := .lst ((nPs n i).map V.str ++ [.str (nP (n + i + 1))])) nq.1 nq.2.1 nq.2.2.1
            have e1 : n + (i + 1) = n + i + 1 := by omega
            rw [e1]
            exact W''
          · have e1 : n + i + 1 = n + 1 + i := by omega
            rw [upd_same, nPs_succ, List.map_append, e1]
            rfl
      · rintro σ' H' ⟨z, rfl, kH, WH, hqH⟩
        obtain rfl := hspB dq rfl
        have hc3 : c.toNat ≤ 2 := by omega
        -- body
        refine ⟨_, rfl, _, rfl, _, rfl, _, rfl, s, q, _, _, rfl, rfl, WH.sc, hqH, sz1 (by simp [nPs_len]; omega), fun s2 hs2 => ⟨_, rfl, _, _, rfl, rfl, p, b, s2, scs ++ nPs n c.toNat, n + c.toNat, ?_, ?_⟩⟩
        · have e2 : (((dq + 1 : Nat) : Int) - 1) = (dq : Int) := by omega
          show [V.ref p, V.ref b, V.ref s2, V.int (((dq + 1 : Nat) : Int) - 1), V.int 1] = _
          rw [e2]
          rfl
        · have n2 := WH.nep hs2
          refine ⟨(WH.new hs2).other (by rw [upd_same, List.map_append]) n2.1 n2.2.1, by omega, by decide, by simp [nPs_len]; omega, ?_, fun r n' v H4 hok k4 P4 b4 dp4 => ?_⟩
          · unfold LR at hn
            unfold LB
            omega
          have k5 : Kp [p, b] H H4 := (kH.trans (Kp.new hs2)).trans k4
          have hq4 : H4 q = some (.lst ((nPs n c.toNat).map V.str)) := k4 q _ nq.2.2.2 (by rw [upd_ne (ne_of_none hqH hs2)]; exact hqH)
          have W4 : DW H4 p b s scs n' := WH.step ((Kp.new hs2).trans k4) P4 b4
          refine ⟨_, rfl, q, _, rfl, .inl ⟨sq_of hq4, fun t1 ht1 => ⟨_, rfl, sz1 (by simp), fun t2 ht2 => ?_⟩⟩⟩
          have Wt := W4.new (o := .tup ((nPs n c.toNat).map V.str)) ht1
          have kt : Kp [p, b] H4 (upd H4 t1 (.tup ((nPs n c.toNat).map V.str))) := Kp.new ht1
          refine kk (.fn (nPs n c.toNat) r) n' _ _ (okR_fn hc3 hok) ((k5.trans kt).trans (Kp.new ht2)) (Wt.new ht2).pail (Wt.new ht2).box (Wt.tup ht2 (.cons (.str "fun") (.cons (W4.tup ht1 (dpa_strs _)) (.cons (dp_ex (Tp.new ht1).ex dp4) .nil))))
    rintro σ H3 ⟨rfl, rfl⟩
    -- a call
    refine ⟨_, rfl, _, _, rfl, rfl, _, rfl, ite2 (fun _ => ?_) (fun _ => ?_)⟩
    · refine ⟨_, rfl, sz1 (by simp), fun l hl => ⟨_, rfl, l, s, _, _, rfl, rfl, upd_same, (W2.new hl).sc, sz1 (by simp; omega), fun l2 hl2 => ?_⟩⟩
      have Wl := W2.new (o := .lst [.str "g", .str "h"]) hl
      have W3 := Wl.new (o := .lst ([.str "g", .str "h"] ++ scs.map V.str)) hl2
      refine ⟨p, l2, _, rfl, W3.pail, (Wl.nep hl2).1, .inl (sq_of upd_same), by simp, by simp; omega, fun i x H4 hx k4 P4 => ?_⟩
      have W4 := W3.keep k4 P4
      obtain ⟨f, hf, rfl⟩ : ∃ f : At, okF scs f ∧ x = f.val := by
        obtain ⟨y, hy, rfl⟩ := any_str (ws := (["g", "h"] : List Str) ++ scs) (by rw [List.map_append]; exact hx)
        refine ⟨.nm y, ?_, rfl⟩
        rcases List.mem_append.mp hy with h | h
        · rcases List.mem_cons.mp h with h | h
          · exact .inl h
          · exact .inr (.inl (by simpa using h))
        · exact .inr (.inr h)
      have kA : Kp [p, b] H H4 := ((k2.trans (Kp.new hl)).trans (Kp.new hl2)).trans (k4.mono (by simp))
      have hm4 : H4 m = some (.lst (scs.map V.str ++ ([0, 1, 3] : List Int).map V.int)) := k4 m _ (by simpa using mp) (by
        rw [upd_ne (ne_of_none (by rw [upd_ne (ne_of_none hm2 hl)]; exact hm2) hl2), upd_ne (ne_of_none hm2 hl)]
        exact hm2)
      refine ⟨_, rfl, _, rfl, sz1 (by simp), fun l3 hl3 => ?_⟩
      have W5 := W4.new (o := .lst [.int 1, .int 1, .int 2, .int 0]) hl3
      refine ⟨p, l3, _, rfl, W5.pail, (W4.nep hl3).1, .inl (sq_of upd_same), by simp, by simp, fun i5 x5 H6 hx6 k6 P6 => ?_⟩
      have W6 := W5.keep k6 P6
      have kB : Kp [p, b] H H6 := (kA.trans (Kp.new hl3)).trans (k6.mono (by simp))
      have hm6 : H6 m = some (.lst (scs.map V.str ++ ([0, 1, 3] : List Int).map V.int)) := k6 m _ (by simpa using mp) (by rw [upd_ne (ne_of_none hm4 hl3)]; exact hm4)
      obtain ⟨c, hc, rfl⟩ : ∃ c : Nat, c ≤ 2 ∧ x5 = .int (c : Int) := by
        rcases List.mem_cons.mp (List.mem_of_getElem? hx6) with h | h
        · exact ⟨1, by decide, h⟩
        rcases List.mem_cons.mp h with h | h
        · exact ⟨1, by decide, h⟩
        rcases List.mem_cons.mp h with h | h
        · exact ⟨2, by decide, h⟩
        · exact ⟨0, by decide, by simpa using h⟩
      refine ⟨_, rfl, by omega, by omega, fun D hD => ?_⟩
      have nD := W6.nep hD
      refine lc_range (lo := 0) (n := ((c : Int)).toNat) (fun i H' => ∃ xs : List At, xs.length = i ∧ (∀ a ∈ xs, okA scs a) ∧ H' D = some (.lst (xs.map At.val)) ∧ Kp [p, b] H6 H' ∧ DW H' p b s scs n ∧ H' m = some (.lst (scs.map V.str ++ ([0, 1, 3] : List Int).map V.int)))
        ⟨[], rfl, by simp, upd_same, Kp.new hD, W6.new hD, by rw [upd_ne (ne_of_none hm6 hD)]; exact hm6⟩ ?_ ?_
      · rintro i H' hi ⟨xs, hl', ho, hDD, kC, WC, hmC⟩
        refine ⟨rfl, lc_yes ⟨_, rfl, _, rfl, p, m, _, rfl, WC.pail, mp, .inl (sq_of hmC), hpos, hlen, fun j y H7 hy k7 P7 => ?_⟩⟩
        obtain ⟨a, oa, rfl⟩ := any_atom hns hy
        have hD7 := k7 D _ (by simpa using nD.1) hDD
        refine ⟨_, hD7, ?_, xs ++ [a], by simp [hl'], ?_, by rw [upd_same, List.map_append]; rfl, (kC.trans (k7.mono (by simp))).mut hD, (WC.keep k7 P7).mut nD.1 nD.2.1 nD.2.2.1, ?_⟩
        · rw [List.length_map, hl']
          exact Nat.lt_of_lt_of_le (show i < 2 by omega) (by decide)
        · intro z hz
          rcases List.mem_append.mp hz with h | h
          · exact ho z h
          · rw [List.mem_singleton.mp h]; exact oa
        · rw [upd_ne (ne_of_none hm6 hD)]
          exact k7 m _ (by simpa using mp) hmC
      · rintro H' ⟨xs, hl', ho, hDD, kC, WC, hmC⟩
        refine ⟨D, _, rfl, .inl ⟨sq_of hDD, fun t1 ht1 => ⟨sz1 (by simp), fun t2 ht2 => ?_⟩⟩⟩
        have Wt := WC.new (o := .tup (xs.map At.val)) ht1
        have kt : Kp [p, b] H' (upd H' t1 (.tup (xs.map At.val))) := Kp.new ht1
        exact kk (.call f xs) n _ _ (okR_call hf (by omega) ho) (((kB.trans kC).trans kt).trans (Kp.new ht2)) (Wt.new ht2).pail (Wt.new ht2).box (Wt.tup ht2 (.cons (.str "call") (.cons (dp_at f) (.cons (WC.tup ht1 (dpa_ats xs)) .nil))))
    -- an atom
    · refine ⟨_, rfl, sz1 (by simp), fun t ht => kk (.one "atom" one) n _ _ (okR_one (by unfold wOne; simp) o1) (k2.trans (Kp.new ht)) (W2.new ht).pail (W2.new ht).box (W2.tup ht (.cons (.str "atom") (.cons (dp_at one) .nil)))⟩
end
end K4

set_option maxHeartbeats 4000000
namespace PG
open PySem L2 Evl DL TL
inductive Sm where
  | lets (x : Str) (r : Rt)
  | says (a : At)
def Sm.enc : Sm → PyData
  | .lets x r => .tuple [.str "let", .str x, r.enc]
  | .says a => .tuple [.str "say", a.enc]
def wrap : List Sm → Bd → Bd
  | [], e => e
  | .lets x r :: ss, e => .lets x r (wrap ss e)
  | .says a :: ss, e => .says a (wrap ss e)
theorem wrap_encs : ∀ (ss : List Sm) (e : Bd), (wrap ss e).encs = ss.map Sm.enc ++ e.encs
  | [], e => rfl
  | .lets x r :: ss, e => by simp only [wrap, Bd.encs, wrap_encs ss e, List.map_cons, Sm.enc, List.cons_append]
  | .says a :: ss, e => by simp only [wrap, Bd.encs, wrap_encs ss e, List.map_cons, Sm.enc, List.cons_append]
theorem wrap_app : ∀ (ss ts : List Sm) (e : Bd), wrap (ss ++ ts) e = wrap ss (wrap ts e)
  | [], ts, e => rfl
  | .lets x r :: ss, ts, e => by simp only [List.cons_append, wrap, wrap_app ss ts e]
  | .says a :: ss, ts, e => by simp only [List.cons_append, wrap, wrap_app ss ts e]
/-- drawn statements: the scope and the box ahead, those behind -/
inductive okSs (dp : Nat) (sc : List Str) (bx : Nat) : List Sm → List Str → Nat → Prop where
  | nil : okSs dp sc bx [] sc bx
  | lets {ss : List Sm} {sc1 : List Str} {b1 b2 : Nat} {r : Rt} : okSs dp sc bx ss sc1 b1 → okR sc1 b1 dp r b2 → okSs dp sc bx (ss ++ [.lets (nN (b2 + 1)) r]) (sc1 ++ [nN (b2 + 1)]) (b2 + 1)
  | says {ss : List Sm} {sc1 : List Str} {b1 : Nat} {a : At} : okSs dp sc bx ss sc1 b1 → okA sc1 a → okSs dp sc bx (ss ++ [.says a]) sc1 b1
theorem okSs_wrap {dp mo : Nat} {sc : List Str} {bx : Nat} {ss : List Sm} {sc1 : List Str} {b1 : Nat} (h : okSs dp sc bx ss sc1 b1) : ∀ (st : Nat) (e : Bd) (bx' : Nat), okB sc1 b1 dp mo st e bx' → okB sc bx dp mo (st + ss.length) (wrap ss e) bx' := by
  induction h with
  | nil => intro st e bx' h; exact h
  | @lets ss sc1 b1 b2 r _ hr ih =>
    intro st e bx' h
    rw [wrap_app, List.length_append]
    have := ih (st + 1) _ bx' (okB_lets hr h)
    have e1 : st + (ss.length + [Sm.lets (nN (b2 + 1)) r].length) = st + 1 + ss.length := by simp only [List.length_singleton]; omega
    rw [e1]
    exact this
  | @says ss sc1 b1 a _ ha ih =>
    intro st e bx' h
    rw [wrap_app, List.length_append]
    have := ih (st + 1) _ bx' (okB_says ha h)
    have e1 : st + (ss.length + [Sm.says a].length) = st + 1 + ss.length := by simp only [List.length_singleton]; omega
    rw [e1]
    exact this
theorem if_two {c : Bool} {F : V → Prop} (h : ∀ e : Int, 0 ≤ e → e ≤ 1 → F (.int e)) : if c = true then F (.int 1) else F (.int 0) := by
  split
  · exact h 1 (by decide) (by decide)
  · exact h 0 (by decide) (by decide)
theorem mxR_le {dp : Nat} (h : dp ≤ 2) : mxR dp ≤ 195 := by
  rcases dp with _ | _ | _ | dp
  · simp [mxR]
  · simp [mxR, mxB]
  · simp [mxR, mxB]
  · omega
theorem mxB_le {dp mo : Nat} (h : dp ≤ 2) (h2 : mo ≤ 1) : mxB dp mo ≤ 2355 := by
  rcases dp with _ | _ | _ | dp <;> rcases mo with _ | _ | mo <;> first | omega | simp [mxB]
/-- bodies drawn one behind another -/
inductive chain (sc : List Str) (dp mo : Nat) (n : Nat) : List Bd → Nat → Prop where
  | nil : chain sc dp mo n [] n
  | snoc {bs : List Bd} {n1 n2 : Nat} {b : Bd} : chain sc dp mo n bs n1 → okB sc n1 dp mo 4 b n2 → chain sc dp mo n (bs ++ [b]) n2
theorem chain_inv {sc : List Str} {dp mo n n2 : Nat} {bs : List Bd} (h : chain sc dp mo n bs n2) : (bs = [] ∧ n2 = n) ∨ ∃ bs' n1 b, bs = bs' ++ [b] ∧ chain sc dp mo n bs' n1 ∧ okB sc n1 dp mo 4 b n2 := by
  cases h with
  | nil => exact .inl ⟨rfl, rfl⟩
  | snoc h1 h2 => exact .inr ⟨_, _, _, rfl, h1, h2⟩
theorem chain_two {sc : List Str} {dp mo n n2 : Nat} {bs : List Bd} (h : chain sc dp mo n bs n2) (hl : bs.length = 2) : ∃ b1 b2 nb, bs = [b1, b2] ∧ okB sc n dp mo 4 b1 nb ∧ okB sc nb dp mo 4 b2 n2 := by
  rcases chain_inv h with ⟨rfl, _⟩ | ⟨b', n1, b, rfl, h1, o2⟩
  · cases hl
  · rw [List.length_append, List.length_singleton] at hl
    rcases chain_inv h1 with ⟨rfl, _⟩ | ⟨b'', n0, b0, rfl, h0, o1⟩
    · cases hl
    · rw [List.length_append, List.length_singleton] at hl
      obtain rfl : b'' = [] := List.length_eq_zero_iff.mp (by omega)
      rcases chain_inv h0 with ⟨_, rfl⟩ | ⟨b3, _, _, e, _⟩
      · exact ⟨b0, b, n1, rfl, o1, o2⟩
      · simp at e
end PG
namespace K4
open PySem L2 Evl DL PG
section
variable {P : Program} {w : World} {K : PySem.W.Frag} {mg : Str → Option Value} {base : Heap}
theorem ok_body (T : Txt K mg) {k dp mo : Nat} (hk : 2 ≤ k) (DR : DefOk P w K mg base CX0 false k "_law_drawn_right" s_law_drawn_right ["pail", "box", "scope", "deep"] (spRight K dp))
    (hB : ∀ mq, mo = mq + 1 → DefOk P w K mg base CX0 false k "_law_drawn_body" s_law_drawn_body ["pail", "box", "scope", "deep", "most"] (spBody K dp mq)) :
    DefOk P w K mg base CX0 false (k + 1) "_law_drawn_body" s_law_drawn_body ["pail", "box", "scope", "deep", "most"] (spBody K dp mo) := by
  have hB' : ∃ spB : Sp, DefOk P w K mg base CX0 false k "_law_drawn_body" s_law_drawn_body ["pail", "box", "scope", "deep", "most"] spB ∧ ∀ mq, mo = mq + 1 → spB = spBody K dp mq := by
    cases mo with
    | zero =>
      obtain ⟨f, fd, F, hm⟩ := T.d_law_drawn_body.ex
      exact ⟨fun _ _ _ _ => False, ⟨f, fd, F, hm, ⟨fun _ _ _ _ h => h.elim, fun _ _ _ _ _ _ _ _ _ _ _ _ _ h => h.elim⟩⟩, fun dq h => nomatch h⟩
    | succ mq => exact ⟨_, hB mq rfl, fun dr h => by cases h; rfl⟩
  obtain ⟨spB, DB, hspB⟩ := hB'
  refine T.d_law_drawn_body.ok scs_law_drawn_body (fun vs H Q E h => ?_) (fun f cdv A outer s0 H vs Q E hr h => ?_)
  · obtain ⟨p, b, s, scs, n, rfl, _⟩ := h
    rfl
  · obtain ⟨p, b, s, scs, n, rfl, W, hdp, hmo, hsc, hn, kk⟩ := h
    have nd := scs_law_drawn_body.nd
    have hr1 : Room 1 _ := hr.mono (by omega)
    have hr2 : Room 2 _ := hr.mono hk
    refine ⟨_, pss_cons (ps_set (i := 5) nd rfl (.inl rfl) (pe_lst pa_nil))
      (pss_cut (ps_for PassesOwn.never rfl (pi_range1 (by rfl) T.b_range (pa_cons (pe_op op_add (pe_callD (ok_deal T) hr1 (.inl rfl) bd_deal pass0 (pa_cons (pv 0) (pa_cons pe_int pa_nil))) (pe_ifExp (pt_cmpR op_gt (pv 4) pe_int (nomark _)) pe_int pe_int)) pa_nil)) (pg_name (i := 6) nd rfl (.inl rfl))
        (pss_one (ps_if (pt_cmpR op_eq (pe_callD (ok_deal T) hr1 (.inl rfl) bd_deal pass0 (pa_cons (pv 0) (pa_cons pe_int pa_nil))) pe_int (nomark _))
          (pss_one (ps_expr (pe_bm PySem.F.plainAttrs_list PySem.F.slot_list_append PySem.F.type_list_append mt_append (pv 5) (pa_cons (pe_tup (pa_cons pe_str (pa_cons (pe_callD (ok_any T) hr2 (.inl rfl) bd_any pass0 (pa_cons (pv 0) (pa_cons (pe_op op_cat (pv 2) (pe_lst (pa_cons pe_int pa_nil))) pa_nil))) pa_nil))) pa_nil))))
          (pss_cons (ps_set (i := 7) nd rfl (.inl rfl) (pe_callD DR hr (.inl rfl) bd_right pass0 (pa_cons (pv 0) (pa_cons (pv 1) (pa_cons (pv 2) (pa_cons (pv 3) pa_nil))))))
          (pss_cons (ps_asg (pe_op op_add (pe_ix ix_list (pv 1) pe_int (fun _ _ => rfl)) pe_int) (pg_sub (pv 1) pe_int set_list))
          (pss_cons (ps_set (i := 8) nd rfl (.inl rfl) (pe_op op_add_str pe_str (pe_callTy call_str_int (by rfl) T.b_str (by decide +kernel) (pa_cons (pe_ix ix_list (pv 1) pe_int (fun _ _ => rfl)) pa_nil))))
          (pss_cons (ps_expr (pe_bm PySem.F.plainAttrs_list PySem.F.slot_list_append PySem.F.type_list_append mt_append (pv 5) (pa_cons (pe_tup (pa_cons pe_str (pa_cons (pv 8) (pa_cons (pv 7) pa_nil)))) pa_nil)))
          (pss_one (ps_set (i := 2) nd rfl (.inr rfl) (pe_op op_cat (pv 2) (pe_lst (pa_cons (pv 8) pa_nil)))))))))))) 
      (pss_cut (ps_par (i := 9) (j := 10) (by rfl) nd rfl rfl (by decide) rfl rfl (pa_cons (pe_callD (ok_deal T) hr1 (.inl rfl) bd_deal pass0 (pa_cons (pv 0) (pa_cons pe_int pa_nil))) (pa_cons (pe_op op_cat (pv 2) (pe_lst (pa_cons pe_int pa_nil))) pa_nil)) (by rfl))
      (pss_cut (ps_if (PW.pt (pw_and (pt_cmpR op_lt (pv 9) pe_int (nomark _)) (pw_and1 (pt_cmpR op_gt (pv 4) pe_int (nomark _)))))
        (pss_cons (ps_setLc (i := 11) (own := [("k", 13)]) (g := gName 13) (tt := tYes) (by rfl) nd rfl rfl (sw_true rfl rfl rfl (by decide +kernel)) (pi_range1 (by rfl) T.b_range (pa_cons pe_int pa_nil))
            (blkOk_by (N := ["pail", "box", "scope", "deep", "most", "found", "turn", "right", "name", "sort", "some", "arms", "called", "k"]) (sc := defScope s_law_drawn_body) (by decide +kernel)) (fun _ _ _ _ _ => pg_name (i := 13) nd rfl (Or.inl rfl)) (fun _ _ _ _ _ => pts_nil)
            (fun _ _ _ _ _ => pe_callD DB hr (.inl rfl) bd_body pass0 (pa_cons (pv 0) (pa_cons (pv 1) (pa_cons (pv 2) (pa_cons (pv 3) (pa_cons (pe_op op_sub (pv 4) pe_int) pa_nil)))))))
        (pss_one (ps_ret (pe_op op_catA (pe_callTy call_tuple_of (by rfl) T.b_tuple (by decide +kernel) (pa_cons (pv 5) pa_nil)) (pe_tup (pa_cons (pe_tup (pa_cons pe_str (pa_cons (pe_callD (ok_any T) hr2 (.inl rfl) bd_any pass0 (pa_cons (pv 0) (pa_cons (pv 10) pa_nil))) (pa_cons (pe_ix ix_list (pv 11) pe_int (fun _ _ => rfl)) (pa_cons (pe_ix ix_list (pv 11) pe_int (fun _ _ => rfl)) pa_nil))))) pa_nil)))))) pss_nil)
      (pss_cons (ps_if (pt_cmpR op_eq (pv 9) pe_int (nomark _))
        (pss_cons (ps_set (i := 12) nd rfl (.inl rfl) (pe_callD (ok_any T) hr2 (.inl rfl) bd_any pass0 (pa_cons (pv 0) (pa_cons (pe_op op_cat (pe_lst (pa_cons pe_str (pa_cons pe_str pa_nil))) (pv 2)) pa_nil))))
        (pss_one (ps_ret (pe_op op_catA (pe_callTy call_tuple_of (by rfl) T.b_tuple (by decide +kernel) (pa_cons (pv 5) pa_nil)) (pe_tup (pa_cons (pe_tup (pa_cons pe_str (pa_cons (pv 12) (pa_cons (pe_tup (pa_cons (pe_callD (ok_any T) hr2 (.inl rfl) bd_any pass0 (pa_cons (pv 0) (pa_cons (pv 10) pa_nil))) pa_nil)) pa_nil)))) pa_nil)))))) pss_nil)
      (pss_one (ps_ret (pe_op op_catA (pe_callTy call_tuple_of (by rfl) T.b_tuple (by decide +kernel) (pa_cons (pv 5) pa_nil)) (pe_tup (pa_cons (pe_tup (pa_cons pe_str (pa_cons (pe_callD (ok_any T) hr2 (.inl rfl) bd_any pass0 (pa_cons (pv 0) (pa_cons (pv 10) pa_nil))) pa_nil))) pa_nil))))))))), ?_⟩
    have fin : ∀ (ss : List Sm) (scs' : List Str) (n' n2 : Nat) (e : Bd) (de : PyData) (H1 : Hp) (vs : List V) (v : V) (s' t1 t2 : Addr), ss.length ≤ 4 → okSs dp scs n ss scs' n' → okB scs' n' dp mo (4 - ss.length) e n2 → e.encs = [de] → Kp [p, b] H H1 → DW H1 p b s' scs' n2 →
        H1 t1 = some (.tup vs) → H1 t2 = some (.tup [v]) → DpAll K (tp H1) vs (ss.map Sm.enc) → Dp K (tp H1) v de → rCatA K (.ref t1) (.ref t2) H1 Q := by
      intro ss scs' n' n2 e de H1 vs v s' t1 t2 hl hss he hde k1 W1 h1 h2 hvs hv
      have hok : okB scs n dp mo 4 (wrap ss e) n2 := by
        have := okSs_wrap hss (4 - ss.length) e n2 he
        rwa [show 4 - ss.length + ss.length = 4 by omega] at this
      have lv : vs.length = ss.length := by rw [dpa_len hvs, List.length_map]
      refine ⟨t1, t2, vs, [v], rfl, rfl, st_of h1, st_of h2, sz1 (by rw [lv]; simp; omega), fun hx => ?_, (fun _ hy => nomatch hy), fun _ _ p3 hp3 => ?_⟩
      · have e0 : ss = [] := by
          cases ss with
          | nil => rfl
          | cons a r => rw [hx] at lv; simp at lv
        subst e0
        refine kk (wrap [] e) n2 _ _ hok k1 W1.pail W1.box ?_
        rw [wrap_encs, hde]
        exact .tup (st_of (tp_of h2)) (dpa_one hv)
      · refine kk (wrap ss e) n2 _ _ hok (k1.trans (Kp.new hp3)) (W1.new hp3).pail (W1.new hp3).box ?_
        rw [wrap_encs, hde]
        exact .tup (st_of (tp_of upd_same)) (dpa_ex (Tp.new hp3).ex (dpa_app hvs (dpa_one hv)))
    refine ⟨sz1 (by simp), fun q hq => ?_⟩
    have Wq := W.new (o := .lst []) hq
    have nq := W.nep hq
    -- the statements
    refine ⟨fun σ' H' => ∃ (ss : List Sm) (scs' : List Str) (n' : Nat) (sA : Addr) (vs : List V) (y6 y7 y8 : Option V), σ' = [some (.ref p), some (.ref b), some (.ref sA), some (.int (dp : Int)), some (.int (mo : Int)), some (.ref q), y6, y7, y8, none, none, none, none, none] ∧
      ss.length ≤ 4 ∧ okSs dp scs n ss scs' n' ∧ Kp [p, b] H H' ∧ DW H' p b sA scs' n' ∧ H' q = some (.lst vs) ∧ DpAll K (tp H') vs (ss.map Sm.enc) ∧ scs'.length ≤ scs.length + 4 ∧ n' ≤ n + 4 * (3 * mxR dp + 3) ∧ q ≠ sA, ?_, ?_⟩
    · refine ⟨_, rfl, p, 4, rfl, Wq.pail, by decide, by decide, fun c H1 c0 c1 k1 P1 => ⟨_, rfl, _, _, rfl, rfl, _, rfl, if_two (F := fun v => tC v _ _ _) fun e e0 e1 => ⟨_, _, rfl, rfl, _, rfl, by omega, by omega, ?_⟩⟩⟩
      have W1 := Wq.keep k1 P1
      have hq1 : H1 q = some (.lst []) := k1 q _ (by simpa using nq.1) upd_same
      refine for_range (lo := 0) (n := (c + e).toNat) (fun i σ' H' => ∃ (ss : List Sm) (scs' : List Str) (n' : Nat) (sA : Addr) (vs : List V) (y6 y7 y8 : Option V), σ' = [some (.ref p), some (.ref b), some (.ref sA), some (.int (dp : Int)), some (.int (mo : Int)), some (.ref q), y6, y7, y8, none, none, none, none, none] ∧
        ss.length = i ∧ okSs dp scs n ss scs' n' ∧ Kp [p, b] H H' ∧ DW H' p b sA scs' n' ∧ H' q = some (.lst vs) ∧ DpAll K (tp H') vs (ss.map Sm.enc) ∧ scs'.length ≤ scs.length + i ∧ n' ≤ n + i * (3 * mxR dp + 3) ∧ q ≠ sA)
        ⟨[], scs, n, s, [], none, none, none, rfl, rfl, .nil, (Kp.new hq).trans (k1.mono (by simp)), W1, hq1, .nil, by omega, by omega, nq.2.2.1⟩ ?_ ?_
      · rintro i σ' H' hi ⟨ss, scs', n', sA, vs, y6, y7, y8, rfl, hl, hss, kH, WH, hqH, hvs, hls, hln, nqs⟩
        have hi4 : i < 4 := by omega
        have lv : vs.length = i := by rw [dpa_len hvs, List.length_map, hl]
        refine ⟨_, rfl, p, 9, rfl, WH.pail, by decide, by decide, fun d H2 d0 d1 k2 P2 => ⟨rfl, _, rfl, ite2 (fun _ => ?_) (fun _ => ?_)⟩⟩
        -- say
        · have W2 := WH.keep k2 P2
          have T2 := k2.tp (by intro a ha; obtain ⟨x, y, z, hp⟩ := WH.pail; exact ⟨_, (List.mem_singleton.mp ha) ▸ hp⟩)
          have hq2 : H2 q = some (.lst vs) := k2 q _ (by simpa using nq.1) hqH
          refine ⟨_, rfl, .inl ⟨rfl, _, sq_of hq2⟩, _, rfl, _, rfl, sz1 (by simp), fun l hl2 => ⟨sA, l, _, _, rfl, rfl, (W2.new hl2).sc, upd_same, sz1 (by simp; omega), fun l3 hl3 => ?_⟩⟩
          have W3 := W2.new (o := .lst [.int 7]) hl2
          have W4 := W3.new (o := .lst (scs'.map V.str ++ [.int 7])) hl3
          refine ⟨p, l3, _, rfl, W4.pail, (W3.nep hl3).1, .inl (sq_of upd_same), by simp, by simp; omega, fun j x H5 hx k5 P5 => ⟨sz1 (by simp), fun t ht => ?_⟩⟩
          obtain ⟨a, oa, rfl⟩ := any_atom (ns := [7]) (by decide) hx
          have W5 := W4.keep k5 P5
          have q5 : H5 q = some (.lst vs) := k5 q _ (by simpa using nq.1) (by rw [upd_ne (ne_of_none (by rw [upd_ne (ne_of_none hq2 hl2)]; exact hq2) hl3), upd_ne (ne_of_none hq2 hl2)]; exact hq2)
          have T5 : Tp H' H5 := T2.trans ((Tp.new hl2).trans ((Tp.new hl3).trans (k5.tp (by intro a ha; obtain ⟨x, y, z, hp⟩ := W4.pail; exact ⟨_, (List.mem_singleton.mp ha) ▸ hp⟩))))
          have K5 : Kp [p, b] H H5 := ((kH.trans (k2.mono (by simp))).trans ((Kp.new hl2).trans (Kp.new hl3))).trans (k5.mono (by simp))
          have qt : (upd H5 t (.tup [.str "say", a.val])) q = some (.lst vs) := by rw [upd_ne (ne_of_none q5 ht)]; exact q5
          have W6 := W5.new (o := .tup [.str "say", a.val]) ht
          refine ⟨q, vs, _, rfl, rfl, qt, by rw [lv]; exact Nat.lt_of_lt_of_le hi4 (by decide), ?_⟩
          refine ⟨ss ++ [.says a], scs', n', sA, vs ++ [.ref t], _, _, _, rfl, by simp [hl], .says hss oa, (K5.trans (Kp.new ht)).mut hq, W6.mut nq.1 nq.2.1 nqs, upd_same, ?_, by omega, Nat.le_trans hln (Nat.add_le_add_left (Nat.mul_le_mul_right _ (Nat.le_succ i)) _), nqs⟩
          have TT : Tp H5 (upd (upd H5 t (.tup [.str "say", a.val])) q (.lst (vs ++ [.ref t]))) := (Tp.new ht).trans (Tp.lst qt)
          rw [List.map_append]
          refine dpa_app (dpa_ex (T5.trans TT).ex hvs) (dpa_one (.tup (st_of (tp_of ?_)) (.cons (.str "say") (.cons (dp_at a) .nil))))
          exact (Tp.lst qt) t _ upd_same
        -- let
        · have W2 := WH.keep k2 P2
          have T2 := k2.tp (by intro a ha; obtain ⟨x, y, z, hp⟩ := WH.pail; exact ⟨_, (List.mem_singleton.mp ha) ▸ hp⟩)
          have hq2 : H2 q = some (.lst vs) := k2 q _ (by simpa using nq.1) hqH
          have hmx := mxR_le hdp
          have hni : n' ≤ n + 3 * 600 := Nat.le_trans hln (Nat.add_le_add_left (Nat.mul_le_mul (by omega) (by omega)) _)
          refine ⟨_, rfl, _, rfl, _, rfl, _, rfl, p, b, sA, scs', n', rfl, W2, hdp, by omega, by unfold LB at hn; unfold LR; omega, fun r n2 v H3 hok k3 P3 b3 hv => ?_⟩
          have W3 := W2.step k3 P3 b3
          have T3 := W2.tpk k3
          have hrs := okR_size hok
          have hrl := okR_le hok
          have q3 : H3 q = some (.lst vs) := k3 q _ nq.2.2.2 hq2
          refine ⟨_, rfl, b, _, 0, _, rfl, rfl, sq_of b3, rfl, _, _, rfl, rfl, _, rfl, b, _, 0, 0, rfl, rfl, b3, rfl, ?_⟩
          have W4 : DW (upd H3 b (.lst [.int ((n2 + 1 : Nat) : Int)])) p b sA scs' (n2 + 1) := W3.boxed
          have T4 : Tp H3 (upd H3 b (.lst [.int ((n2 + 1 : Nat) : Int)])) := Tp.lst b3
          have q4 : (upd H3 b (.lst [.int ((n2 + 1 : Nat) : Int)])) q = some (.lst vs) := by rw [upd_ne nq.2.1]; exact q3
          have hsm : n2 + 1 < 10000000000 := by unfold LB at hn; omega
          refine ⟨_, rfl, b, _, 0, _, rfl, rfl, sq_of W4.box, rfl, _, rfl, num_log hsm, _, _, rfl, rfl, sz1 ?_, ?_⟩
          · have := num_len hsm
            show (Str.ofString "n").length + _ ≤ _
            have e : (Str.ofString "n").length = 1 := rfl
            omega
          refine ⟨_, rfl, .inl ⟨rfl, _, sq_of q4⟩, _, rfl, _, rfl, sz1 (by simp), fun t ht => ⟨q, vs, _, rfl, rfl, by rw [upd_ne (ne_of_none q4 ht)]; exact q4, by rw [lv]; exact Nat.lt_of_lt_of_le hi4 (by decide), ?_⟩⟩
          have qt : (upd (upd H3 b (.lst [.int ((n2 + 1 : Nat) : Int)])) t (.tup [.str "let", .str (nN (n2 + 1)), v])) q = some (.lst vs) := by rw [upd_ne (ne_of_none q4 ht)]; exact q4
          have W5 := (W4.new (o := .tup [.str "let", .str (nN (n2 + 1)), v]) ht).mut (o := .lst (vs ++ [.ref t])) nq.1 nq.2.1 nqs
          have T5 : Tp (upd H3 b (.lst [.int ((n2 + 1 : Nat) : Int)])) (upd (upd (upd H3 b (.lst [.int ((n2 + 1 : Nat) : Int)])) t (.tup [.str "let", .str (nN (n2 + 1)), v])) q (.lst (vs ++ [.ref t]))) := (Tp.new ht).trans (Tp.lst qt)
          refine ⟨_, rfl, _, rfl, sz1 (by simp), fun l hl5 => ⟨sA, l, _, _, rfl, rfl, (W5.new hl5).sc, upd_same, sz1 (by simp; omega), fun s2 hs2 => ?_⟩⟩
          have W6 := W5.new (o := .lst [.str (nN (n2 + 1))]) hl5
          have n6 := W6.nep hs2
          have q6 : (upd (upd (upd H3 b (.lst [.int ((n2 + 1 : Nat) : Int)])) t (.tup [.str "let", .str (nN (n2 + 1)), v])) q (.lst (vs ++ [.ref t]))) q = some (.lst (vs ++ [.ref t])) := upd_same
          have q7 := Ex.new hl5 (o := .lst [.str (nN (n2 + 1))]) q _ q6
          have q8 := Ex.new hs2 (o := .lst (scs'.map V.str ++ [.str (nN (n2 + 1))])) q _ q7
          have K4 : Kp [p, b] H (upd H3 b (.lst [.int ((n2 + 1 : Nat) : Int)])) := ((kH.trans (k2.mono (by simp))).trans k3).upd (by simp)
          have hl6 : (upd (upd (upd H3 b (.lst [.int ((n2 + 1 : Nat) : Int)])) t (.tup [.str "let", .str (nN (n2 + 1)), v])) q (.lst (vs ++ [.ref t]))) l = none := hl5
          have hs6 : (upd (upd (upd (upd H3 b (.lst [.int ((n2 + 1 : Nat) : Int)])) t (.tup [.str "let", .str (nN (n2 + 1)), v])) q (.lst (vs ++ [.ref t]))) l (.lst [.str (nN (n2 + 1))])) s2 = none := hs2
          have K6 := ((((K4.trans (Kp.new ht (o := .tup [.str "let", .str (nN (n2 + 1)), v]))).mut hq (o := .lst (vs ++ [.ref t]))).trans (Kp.new hl6 (o := .lst [.str (nN (n2 + 1))]))).trans (Kp.new hs6 (o := .lst (scs'.map V.str ++ [.str (nN (n2 + 1))]))))
          have T6 := T5.trans ((Tp.new hl6 (o := .lst [.str (nN (n2 + 1))])).trans (Tp.new hs6 (o := .lst (scs'.map V.str ++ [.str (nN (n2 + 1))]))))
          have t6 := ((Tp.lst qt (o := .lst (vs ++ [.ref t]))).trans ((Tp.new hl6 (o := .lst [.str (nN (n2 + 1))])).trans (Tp.new hs6 (o := .lst (scs'.map V.str ++ [.str (nN (n2 + 1))]))))) t _ upd_same
          refine ⟨ss ++ [.lets (nN (n2 + 1)) r], scs' ++ [nN (n2 + 1)], n2 + 1, s2, vs ++ [V.ref t], _, _, _, rfl, by simp [hl], .lets hss hok, K6, (W6.new hs2).other (by rw [upd_same, List.map_append]; rfl) n6.1 n6.2.1, q8, ?_, by simp; omega, ?_, ?_⟩
          · rw [List.map_append]
            exact dpa_app (dpa_ex (T2.trans (T3.trans (T4.trans T6))).ex hvs) (dpa_one (.tup (st_of (tp_of t6)) (.cons (.str "let") (.cons (.str _) (.cons (dp_ex (T4.trans T6).ex hv) .nil)))))
          · rw [Nat.succ_mul]
            omega
          · exact ne_of_none q7 hs2
      · rintro σ' H' ⟨ss, scs', n', sA, vs, y6, y7, y8, rfl, hl, hss, kH, WH, hqH, hvs, hls, hln, nqs⟩
        exact ⟨ss, scs', n', sA, vs, y6, y7, y8, rfl, by omega, hss, kH, WH, hqH, hvs, by omega, Nat.le_trans hln (Nat.add_le_add_left (Nat.mul_le_mul_right _ (by omega)) _), nqs⟩
    rintro σ' H' ⟨ss, scs', n', sA, vs, y6, y7, y8, rfl, hl, hss, kH, WH, hqH, hvs, hls, hln, nqs⟩
    -- sort, some
    refine ⟨fun σ' H2 => ∃ (sort : Int) (m : Addr), σ' = [some (.ref p), some (.ref b), some (.ref sA), some (.int (dp : Int)), some (.int (mo : Int)), some (.ref q), y6, y7, y8, some (.int sort), some (.ref m), none, none, none] ∧
      Kp [p, b] H H2 ∧ DW H2 p b sA scs' n' ∧ H2 q = some (.lst vs) ∧ DpAll K (tp H2) vs (ss.map Sm.enc) ∧ H2 m = some (.lst (scs'.map V.str ++ ([2] : List Int).map V.int)) ∧ m ≠ p ∧ m ≠ b, ?_, ?_⟩
    · refine ⟨_, rfl, p, 6, rfl, WH.pail, by decide, by decide, fun sort H1 _ _ k1 P1 => ?_⟩
      have W1 := WH.keep k1 P1
      have T1 := WH.tpk (k1.mono (qs := [p, b]) (by simp))
      have q1 := k1 q _ (by simpa using nq.1) hqH
      refine ⟨_, rfl, sz1 (by simp), fun l hl1 => ⟨sA, l, _, _, rfl, rfl, (W1.new hl1).sc, upd_same, sz1 (by simp; omega), fun m hm => ⟨_, _, rfl, sort, m, rfl, ?_⟩⟩⟩
      have nm := (W1.new (o := .lst [.int 2]) hl1).nep hm
      exact ⟨((kH.trans (k1.mono (by simp))).trans (Kp.new hl1)).trans (Kp.new hm), (W1.new hl1).new hm, Ex.new hm q _ (Ex.new hl1 q _ q1), dpa_ex (T1.trans ((Tp.new hl1).trans (Tp.new hm))).ex hvs, upd_same, nm.1, nm.2.1⟩
    clear kH WH hqH hvs
    rintro σ' H2 ⟨sort, m, rfl, kH, WH, hqH, hvs, hm, mp, mb⟩
    have hlen : (scs'.map V.str ++ ([2] : List Int).map V.int).length < 1000000 := by simp; omega
    have hpos : 0 < (scs'.map V.str ++ ([2] : List Int).map V.int).length := by simp
    have hns : ∀ n ∈ ([2] : List Int), 0 ≤ n ∧ n ≤ 7 := by decide
    -- an if
    refine ⟨fun σ' H3 => σ' = [some (.ref p), some (.ref b), some (.ref sA), some (.int (dp : Int)), some (.int (mo : Int)), some (.ref q), y6, y7, y8, some (.int sort), some (.ref m), none, none, none] ∧ H3 = H2, ?_, ?_⟩
    · refine ⟨_, rfl, _, _, rfl, rfl, _, rfl, ite2 (fun _ => ⟨_, rfl, _, _, rfl, rfl, _, rfl, ite2 (fun hd => ?_) (fun _ => ⟨rfl, rfl⟩)⟩) (fun _ => ⟨rfl, rfl⟩)⟩
      have hd0 : 0 < mo := by have : (0 : Int) < (mo : Int) := of_decide_eq_true hd; omega
      obtain ⟨mq, rfl⟩ : ∃ mq, mo = mq + 1 := ⟨mo - 1, by omega⟩
      obtain rfl := hspB mq rfl
      have emq : (((mq + 1 : Nat) : Int) - 1) = (mq : Int) := by omega
      have hmx := mxR_le hdp
      have hni : n' ≤ n + 4 * 600 := Nat.le_trans hln (Nat.add_le_add_left (Nat.mul_le_mul (by omega) (by omega)) _)
      refine ⟨2, rfl, by decide, by decide, fun D hD => ?_⟩
      have nD := WH.nep hD
      have qD : q ≠ D := ne_of_none hqH hD
      have mD : m ≠ D := ne_of_none hm hD
      -- both bodies
      have turn : ∀ (n1 : Nat) (H3 : Hp) (xs : List V) (Qt : V → Hp → Prop), n1 ≤ n + 30000 → DW H3 p b sA scs' n1 → H3 D = some (.lst xs) → (∀ b1 n2 v H4, okB scs' n1 dp mq 4 b1 n2 → Kp [p, b] H3 H4 → DW H4 p b sA scs' n2 → Dp K (tp H4) v (.tuple b1.encs) → n2 ≤ n1 + 9000 → Qt v H4) →
          spBody K dp mq [.ref p, .ref b, .ref sA, .int (dp : Int), .int (((mq + 1 : Nat) : Int) - 1)] H3 Qt E0 := by
        intro n1 H3 xs Qt hn1 W3 hD3 hQ
        rw [emq]
        refine ⟨p, b, sA, scs', n1, rfl, W3, hdp, by omega, by omega, by unfold LB at hn ⊢; omega, fun r n2 v H4 hok k4 P4 b4 hv => hQ r n2 v H4 hok k4 (W3.step k4 P4 b4) hv ?_⟩
        have h1 := okB_size hok
        have h2 := okB_le hok
        have h3 : mxB dp mq ≤ 2355 := mxB_le hdp (by omega)
        omega
      refine lc_range (lo := 0) (n := ((2 : Int)).toNat) (fun i H3 => ∃ (bs : List Bd) (n2 : Nat) (xs : List V), bs.length = i ∧ chain scs' dp mq n' bs n2 ∧ n2 ≤ n' + 9000 * i ∧ H3 D = some (.lst xs) ∧ DpAll K (tp H3) xs (bs.map fun b => .tuple b.encs) ∧ Kp [p, b] H2 H3 ∧ DW H3 p b sA scs' n2)
        ⟨[], n', [], rfl, .nil, by omega, upd_same, .nil, Kp.new hD, WH.new hD⟩ ?_ ?_
      · rintro i H3 hi ⟨bs, n2, xs, hbl, hch, hn2, hD3, hxs, k3, W3⟩
        have hi2 : i < 2 := hi
        refine ⟨rfl, lc_yes ⟨_, rfl, _, rfl, _, rfl, _, rfl, _, rfl, _, _, rfl, rfl, turn n2 H3 xs _ (by omega) W3 hD3 fun b1 n3 v H4 hok k4 W4 hv hn3 => ?_⟩⟩
        have D4 := k4 D _ nD.2.2.2 hD3
        have T4 := W3.tpk k4
        refine ⟨xs, D4, ?_, bs ++ [b1], n3, xs ++ [v], by simp [hbl], .snoc hch hok, by omega, upd_same, ?_, (k3.trans k4).mut hD, W4.mut nD.1 nD.2.1 nD.2.2.1⟩
        · rw [dpa_len hxs, List.length_map, hbl]
          exact Nat.lt_of_lt_of_le hi2 (by decide)
        · rw [List.map_append]
          exact dpa_app (dpa_ex (T4.trans (Tp.lst D4)).ex hxs) (dpa_one (dp_ex (Tp.lst D4).ex hv))
      · rintro H3 ⟨bs, n2, xs, hbl, hch, hn2, hD3, hxs, k3, W3⟩
        obtain ⟨b1, b2, nb, rfl, ho1, ho2⟩ := chain_two hch hbl
        obtain ⟨v1, v2, rfl, hv1, hv2⟩ : ∃ v1 v2, xs = [v1, v2] ∧ Dp K (tp H3) v1 (.tuple b1.encs) ∧ Dp K (tp H3) v2 (.tuple b2.encs) := by
          cases hxs with
          | cons h1 r => cases r with
            | cons h2 r => cases r with
              | nil => exact ⟨_, _, rfl, h1, h2⟩
        have T3 := WH.tpk k3
        have q3 := k3 q _ nq.2.2.2 hqH
        have m3 := k3 m _ (by simp [mp, mb]) hm
        refine ⟨_, rfl, q, vs, rfl, .inl ⟨sq_of q3, fun t1 ht1 => ?_⟩⟩
        have W4 := W3.new (o := .tup vs) ht1
        have m4 := Ex.new ht1 (o := .tup vs) m _ m3
        have D4 := Ex.new ht1 (o := .tup vs) D _ hD3
        refine ⟨_, rfl, _, rfl, p, m, _, rfl, W4.pail, mp, .inl (sq_of m4), hpos, hlen, fun i x H5 hx k5 P5 => ?_⟩
        obtain ⟨a, oa, rfl⟩ := any_atom hns hx
        have W5 := W4.keep k5 P5
        have T5 := W4.tpk (k5.mono (qs := [p, b]) (by simp))
        have D5 := k5 D _ (by simpa using nD.1) D4
        refine ⟨_, rfl, D, _, 0, _, rfl, rfl, sq_of D5, rfl, _, rfl, D, _, 1, _, rfl, rfl, sq_of D5, rfl, sz1 (by simp), fun t3 ht3 => ⟨sz1 (by simp), fun t2 ht2 => ?_⟩⟩
        have W6 := (W5.new (o := .tup [.str "if", a.val, v1, v2]) ht3).new (o := .tup [.ref t3]) ht2
        have TA : Tp H3 H5 := (Tp.new ht1).trans T5
        have TB : Tp H5 (upd (upd H5 t3 (.tup [.str "if", a.val, v1, v2])) t2 (.tup [.ref t3])) := (Tp.new ht3).trans (Tp.new ht2)
        refine fin ss scs' n' n2 (.cond a b1 b2) _ _ vs _ sA t1 t2 hl hss (okB_cond oa ho1 ho2) (by rw [Bd.encs]) (((((kH.trans k3).trans (Kp.new ht1)).trans (k5.mono (by simp))).trans (Kp.new ht3)).trans (Kp.new ht2)) W6 (TB t1 _ (T5 t1 _ upd_same)) upd_same
          (dpa_ex (T3.trans (TA.trans TB)).ex hvs) (.tup (st_of (tp_of ((Tp.new ht2) t3 _ upd_same))) (.cons (.str "if") (.cons (dp_at a) (.cons (dp_ex (TA.trans TB).ex hv1) (.cons (dp_ex (TA.trans TB).ex hv2) .nil)))))
    rintro σ' H3 ⟨rfl, rfl⟩
    -- a tail
    refine ⟨_, rfl, rfl, _, rfl, ite2 (fun _ => ?_) (fun _ => ?_)⟩
    · refine ⟨_, rfl, sz1 (by simp), fun l hl1 => ⟨_, rfl, l, sA, _, _, rfl, rfl, upd_same, (WH.new hl1).sc, sz1 (by simp; omega), fun l2 hl2 => ?_⟩⟩
      have Wl := WH.new (o := .lst [.str "g", .str "h"]) hl1
      have W3 := Wl.new (o := .lst ([.str "g", .str "h"] ++ scs'.map V.str)) hl2
      refine ⟨p, l2, _, rfl, W3.pail, (Wl.nep hl2).1, .inl (sq_of upd_same), by simp, by simp; omega, fun i x H4 hx k4 P4 => ?_⟩
      have W4 := W3.keep k4 P4
      obtain ⟨f, hf, rfl⟩ : ∃ f : At, okF scs' f ∧ x = f.val := by
        obtain ⟨y, hy, rfl⟩ := any_str (ws := (["g", "h"] : List Str) ++ scs') (by rw [List.map_append]; exact hx)
        refine ⟨.nm y, ?_, rfl⟩
        rcases List.mem_append.mp hy with h | h
        · rcases List.mem_cons.mp h with h | h
          · exact .inl h
          · exact .inr (.inl (by simpa using h))
        · exact .inr (.inr h)
      have T4 : Tp H3 H4 := ((Tp.new hl1).trans (Tp.new hl2)).trans (W3.tpk (k4.mono (qs := [p, b]) (by simp)))
      have K4 : Kp [p, b] H H4 := ((kH.trans (Kp.new hl1)).trans (Kp.new hl2)).trans (k4.mono (by simp))
      have q4 := k4 q _ (by simpa using nq.1) (Ex.new hl2 q _ (Ex.new hl1 q _ hqH))
      have m4 := k4 m _ (by simpa using mp) (Ex.new hl2 m _ (Ex.new hl1 m _ hm))
      refine ⟨_, rfl, q, vs, rfl, .inl ⟨sq_of q4, fun t1 ht1 => ⟨_, rfl, _, rfl, _, rfl, p, m, _, rfl, (W4.new ht1).pail, mp, .inl (sq_of (Ex.new ht1 m _ m4)), hpos, hlen, fun j y H5 hy k5 P5 => ⟨sz1 (by simp), fun t4 ht4 => ⟨sz1 (by simp), fun t3 ht3 => ⟨sz1 (by simp), fun t2 ht2 => ?_⟩⟩⟩⟩⟩⟩
      obtain ⟨a, oa, rfl⟩ := any_atom hns hy
      have W5 := (W4.new (o := .tup vs) ht1).keep k5 P5
      have T5 : Tp H4 H5 := (Tp.new ht1).trans ((W4.new (o := .tup vs) ht1).tpk (k5.mono (qs := [p, b]) (by simp)))
      have W6 := ((W5.new (o := .tup [a.val]) ht4).new (o := .tup [.str "tail", f.val, .ref t4]) ht3).new (o := .tup [.ref t3]) ht2
      have TB := ((Tp.new ht4 (o := .tup [a.val])).trans (Tp.new ht3 (o := .tup [.str "tail", f.val, .ref t4]))).trans (Tp.new ht2 (o := .tup [.ref t3]))
      have h1 := k5 t1 _ (by simpa using (W4.nep ht1).1) upd_same
      have h3 := (Tp.new ht2 (o := .tup [.ref t3])) t3 _ upd_same
      have h4 := (Tp.new ht2 (o := .tup [.ref t3])) t4 _ ((Tp.new ht3 (o := .tup [.str "tail", f.val, .ref t4])) t4 _ upd_same)
      refine fin ss scs' n' n' (.tail f [a]) _ _ vs _ sA t1 t2 hl hss (okB_tail hf oa) (by rw [Bd.encs]; rfl) (((((K4.trans (Kp.new ht1)).trans (k5.mono (by simp))).trans (Kp.new ht4)).trans (Kp.new ht3)).trans (Kp.new ht2)) W6 (TB t1 _ h1) upd_same
        (dpa_ex (T4.trans (T5.trans TB)).ex hvs) (.tup (st_of (tp_of h3)) (.cons (.str "tail") (.cons (dp_at f) (.cons (.tup (st_of (tp_of h4)) (dpa_one (dp_at a))) .nil))))
    -- a give
    · refine ⟨_, rfl, q, vs, rfl, .inl ⟨sq_of hqH, fun t1 ht1 => ⟨_, rfl, _, rfl, p, m, _, rfl, (WH.new ht1).pail, mp, .inl (sq_of (Ex.new ht1 m _ hm)), hpos, hlen, fun j y H5 hy k5 P5 => ⟨sz1 (by simp), fun t3 ht3 => ⟨sz1 (by simp), fun t2 ht2 => ?_⟩⟩⟩⟩⟩
      obtain ⟨a, oa, rfl⟩ := any_atom hns hy
      have W5 := (WH.new (o := .tup vs) ht1).keep k5 P5
      have T5 : Tp H3 H5 := (Tp.new ht1).trans ((WH.new (o := .tup vs) ht1).tpk (k5.mono (qs := [p, b]) (by simp)))
      have W6 := (W5.new (o := .tup [.str "give", a.val]) ht3).new (o := .tup [.ref t3]) ht2
      have TB := (Tp.new ht3 (o := .tup [.str "give", a.val])).trans (Tp.new ht2 (o := .tup [.ref t3]))
      have h1 := k5 t1 _ (by simpa using (WH.nep ht1).1) upd_same
      have h3 := (Tp.new ht2 (o := .tup [.ref t3])) t3 _ upd_same
      refine fin ss scs' n' n' (.give a) _ _ vs _ sA t1 t2 hl hss (okB_give oa) (by rw [Bd.encs]) ((((kH.trans (Kp.new ht1)).trans (k5.mono (by simp))).trans (Kp.new ht3)).trans (Kp.new ht2)) W6 (TB t1 _ h1) upd_same
        (dpa_ex (T5.trans TB).ex hvs) (.tup (st_of (tp_of h3)) (.cons (.str "give") (.cons (dp_at a) .nil)))
end
end K4

set_option maxHeartbeats 4000000
namespace PG
open PySem L2 Evl DL TL
mutual
/-- its words are those of the language -/
def wfR : Rt → Prop
  | .two w _ _ => w ∈ wTwo
  | .one w _ => w ∈ wOne
  | .call _ _ => True
  | .fn _ b => wfB b
def wfB : Bd → Prop
  | .give _ => True
  | .tail _ _ => True
  | .cond _ b c => wfB b ∧ wfB c
  | .lets _ r rest => wfR r ∧ wfB rest
  | .says _ rest => wfB rest
end
mutual
theorem okR_wf {sc : List Str} {bx dp : Nat} : ∀ {r : Rt} {bx' : Nat}, okR sc bx dp r bx' → wfR r
  | .two _ _ _, _, h => by simp only [okR] at h; simp only [wfR]; exact h.2.1
  | .one _ _, _, h => by simp only [okR] at h; simp only [wfR]; exact h.2.1
  | .call _ _, _, h => by simp only [wfR]
  | .fn ps b, _, h => by
    simp only [okR] at h
    obtain ⟨n, dq, hn, rfl, _, h⟩ := h
    simp only [wfR]
    exact okB_wf h
theorem okB_wf {sc : List Str} {bx dp mo st : Nat} : ∀ {b : Bd} {bx' : Nat}, okB sc bx dp mo st b bx' → wfB b
  | .give _, _, h => by simp only [wfB]
  | .tail _ _, _, h => by simp only [wfB]
  | .cond _ b c, _, h => by
    simp only [okB] at h
    obtain ⟨_, mq, b1, rfl, h1, h2⟩ := h
    simp only [wfB]
    exact ⟨okB_wf h1, okB_wf h2⟩
  | .lets _ r rest, _, h => by
    simp only [okB] at h
    obtain ⟨sq, b1, rfl, h1, _, h2⟩ := h
    simp only [wfB]
    exact ⟨okR_wf h1, okB_wf h2⟩
  | .says _ rest, _, h => by
    simp only [okB] at h
    obtain ⟨sq, rfl, _, h2⟩ := h
    simp only [wfB]
    exact okB_wf h2
end
/-- the sizes of the bodies within, statement by statement -/
def Bd.subs : Bd → List Nat
  | .give _ => [0]
  | .tail _ _ => [0]
  | .cond _ b c => [b.size + c.size]
  | .lets _ r rest => r.size :: rest.subs
  | .says _ rest => 0 :: rest.subs
theorem Bd.subs_size : ∀ b : Bd, b.size = b.encs.length + b.subs.sum
  | .give _ => rfl
  | .tail _ _ => rfl
  | .cond _ b c => by simp only [Bd.size, Bd.encs, Bd.subs, List.length_singleton, List.sum_cons, List.sum_nil]; omega
  | .lets _ r rest => by
    have := Bd.subs_size rest
    simp only [Bd.size, Bd.encs, Bd.subs, List.length_cons, List.sum_cons]; omega
  | .says _ rest => by
    have := Bd.subs_size rest
    simp only [Bd.size, Bd.encs, Bd.subs, List.length_cons, List.sum_cons]; omega
/-- what a statement is, as far as bodies within go -/
inductive Stm (dd : Nat) : PyData → Nat → Prop where
  | letp (x : Str) {w : Str} {r : List PyData} (h : w ≠ "fun") : Stm dd (.tuple [.str "let", .str x, .tuple (.str w :: r)]) 0
  | letf (x : Str) (ps : List Str) (b : Bd) (h : b.deep < dd) (hw : wfB b) : Stm dd (.tuple [.str "let", .str x, .tuple [.str "fun", .tuple (ps.map PyData.str), .tuple b.encs]]) b.size
  | cond (a : At) (b c : Bd) (hb : b.deep < dd) (hc : c.deep < dd) (wb : wfB b) (wc : wfB c) : Stm dd (.tuple [.str "if", a.enc, .tuple b.encs, .tuple c.encs]) (b.size + c.size)
  | other {w : Str} {r : List PyData} (h : w ≠ "let") (h2 : w ≠ "if") : Stm dd (.tuple (.str w :: r)) 0
theorem Stm.mono {d d' : Nat} {x : PyData} {m : Nat} (h : Stm d x m) (hd : d ≤ d') : Stm d' x m := by
  cases h with
  | letp x h => exact .letp x h
  | letf x ps b h hw => exact .letf x ps b (by omega) hw
  | cond a b c hb hc wb wc => exact .cond a b c (by omega) (by omega) wb wc
  | other h h2 => exact .other h h2
theorem stm_right (x : Str) : ∀ {r : Rt} {dd : Nat}, wfR r → r.deep < dd → Stm dd (.tuple [.str "let", .str x, r.enc]) r.size
  | .two w a b, dd, h, _ => by
    simp only [wfR] at h
    simp only [Rt.enc, Rt.size]
    refine .letp x (fun e => ?_)
    subst e
    exact absurd h (by decide +kernel)
  | .one w a, dd, h, _ => by
    simp only [wfR] at h
    simp only [Rt.enc, Rt.size]
    refine .letp x (fun e => ?_)
    subst e
    exact absurd h (by decide +kernel)
  | .call f xs, dd, h, _ => by
    simp only [Rt.enc, Rt.size]
    exact .letp x (by decide +kernel)
  | .fn ps b, dd, h, hd => by
    simp only [wfR] at h
    simp only [Rt.deep] at hd
    simp only [Rt.enc, Rt.size]
    exact .letf x ps b hd h
theorem stm_at : ∀ (b : Bd), wfB b → ∀ (i : Nat) (d : PyData), b.encs[i]? = some d → ∃ m, b.subs[i]? = some m ∧ Stm b.deep d m
  | .give a, _, i, d, h => by
    cases i with
    | zero => simp only [Bd.encs] at h; cases h; exact ⟨0, rfl, .other (by decide +kernel) (by decide +kernel)⟩
    | succ i => simp [Bd.encs] at h
  | .tail f xs, _, i, d, h => by
    cases i with
    | zero => simp only [Bd.encs] at h; cases h; exact ⟨0, rfl, .other (by decide +kernel) (by decide +kernel)⟩
    | succ i => simp [Bd.encs] at h
  | .cond a b c, hw, i, d, h => by
    simp only [wfB] at hw
    cases i with
    | zero => simp only [Bd.encs] at h; cases h; exact ⟨_, rfl, .cond a b c (by simp only [Bd.deep]; omega) (by simp only [Bd.deep]; omega) hw.1 hw.2⟩
    | succ i => simp [Bd.encs] at h
  | .lets x r rest, hw, i, d, h => by
    simp only [wfB] at hw
    cases i with
    | zero => simp only [Bd.encs] at h; cases h; exact ⟨_, rfl, stm_right x hw.1 (by simp only [Bd.deep]; omega)⟩
    | succ i =>
      simp only [Bd.encs, List.getElem?_cons_succ] at h
      obtain ⟨m, h1, h2⟩ := stm_at rest hw.2 i d h
      exact ⟨m, by simpa only [Bd.subs, List.getElem?_cons_succ] using h1, h2.mono (by simp only [Bd.deep]; omega)⟩
  | .says a rest, hw, i, d, h => by
    simp only [wfB] at hw
    cases i with
    | zero => simp only [Bd.encs] at h; cases h; exact ⟨0, rfl, .other (by decide +kernel) (by decide +kernel)⟩
    | succ i =>
      simp only [Bd.encs, List.getElem?_cons_succ] at h
      obtain ⟨m, h1, h2⟩ := stm_at rest hw i d h
      exact ⟨m, by simpa only [Bd.subs, List.getElem?_cons_succ] using h1, h2.mono (by simp only [Bd.deep]; omega)⟩
theorem sum_take_succ : ∀ {l : List Nat} {i m : Nat}, l[i]? = some m → (l.take (i + 1)).sum = (l.take i).sum + m
  | x :: l, 0, m, h => by simp at h; simp [h]
  | x :: l, i + 1, m, h => by
    simp only [List.getElem?_cons_succ] at h
    have := sum_take_succ h
    simp only [List.take_succ_cons, List.sum_cons]
    omega
  | [], 0, m, h => by simp at h
  | [], i + 1, m, h => by simp at h
theorem sum_take_le : ∀ (l : List Nat) (i : Nat), (l.take i).sum ≤ l.sum
  | [], i => by simp
  | x :: l, 0 => by simp
  | x :: l, i + 1 => by
    have := sum_take_le l i
    simp only [List.take_succ_cons, List.sum_cons]
    omega
theorem Bd.subs_len : ∀ b : Bd, b.subs.length = b.encs.length
  | .give _ => rfl
  | .tail _ _ => rfl
  | .cond _ b c => by simp [Bd.encs, Bd.subs]
  | .lets _ r rest => by simp [Bd.encs, Bd.subs, Bd.subs_len rest]
  | .says _ rest => by simp [Bd.encs, Bd.subs, Bd.subs_len rest]
end PG
namespace K4
open PySem L2 Evl DL PG
section
variable {P : Program} {w : World} {K : PySem.W.Frag} {mg : Str → Option Value} {base : Heap}
def spSize (K : PySem.W.Frag) (dd : Nat) : Sp := fun vs H Q _ => ∃ (b : Bd) (v : V), vs = [v] ∧ b.deep ≤ dd ∧ wfB b ∧ b.size ≤ 1000000 ∧ Dp K H v (.tuple b.encs) ∧ ∀ H', Ex H H' → Q (.int (b.size : Int)) H'
theorem bd_size : BindP "_law_size" s_law_size ["body"] := fun _ _ _ _ _ _ us hl => match us, hl with | [_], _ => rfl
theorem ok_size (T : Txt K mg) : ∀ dd : Nat, DefOk P w K mg base CX0 false (dd + 1) "_law_size" s_law_size ["body"] (spSize K dd) := by
  intro dd
  induction dd with
  | zero =>
    obtain ⟨f, fd, F, hm⟩ := T.d_law_size.ex
    refine ⟨f, fd, F, hm, ⟨fun vs H Q E h => ?_, fun _ _ _ _ _ _ vs _ _ _ _ _ _ h => ?_⟩⟩
    · obtain ⟨b, v, rfl, _⟩ := h
      rfl
    · obtain ⟨b, v, rfl, hd, _⟩ := h
      exact absurd (Bd.deep_pos b) (by omega)
  | succ dd ih =>
    refine T.d_law_size.ok scs_law_size (fun vs H Q E h => ?_) (fun f cdv A outer s0 H vs Q E hr h => ?_)
    · obtain ⟨b, v, rfl, _⟩ := h
      rfl
    · obtain ⟨b, v, rfl, hd, hw, hsz, hv, k⟩ := h
      obtain ⟨a, xs, rfl, hS, hxs⟩ := dp_tup hv
      have nd := scs_law_size.nd
      have lx : xs.length = b.encs.length := dpa_len hxs
      refine ⟨_, pss_cons (ps_set (i := 1) nd rfl (.inl rfl) (pe_callB call_len_seq (by rfl) T.b_len PySem.boot_len (pa_cons (pv 0) pa_nil)))
        (pss_cons (ps_for PassesOwn.never rfl (pi_tup (pv 0)) (pg_name (i := 2) nd rfl (.inl rfl))
          (pss_one (ps_if (PW.pt (pw_and (pt_cmpR op_eq (pe_ix ix_tup (pv 2) pe_int (fun _ _ => rfl)) pe_str (nomark _)) (pw_and1 (pt_cmpR op_eq (pe_ix ix_tup (pe_ix ix_tup (pv 2) pe_int (fun _ _ => rfl)) pe_int (fun _ _ => rfl)) pe_str (nomark _)))))
            (pss_one (ps_set (i := 1) nd rfl (.inl rfl) (pe_op op_add (pv 1) (pe_callD ih hr (.inl rfl) bd_size pass0 (pa_cons (pe_ix ix_tup (pe_ix ix_tup (pv 2) pe_int (fun _ _ => rfl)) pe_int (fun _ _ => rfl)) pa_nil)))))
            (pss_one (ps_if (pt_cmpR op_eq (pe_ix ix_tup (pv 2) pe_int (fun _ _ => rfl)) pe_str (nomark _))
              (pss_one (ps_set (i := 1) nd rfl (.inl rfl) (pe_op op_add (pe_op op_add (pv 1) (pe_callD ih hr (.inl rfl) bd_size pass0 (pa_cons (pe_ix ix_tup (pv 2) pe_int (fun _ _ => rfl)) pa_nil))) (pe_callD ih hr (.inl rfl) bd_size pass0 (pa_cons (pe_ix ix_tup (pv 2) pe_int (fun _ _ => rfl)) pa_nil)))))
              pss_nil)))))
        (pss_one (ps_ret (pv 1)))), ?_⟩
      refine ⟨_, rfl, a, xs, rfl, .inr hS, ?_⟩
      refine ⟨_, rfl, a, rfl, ⟨_, hS⟩, for_tup (K := K) (a := a) (xs := xs) (fun i σ H' => ∃ y : Option V, σ = [some (.ref a), some (.int ((b.encs.length + (b.subs.take i).sum : Nat) : Int)), y] ∧ Ex H H')
        ⟨none, by rw [lx]; rfl, Ex.refl H⟩ (fun i σ H' _ z => ?_) ?_ ?_⟩
      · obtain ⟨y, _, e⟩ := z
        exact ex_t e hS
      · rintro i x σ H' hi ⟨y, rfl, e⟩
        obtain ⟨d, hd', hx⟩ := dpa_getV hxs hi
        obtain ⟨m, hm, st⟩ := stm_at b hw i d hd'
        have hsum := sum_take_succ hm
        have hle := sum_take_le b.subs (i + 1)
        have hbs := Bd.subs_size b
        have next : ∀ (z : Int), z = ((b.encs.length + (b.subs.take (i + 1)).sum : Nat) : Int) → ∀ y' : Option V, ∃ y : Option V, [some (V.ref a), some (V.int z), y'] = [some (.ref a), some (.int ((b.encs.length + (b.subs.take (i + 1)).sum : Nat) : Int)), y] ∧ Ex H H' := fun z hz y' => ⟨y', by rw [hz], e⟩
        have same : m = 0 → ∃ y : Option V, [some (V.ref a), some (V.int ((b.encs.length + (b.subs.take i).sum : Nat) : Int)), some x] = [some (.ref a), some (.int ((b.encs.length + (b.subs.take (i + 1)).sum : Nat) : Int)), y] ∧ Ex H H' := fun h => next _ (by rw [hsum, h]; rfl) _
        cases st with
        | letp x0 hne =>
          obtain ⟨c, ys, rfl, hc, hys⟩ := dp_tup hx
          cases hys with | cons h1 hys => cases hys with | cons h2 hys => cases hys with | cons h3 hys => cases hys with | nil =>
          obtain rfl := dp_str h1
          obtain ⟨c3, zs, rfl, hc3, hzs⟩ := dp_tup h3
          cases hzs with | cons g1 hzs =>
          obtain rfl := dp_str g1
          refine ⟨_, rfl, c, _, 0, _, rfl, rfl, ex_t e hc, rfl, rfl, _, rfl, itT (str_eq rfl) ⟨_, rfl, c, _, 2, _, rfl, rfl, ex_t e hc, rfl, c3, _, 0, _, rfl, rfl, ex_t e hc3, atI_nat (j := 0) rfl, rfl, _, rfl, itF (str_ne hne) ?_⟩⟩
          exact ⟨_, rfl, c, _, 0, _, rfl, rfl, ex_t e hc, rfl, rfl, _, rfl, itF (str_ne (by decide +kernel)) (same rfl)⟩
        | letf x0 ps b' hdp hwb =>
          obtain ⟨c, ys, rfl, hc, hys⟩ := dp_tup hx
          cases hys with | cons h1 hys => cases hys with | cons h2 hys => cases hys with | cons h3 hys => cases hys with | nil =>
          obtain rfl := dp_str h1
          obtain ⟨c3, zs, rfl, hc3, hzs⟩ := dp_tup h3
          cases hzs with | cons g1 hzs => cases hzs with | cons g2 hzs => cases hzs with | cons g3 hzs => cases hzs with | nil =>
          obtain rfl := dp_str g1
          refine ⟨_, rfl, c, _, 0, _, rfl, rfl, ex_t e hc, rfl, rfl, _, rfl, itT (str_eq rfl) ⟨_, rfl, c, _, 2, _, rfl, rfl, ex_t e hc, rfl, c3, _, 0, _, rfl, rfl, ex_t e hc3, rfl, rfl, _, rfl, itT (str_eq rfl) ?_⟩⟩
          refine ⟨_, rfl, _, rfl, c, _, 2, _, rfl, rfl, ex_t e hc, rfl, c3, _, 2, _, rfl, rfl, ex_t e hc3, rfl, b', _, rfl, by omega, hwb, by omega, dp_ex e g3, fun H2 e2 => ⟨_, _, rfl, rfl, ?_⟩⟩
          obtain ⟨y1, q1, _⟩ := next (((b.encs.length + (b.subs.take i).sum : Nat) : Int) + (b'.size : Int)) (by rw [hsum]; omega) (some (V.ref c))
          exact ⟨y1, q1, e.trans e2⟩
        | cond a0 b1 b2 hd1 hd2 w1 w2 =>
          obtain ⟨c, ys, rfl, hc, hys⟩ := dp_tup hx
          cases hys with | cons h1 hys => cases hys with | cons h2 hys => cases hys with | cons h3 hys => cases hys with | cons h4 hys => cases hys with | nil =>
          obtain rfl := dp_str h1
          refine ⟨_, rfl, c, _, 0, _, rfl, rfl, ex_t e hc, rfl, rfl, _, rfl, itF (str_ne (by decide +kernel)) ?_⟩
          refine ⟨_, rfl, c, _, 0, _, rfl, rfl, ex_t e hc, rfl, rfl, _, rfl, itT (str_eq rfl) ?_⟩
          refine ⟨_, rfl, _, rfl, c, _, 2, _, rfl, rfl, ex_t e hc, rfl, b1, _, rfl, by omega, w1, by omega, dp_ex e h3, fun H2 e2 => ⟨_, _, rfl, rfl, _, rfl, c, _, 3, _, rfl, rfl, ex_t (e.trans e2) hc, rfl, b2, _, rfl, by omega, w2, by omega, dp_ex (e.trans e2) h4, fun H3 e3 => ⟨_, _, rfl, rfl, ?_⟩⟩⟩
          obtain ⟨y1, q1, _⟩ := next (((b.encs.length + (b.subs.take i).sum : Nat) : Int) + (b1.size : Int) + (b2.size : Int)) (by rw [hsum]; omega) (some (V.ref c))
          exact ⟨y1, q1, (e.trans e2).trans e3⟩
        | other hn1 hn2 =>
          obtain ⟨c, ys, rfl, hc, hys⟩ := dp_tup hx
          cases hys with | cons h1 hys =>
          obtain rfl := dp_str h1
          refine ⟨_, rfl, c, _, 0, _, rfl, rfl, ex_t e hc, atI_nat (j := 0) rfl, rfl, _, rfl, itF (str_ne hn1) ?_⟩
          exact ⟨_, rfl, c, _, 0, _, rfl, rfl, ex_t e hc, atI_nat (j := 0) rfl, rfl, _, rfl, itF (str_ne hn2) (same rfl)⟩
      · rintro σ H' ⟨y, rfl, e⟩
        refine ⟨_, rfl, ?_⟩
        have es : b.encs.length + (b.subs.take xs.length).sum = b.size := by
          have e2 : xs.length = b.subs.length := by rw [lx, Bd.subs_len]
          rw [e2, List.take_length]
          exact (Bd.subs_size b).symm
        show Q (.int ((b.encs.length + (b.subs.take xs.length).sum : Nat) : Int)) H'
        rw [es]
        exact k H' e
end
end K4

set_option maxHeartbeats 4000000
namespace DL
open PySem L2 Evl
/-- two promises of one def -/
theorem DefOk.or {P : Program} {w : World} {K : PySem.W.Frag} {mg : Str → Option Value} {base : Heap} {CX : CXT} {G : Bool} {k : Nat} {x : Str} {st : Stmt} {ps : List Str} {sp sp' : Sp}
    (D : DefOk P w K mg base CX G k x st ps sp) (D' : DefOk P w K mg base CX G k x st ps sp') : DefOk P w K mg base CX G k x st ps (fun vs H Q E => sp vs H Q E ∨ sp' vs H Q E) := by
  obtain ⟨f, fd, F, hm, R⟩ := D.ex
  obtain ⟨f', fd', F', hm', R'⟩ := D'.ex
  obtain rfl : f = f' := by
    have e := hm.symm.trans hm'
    injection e with e
    injection e
  obtain rfl : fd = fd' := by
    obtain ⟨oc, od, kV, doc, pm, an, cdv, ct, osl, rfl, lk, _⟩ := F.ex
    obtain ⟨oc', od', kV', doc', pm', an', cdv', ct', osl', rfl, lk', _⟩ := F'.ex
    have e := lk.symm.trans lk'
    injection e with e
    injection e with _ _ e _
    injection e
  refine ⟨f, fd, F, hm, ?_⟩
  cases G with
  | true => exact ⟨fun vs H Q E z => z.elim (fun h => Rn.len (E := E) R h) (fun h => Rn.len (E := E) R' h), fun A outer s H args us vs Q E hg hr e0 hb r z => z.elim (R.run A outer s H args us vs Q E hg hr e0 hb r) (R'.run A outer s H args us vs Q E hg hr e0 hb r)⟩
  | false => exact ⟨fun vs H Q E z => z.elim (fun h => Rn.len (E := E) R h) (fun h => Rn.len (E := E) R' h), fun A outer s H args us vs Q E hr e0 hb r z => z.elim (R.run A outer s H args us vs Q E hr e0 hb r) (R'.run A outer s H args us vs Q E hr e0 hb r)⟩
theorem erase_perm {α : Type} : ∀ {l : List α} {k : Nat} {y : α}, l[k]? = some y → (y :: l.eraseIdx k).Perm l
  | x :: l, 0, y, h => by simp at h; subst h; exact List.Perm.refl _
  | x :: l, k + 1, y, h => by
    simp only [List.getElem?_cons_succ] at h
    simp only [List.eraseIdx_cons_succ]
    exact (List.Perm.swap x y _).trans (List.Perm.cons x (erase_perm h))
  | [], 0, y, h => by simp at h
  | [], k + 1, y, h => by simp at h
end DL
namespace K4
open PySem L2 Evl DL PG
section
variable {P : Program} {w : World} {K : PySem.W.Frag} {mg : Str → Option Value} {base : Heap}
/-! ### shuffled -/
def spShuf (K : PySem.W.Frag) : Sp := fun vs H Q _ => ∃ p q xs, vs = [.ref p, .ref q] ∧ Pail H p ∧ q ≠ p ∧ SqL K H q xs ∧ xs.length ≤ 1000 ∧
  ∀ ys f H', List.Perm ys xs → H f = none → H' f = some (.lst ys) → Kp [p] H H' → Pail H' p → Q (.ref f) H'
theorem bd_shuf : BindP "_law_shuffled" s_law_shuffled ["pail", "some"] := fun _ _ _ _ _ _ us hl => match us, hl with | [_, _], _ => rfl
theorem ok_shuf (T : Txt K mg) : DefOk P w K mg base CX0 false 2 "_law_shuffled" s_law_shuffled ["pail", "some"] (spShuf K) := by
  refine T.d_law_shuffled.ok scs_law_shuffled (fun vs H Q E h => ?_) (fun f cdv A outer s0 H vs Q E hr h => ?_)
  · obtain ⟨p, q, xs, rfl, _⟩ := h
    rfl
  · obtain ⟨p, q, xs, rfl, hp, hne, hq, hlen, k⟩ := h
    have nd := scs_law_shuffled.nd
    refine ⟨_, pss_cons (ps_par (i := 2) (j := 3) (by rfl) nd rfl rfl (by decide) rfl rfl (pa_cons (pe_callTy call_list_of (by rfl) T.b_list (by decide +kernel) (pa_cons (pv 1) pa_nil)) (pa_cons (pe_lst pa_nil) pa_nil)) (by rfl))
      (pss_cons (ps_for PassesOwn.never rfl (pi_range1 (by rfl) T.b_range (pa_cons (pe_callB call_len_seq (by rfl) T.b_len PySem.boot_len (pa_cons (pv 2) pa_nil)) pa_nil)) (pg_name (i := 4) nd rfl (.inl rfl))
        (pss_one (ps_expr (pe_bm PySem.F.plainAttrs_list PySem.F.slot_list_append PySem.F.type_list_append mt_append (pv 3) (pa_cons (pe_bm PySem.F.plainAttrs_list PySem.F.slot_list_pop PySem.F.type_list_pop mt_popAt (pv 2) (pa_cons (pe_callD (ok_deal T) hr (.inl rfl) bd_deal pass0 (pa_cons (pv 0) (pa_cons (pe_callB call_len_seq (by rfl) T.b_len PySem.boot_len (pa_cons (pv 2) pa_nil)) pa_nil))) pa_nil)) pa_nil)))))
      (pss_one (ps_ret (pv 3)))), ?_⟩
    refine ⟨_, rfl, q, xs, rfl, .inl hq, fun l hl => ⟨sz1 (by simp), fun g hg => ⟨_, _, rfl, ?_⟩⟩⟩
    have lg : l ≠ g := ne_of_none upd_same hg
    obtain ⟨pa, pb, pc, hp0⟩ := id hp
    have pl : p ≠ l := ne_of_none hp0 hl
    have pg : p ≠ g := ne_of_none (by rw [upd_ne pl]; exact hp0) hg
    have l1 : (upd (upd H l (.lst xs)) g (.lst [])) l = some (.lst xs) := by rw [upd_ne lg, upd_same]
    refine ⟨_, rfl, l, xs, rfl, .inl (sq_of l1), _, rfl, by omega, by omega, ?_⟩
    refine for_range (lo := 0) (n := ((xs.length : Int)).toNat) (fun i σ' H' => ∃ (ls fs : List V) (y : Option V), σ' = [some (.ref p), some (.ref q), some (.ref l), some (.ref g), y] ∧ Kp [p] H H' ∧ Pail H' p ∧ H' l = some (.lst ls) ∧ H' g = some (.lst fs) ∧
        List.Perm (fs ++ ls) xs ∧ fs.length = i ∧ ls.length + i = xs.length)
      ⟨xs, [], none, rfl, (Kp.new hl).trans (Kp.new hg), ⟨pa, pb, pc, by rw [upd_ne pg, upd_ne pl]; exact hp0⟩, l1, upd_same, List.Perm.refl _, rfl, rfl⟩ ?_ ?_
    · rintro i σ' H' hi ⟨ls, fs, y, rfl, kH, hpH, hls, hfs, hpm, hfl, hll⟩
      have hi2 : i < xs.length := by omega
      have lpos : 0 < ls.length := by omega
      refine ⟨_, rfl, .inl ⟨rfl, _, sq_of hfs⟩, _, rfl, .inl ⟨rfl, _, sq_of hls⟩, _, rfl, _, rfl, l, ls, rfl, .inl (sq_of hls), p, (ls.length : Int), rfl, hpH, by omega, by omega, fun j H2 j0 j1 k2 P2 => ?_⟩
      obtain ⟨n, rfl⟩ : ∃ n : Nat, j = (n : Int) := ⟨j.toNat, by omega⟩
      have hn : n < ls.length := by omega
      have l2 : H2 l = some (.lst ls) := k2 l _ (by simpa using pl.symm) hls
      have g2 : H2 g = some (.lst fs) := k2 g _ (by simpa using pg.symm) hfs
      have hy : ls[n]? = some ls[n] := List.getElem?_eq_getElem hn
      refine ⟨l, ls, (n : Int), n, ls[n], rfl, rfl, l2, by omega, by omega, (ixN_seq (ixN_nat hn)).1, hy, ?_⟩
      have g3 : (upd H2 l (.lst (ls.eraseIdx n))) g = some (.lst fs) := by rw [upd_ne lg.symm]; exact g2
      refine ⟨g, fs, _, rfl, rfl, g3, by rw [hfl]; exact Nat.lt_of_lt_of_le (show i < 5000 by omega) (sz1 (Nat.le_refl _)), ?_⟩
      obtain ⟨x1, x2, x3, hp2⟩ := P2
      refine ⟨ls.eraseIdx n, fs ++ [ls[n]], _, rfl, ?_, ⟨x1, x2, x3, by rw [upd_ne pg, upd_ne pl]; exact hp2⟩, by rw [upd_ne lg, upd_same], upd_same, ?_, by simp [hfl], ?_⟩
      · exact ((kH.trans k2).mut hl).mut (by cases e : H g with
          | none => rfl
          | some u => rw [Ex.new hl g u e] at hg; cases hg)
      · rw [List.append_assoc]
        exact (List.Perm.append_left fs (erase_perm hy)).trans hpm
      · rw [List.length_eraseIdx_of_lt hn]
        omega
    · rintro σ' H' ⟨ls, fs, y, rfl, kH, hpH, hls, hfs, hpm, hfl, hll⟩
      have e0 : ls = [] := List.length_eq_zero_iff.mp (by omega)
      subst e0
      rw [List.append_nil] at hpm
      exact ⟨_, rfl, k fs g H' hpm (by cases e : H g with
        | none => rfl
        | some u => rw [Ex.new hl g u e] at hg; cases hg) hfs kH hpH⟩
/-! ### bodies, closed -/
theorem ok_body2 (T : Txt K mg) : DefOk P w K mg base CX0 false 12 "_law_drawn_body" s_law_drawn_body ["pail", "box", "scope", "deep", "most"] (spBody K 2 2) ∧ DefOk P w K mg base CX0 false 12 "_law_drawn_body" s_law_drawn_body ["pail", "box", "scope", "deep", "most"] (spBody K 2 1) := by
  have R0 : DefOk P w K mg base CX0 false 3 "_law_drawn_right" s_law_drawn_right ["pail", "box", "scope", "deep"] (spRight K 0) := ok_right T (by decide) (fun dq h => nomatch h)
  have B00 : DefOk P w K mg base CX0 false 4 "_law_drawn_body" s_law_drawn_body ["pail", "box", "scope", "deep", "most"] (spBody K 0 0) := ok_body T (by decide) R0 (fun mq h => nomatch h)
  have B01 : DefOk P w K mg base CX0 false 5 "_law_drawn_body" s_law_drawn_body ["pail", "box", "scope", "deep", "most"] (spBody K 0 1) := ok_body T (by decide) (R0.mono (by decide)) (fun mq h => by cases h; exact B00)
  have R1 : DefOk P w K mg base CX0 false 6 "_law_drawn_right" s_law_drawn_right ["pail", "box", "scope", "deep"] (spRight K 1) := ok_right T (by decide) (fun dq h => by cases h; exact B01)
  have B10 : DefOk P w K mg base CX0 false 7 "_law_drawn_body" s_law_drawn_body ["pail", "box", "scope", "deep", "most"] (spBody K 1 0) := ok_body T (by decide) R1 (fun mq h => nomatch h)
  have B11 : DefOk P w K mg base CX0 false 8 "_law_drawn_body" s_law_drawn_body ["pail", "box", "scope", "deep", "most"] (spBody K 1 1) := ok_body T (by decide) (R1.mono (by decide)) (fun mq h => by cases h; exact B10)
  have R2 : DefOk P w K mg base CX0 false 9 "_law_drawn_right" s_law_drawn_right ["pail", "box", "scope", "deep"] (spRight K 2) := ok_right T (by decide) (fun dq h => by cases h; exact B11)
  have B20 : DefOk P w K mg base CX0 false 10 "_law_drawn_body" s_law_drawn_body ["pail", "box", "scope", "deep", "most"] (spBody K 2 0) := ok_body T (by decide) R2 (fun mq h => nomatch h)
  have B21 : DefOk P w K mg base CX0 false 11 "_law_drawn_body" s_law_drawn_body ["pail", "box", "scope", "deep", "most"] (spBody K 2 1) := ok_body T (by decide) (R2.mono (by decide)) (fun mq h => by cases h; exact B20)
  have B22 : DefOk P w K mg base CX0 false 12 "_law_drawn_body" s_law_drawn_body ["pail", "box", "scope", "deep", "most"] (spBody K 2 2) := ok_body T (by decide) (R2.mono (by decide)) (fun mq h => by cases h; exact B21)
  exact ⟨B22, B21.mono (by decide)⟩
end
end K4

set_option maxHeartbeats 4000000
namespace DL
open PySem L2 Evl
/-! ### evaluating to data of tuples -/
def EvP (K : PySem.W.Frag) (te : TE) (σ : L2.St) (H : Hp) (d : PyData) : Prop := ∀ H1, Ex H H1 → ∀ Q : VK, (∀ v H2, Ex H1 H2 → Dp K (tp H2) v d → Q v H2) → te σ H1 Q
def EvPs (K : PySem.W.Frag) (ta : TA) (σ : L2.St) (H : Hp) (ds : List PyData) : Prop := ∀ H1, Ex H H1 → ∀ Q : List V → Hp → Prop, (∀ vs H2, Ex H1 H2 → DpAll K (tp H2) vs ds → Q vs H2) → ta σ H1 Q
section
variable {K : PySem.W.Frag} {σ : L2.St} {H H' : Hp} {ta tb te : TE} {d : PyData}
theorem evp_var {i : Nat} {v : V} (h : σ[i]? = some (some v)) (hd : Dp K (tp H) v d) : EvP K (tVar i) σ H d := fun H1 e Q q => ⟨v, h, q v H1 (Ex.refl H1) (dp_ex (Tp.of e).ex hd)⟩
theorem evp_ev {v : V} (h : Ev te σ H v) (hd : ∀ {H0 : Hp}, Dp K H0 v d) : EvP K te σ H d := fun H1 e Q q => h H1 e Q fun H2 e2 => q v H2 e2 hd
theorem evps_nil : EvPs K tNil σ H [] := fun H1 e Q q => q [] H1 (Ex.refl H1) .nil
theorem evps_cons {tr : TA} {ds : List PyData} (h : EvP K ta σ H d) (hr : EvPs K tr σ H ds) : EvPs K (tCons ta tr) σ H (d :: ds) := fun H1 e Q q =>
  h H1 e _ fun v H2 e2 hv => hr H2 (e.trans e2) _ fun vs H3 e3 hvs => q (v :: vs) H3 (e2.trans e3) (.cons (dp_ex (Tp.of e3).ex hv) hvs)
theorem evp_tup {ta : TA} {ds : List PyData} (h : EvPs K ta σ H ds) (hl : ds.length ≤ 100000) : EvP K (tTup ta) σ H (.tuple ds) := fun H1 e Q q =>
  h H1 e _ fun vs H2 e2 hvs => ⟨sz_of (by rw [dpa_len hvs]; exact hl), fun p hp => q _ _ (e2.trans (Ex.new hp)) (.tup (st_of (tp_of upd_same)) (dpa_ex (Tp.new hp).ex hvs))⟩
theorem evp_cat {ds es : List PyData} (ha : EvP K ta σ H (.tuple ds)) (hb : EvP K tb σ H (.tuple es)) (h1 : ds ≠ []) (h2 : es ≠ []) (hl : ds.length + es.length ≤ 100000) : EvP K (tOp (rCatA K) ta tb) σ H (.tuple (ds ++ es)) := fun H1 e Q q =>
  ha H1 e _ fun v H2 e2 hv => hb H2 (e.trans e2) _ fun u H3 e3 hu => by
    obtain ⟨a, xs, rfl, sa, da⟩ := dp_tup (dp_ex (Tp.of e3).ex hv)
    obtain ⟨b, ys, rfl, sb, db⟩ := dp_tup hu
    have lx := dpa_len da
    have ly := dpa_len db
    refine ⟨a, b, xs, ys, rfl, rfl, ex_t tp_sub sa, ex_t tp_sub sb, sz_of (by rw [lx, ly]; exact hl), fun hx => ?_, fun _ hy => ?_, fun _ _ p hp => ?_⟩
    · rw [hx] at lx
      exact absurd (List.length_eq_zero_iff.mp lx.symm) h1
    · rw [hy] at ly
      exact absurd (List.length_eq_zero_iff.mp ly.symm) h2
    · exact q _ _ ((e2.trans e3).trans (Ex.new hp)) (.tup (st_of (tp_of upd_same)) (dpa_ex (Tp.new hp).ex (dpa_app da db)))
theorem for_evp {g : TG} {tb : TS} {D : Ends} {ds : List PyData} (h : EvP K te σ H (.tuple ds)) (q : ∀ a xs H2, Ex H H2 → SqT K (tp H2) a xs → DpAll K (tp H2) xs ds → tFor (iTup K (tC (.ref a))) g tb D σ H2) : tFor (iTup K te) g tb D σ H :=
  h H (Ex.refl H) _ fun v H2 e hv => by
    obtain ⟨a, xs, rfl, s, d⟩ := dp_tup hv
    exact q a xs H2 e s d
theorem asg_evp {g : TG} {D : Ends} (h : EvP K te σ H d) (q : ∀ v H2, Ex H H2 → Dp K (tp H2) v d → g v σ H2 D.nx) : tAsg te g D σ H := h H (Ex.refl H) _ q
theorem asg1_evp {g : TG} {D : Ends} (h : EvP K te σ H d) (q : ∀ v H2, Ex H H2 → Dp K (tp H2) v d → ∀ l, H2 l = none → g (.ref l) σ (upd H2 l (.lst [v])) D.nx) : tAsg (tLst (tCons te tNil)) g D σ H :=
  h H (Ex.refl H) _ fun v H2 e hv => ⟨by show 1 ≤ sizeLine; decide, q v H2 e hv⟩
theorem arg_evp {Q : List V → Hp → Prop} (h : EvP K te σ H d) (q : ∀ v H2, Ex H H2 → Dp K (tp H2) v d → Q [v] H2) : tCons te tNil σ H Q := h H (Ex.refl H) _ q
theorem dpa_perm {vs ys : List V} (h : List.Perm ys vs) : ∀ {α : Type} {f : α → PyData} {ts : List α}, DpAll K H vs (ts.map f) → ∃ ts', List.Perm ts' ts ∧ DpAll K H ys (ts'.map f) := by
  intro α f
  induction h with
  | nil => intro ts h; exact ⟨ts, List.Perm.refl _, h⟩
  | @cons x l1 l2 _ ih =>
    intro ts h
    match ts, h with
    | t :: r, .cons a b =>
      obtain ⟨r', p, d⟩ := ih b
      exact ⟨t :: r', p.cons t, .cons a d⟩
  | swap x y l =>
    intro ts h
    match ts, h with
    | t :: u :: r, .cons a (.cons b c) => exact ⟨u :: t :: r, .swap t u r, .cons b (.cons a c)⟩
  | trans _ _ ih1 ih2 =>
    intro ts h
    obtain ⟨t1, p1, d1⟩ := ih2 h
    obtain ⟨t2, p2, d2⟩ := ih1 d1
    exact ⟨t2, p2.trans p1, d2⟩
end
end DL
namespace PG
open PySem L2 Evl DL TL
abbrev Top : Type := Str × List Str × Bd
def tEnc (t : Top) : PyData := .tuple [.str t.1, .tuple (t.2.1.map PyData.str), .tuple t.2.2.encs]
def stepR : List Sm := [.lets "y" (.two "-" (.nm "a") (.num 1)), .lets "t" (.call (.nm "g") [.nm "y"]), .lets "q" (.two "pair" (.nm "a") (.nm "t"))]
def loopB : Bd := .lets "z" (.two "<" (.nm "a") (.num 1)) (.cond (.nm "z") (.give (.num 0)) (wrap stepR (.give (.nm "q"))))
def mB : Bd := .lets "u" (.call (.nm "g") [.nm "m"]) (.give (.nm "u"))
def gB : Bd := .lets "w" (.two "pair" (.nm "a") (.nm "a")) (.tail (.nm "h") [.nm "w", .num 1])
def hB : Bd := .lets "v" (.one "left" (.nm "b")) (.lets "s" (.two "+" (.nm "v") (.nm "c")) (.give (.nm "s")))
/-- a body of a def: drawn, or one of four -/
inductive okT : List Str → Bd → Prop where
  | drawn {sc : List Str} {b : Bd} {n n' mo : Nat} (hm : mo ≤ 2) (h : okB sc n 2 mo 4 b n') (hn : n' ≤ 1000000) : okT sc b
  | loop : okT ["a"] loopB
  | m : okT ["m"] mB
  | g : okT ["a"] gB
  | h : okT ["b", "c"] hB
def okProg (tops : List Top) : Prop := ∃ g h m, List.Perm tops [(("g", ["a"], g) : Top), ("h", ["b", "c"], h), ("main", ["m"], m)] ∧ okT ["a"] g ∧ okT ["b", "c"] h ∧ okT ["m"] m ∧ g.size + h.size + m.size ≤ 90
theorem okT_wf {sc : List Str} {b : Bd} (h : okT sc b) : wfB b := by
  cases h with
  | drawn hm h _ => exact okB_wf h
  | loop => simp only [loopB, stepR, wrap, wfB, wfR]; decide
  | m => simp only [mB, wfB, wfR]; decide
  | g => simp only [gB, wfB, wfR]; decide
  | h => simp only [hB, wfB, wfR]; decide
theorem okT_deep {sc : List Str} {b : Bd} (h : okT sc b) : b.deep ≤ 7 := by
  cases h with
  | drawn hm h _ =>
    have := okB_deep h
    omega
  | loop => simp only [loopB, stepR, wrap, Bd.deep, Rt.deep]; decide
  | m => simp only [mB, Bd.deep, Rt.deep]; decide
  | g => simp only [gB, Bd.deep, Rt.deep]; decide
  | h => simp only [hB, Bd.deep, Rt.deep]; decide
theorem mxB22 : mxB 2 2 ≤ 6000 := by simp [mxB]
theorem mxB21 : mxB 2 1 ≤ 6000 := by simp [mxB]
theorem okT_size {sc : List Str} {b : Bd} (h : okT sc b) : b.size ≤ 6000 := by
  cases h with
  | @drawn _ _ n n' mo hm h _ =>
    have := okB_size h
    have h2 : mxB 2 mo ≤ 6000 := by
      rcases mo with _ | _ | _ | mo
      · simp [mxB]
      · exact mxB21
      · exact mxB22
      · omega
    omega
  | loop => simp only [loopB, stepR, wrap, Bd.size, Rt.size]; decide
  | m => simp only [mB, Bd.size, Rt.size]; decide
  | g => simp only [gB, Bd.size, Rt.size]; decide
  | h => simp only [hB, Bd.size, Rt.size]; decide
/-- the defs made in their order -/
def hdOf : Nat → Str × List Str
  | 0 => ("g", ["a"])
  | 1 => ("h", ["b", "c"])
  | _ => ("main", ["m"])
inductive mk : Nat → List Top → Prop where
  | nil : mk 0 []
  | snoc {i : Nat} {ts : List Top} {b : Bd} : mk i ts → okT (hdOf i).2 b → mk (i + 1) (ts ++ [((hdOf i).1, (hdOf i).2, b)])
theorem mk_len {i : Nat} {ts : List Top} (h : mk i ts) : ts.length = i := by
  induction h with
  | nil => rfl
  | snoc _ _ ih => rw [List.length_append, ih]; rfl
theorem mk_inv {i : Nat} {ts : List Top} (h : mk (i + 1) ts) : ∃ us b, ts = us ++ [((hdOf i).1, (hdOf i).2, b)] ∧ mk i us ∧ okT (hdOf i).2 b := by
  cases h with
  | snoc h1 h2 => exact ⟨_, _, rfl, h1, h2⟩
theorem mk_three {ts : List Top} (h : mk 3 ts) : ∃ g h m, ts = [(("g", ["a"], g) : Top), ("h", ["b", "c"], h), ("main", ["m"], m)] ∧ okT ["a"] g ∧ okT ["b", "c"] h ∧ okT ["m"] m := by
  obtain ⟨t2, m, rfl, h2, om⟩ := mk_inv h
  obtain ⟨t1, h0, rfl, h1, oh⟩ := mk_inv h2
  obtain ⟨t0, g, rfl, h00, og⟩ := mk_inv h1
  obtain rfl : t0 = [] := List.length_eq_zero_iff.mp (mk_len h00)
  exact ⟨g, h0, m, rfl, og, oh, om⟩
end PG
namespace K4
open PySem L2 Evl DL PG
section
variable {P : Program} {w : World} {K : PySem.W.Frag} {mg : Str → Option Value} {base : Heap}
def spProg (K : PySem.W.Frag) : Sp := fun vs H Q _ => ∃ p, vs = [.ref p] ∧ Pail H p ∧ ∀ tops v H', okProg tops → Kp [p] H H' → Pail H' p → Dp K (tp H') v (.tuple (tops.map tEnc)) → Q v H'
theorem bd_prog : BindP "_law_program" s_law_program ["pail"] := fun _ _ _ _ _ _ us hl => match us, hl with | [_], _ => rfl
theorem ok_prog (T : Txt K mg) : DefOk P w K mg base CX0 false 13 "_law_program" s_law_program ["pail"] (spProg K) := by
  have DB := DefOk.or (ok_body2 (P := P) (w := w) (base := base) T).1 (ok_body2 (P := P) (w := w) (base := base) T).2
  refine T.d_law_program.ok scs_law_program (fun vs H Q E h => ?_) (fun f cdv A outer s0 H vs Q E hr h => ?_)
  · obtain ⟨p, rfl, _⟩ := h
    rfl
  · obtain ⟨p, rfl, hp, k⟩ := h
    have nd := scs_law_program.nd
    have hr1 : Room 1 _ := hr.mono (by decide)
    have hr2 : Room 2 _ := hr.mono (by decide)
    have hr8 : Room 8 _ := hr.mono (by decide)
    refine ⟨_, pss_cons (ps_par (i := 1) (j := 2) (by rfl) nd rfl rfl (by decide) rfl rfl (pa_cons (pe_lst (pa_cons pe_int pa_nil)) (pa_cons (pe_lst pa_nil) pa_nil)) (by rfl))
      (pss_cut (ps_for PassesOwn.never rfl (pi_tup (pe_tup (pa_cons (pe_tup (pa_cons pe_str (pa_cons (pe_tup (pa_cons pe_str pa_nil)) pa_nil))) (pa_cons (pe_tup (pa_cons pe_str (pa_cons (pe_tup (pa_cons pe_str (pa_cons pe_str pa_nil))) pa_nil))) (pa_cons (pe_tup (pa_cons pe_str (pa_cons (pe_tup (pa_cons pe_str pa_nil)) pa_nil))) pa_nil))))) (pg_tup (by rfl) (pgs_cons (pg_name (i := 3) nd rfl (.inl rfl)) (pgs_cons (pg_name (i := 4) nd rfl (.inl rfl)) pgs_nil)))
        (pss_one (ps_expr (pe_bm PySem.F.plainAttrs_list PySem.F.slot_list_append PySem.F.type_list_append mt_append (pv 2) (pa_cons (pe_tup (pa_cons (pv 3) (pa_cons (pv 4) (pa_cons
          (pe_callD DB hr (.inl rfl) bd_body pass0 (pa_cons (pv 0) (pa_cons (pv 1) (pa_cons (pe_callTy call_list_of (by rfl) T.b_list (by decide +kernel) (pa_cons (pv 4) pa_nil)) (pa_cons pe_int (pa_cons (pe_ifExp (pt_cmpR op_eq (pv 3) pe_str (nomark _)) pe_int pe_int) pa_nil)))))) pa_nil)))) pa_nil)))))
      (pss_cut (ps_if (pt_cmpR op_eq (pe_callD (ok_deal T) hr1 (.inl rfl) bd_deal pass0 (pa_cons (pv 0) (pa_cons pe_int pa_nil))) pe_int (nomark _))
        (pss_cons (ps_set (i := 5) nd rfl (.inl rfl) (pe_tup (pa_cons (pe_tup (pa_cons pe_str (pa_cons pe_str (pa_cons (pe_tup (pa_cons pe_str (pa_cons pe_str (pa_cons pe_int pa_nil)))) pa_nil)))) (pa_cons (pe_tup (pa_cons pe_str (pa_cons pe_str (pa_cons (pe_tup (pa_cons pe_str (pa_cons pe_str (pa_cons (pe_tup (pa_cons pe_str pa_nil)) pa_nil)))) pa_nil)))) (pa_cons (pe_tup (pa_cons pe_str (pa_cons pe_str (pa_cons (pe_tup (pa_cons pe_str (pa_cons pe_str (pa_cons pe_str pa_nil)))) pa_nil)))) pa_nil)))))
        (pss_cons (ps_set (i := 6) nd rfl (.inl rfl) (pe_tup (pa_cons (pe_tup (pa_cons pe_str (pa_cons pe_str (pa_cons (pe_tup (pa_cons pe_str (pa_cons pe_str (pa_cons pe_int pa_nil)))) pa_nil)))) (pa_cons (pe_tup (pa_cons pe_str (pa_cons pe_str (pa_cons (pe_tup (pa_cons (pe_tup (pa_cons pe_str (pa_cons pe_int pa_nil))) pa_nil)) (pa_cons (pe_op op_catA (pv 5) (pe_tup (pa_cons (pe_tup (pa_cons pe_str (pa_cons pe_str pa_nil))) pa_nil))) pa_nil))))) pa_nil))))
        (pss_one (ps_asg (pe_tup (pa_cons pe_str (pa_cons (pe_tup (pa_cons pe_str pa_nil)) (pa_cons (pv 6) pa_nil)))) (pg_sub (pv 2) pe_int set_list))))) pss_nil)
      (pss_cut (ps_if (pt_cmpR op_gt (pe_callB (cr_sum rfl) (by rfl) T.b_sum (by decide +kernel) (pa_cons
            (pe_lc (own := [("name", 3), ("params", 4), ("body", 7)]) (g := gTup K 3 (gCons (gName 3) (gCons (gName 4) (gCons (gName 7) gNil)))) (tt := tYes) rfl nd (pi_list (pv 2))
              (blkOk_by (N := ["pail", "box", "made", "name", "params", "step", "loop", "body"]) (sc := defScope s_law_program) (by decide +kernel)) (fun _ _ _ _ _ => pg_tup (by rfl) (pgs_cons (pg_name (i := 3) nd rfl (Or.inl rfl)) (pgs_cons (pg_name (i := 4) nd rfl (Or.inl rfl)) (pgs_cons (pg_name (i := 7) nd rfl (Or.inl rfl)) pgs_nil)))) (fun _ _ _ _ _ => pts_nil)
              (fun _ _ _ _ _ => pe_callD (ok_size T 7) hr8 (.inl rfl) bd_size pass0 (pa_cons (pv 7) pa_nil))) pa_nil)) pe_int (nomark _))
        (pss_cons (ps_set (i := 2) nd rfl (.inl rfl) (pe_lst (pa_cons (pe_tup (pa_cons pe_str (pa_cons (pe_tup (pa_cons pe_str pa_nil)) (pa_cons (pe_tup (pa_cons (pe_tup (pa_cons pe_str (pa_cons pe_str (pa_cons (pe_tup (pa_cons pe_str (pa_cons pe_str (pa_cons (pe_tup (pa_cons pe_str pa_nil)) pa_nil)))) pa_nil)))) (pa_cons (pe_tup (pa_cons pe_str (pa_cons pe_str pa_nil))) pa_nil))) pa_nil)))) pa_nil)))
        (pss_cons (ps_expr (pe_bm PySem.F.plainAttrs_list PySem.F.slot_list_append PySem.F.type_list_append mt_append (pv 2) (pa_cons (pe_tup (pa_cons pe_str (pa_cons (pe_tup (pa_cons pe_str pa_nil)) (pa_cons (pe_tup (pa_cons (pe_tup (pa_cons pe_str (pa_cons pe_str (pa_cons (pe_tup (pa_cons pe_str (pa_cons pe_str (pa_cons pe_str pa_nil)))) pa_nil)))) (pa_cons (pe_tup (pa_cons pe_str (pa_cons pe_str (pa_cons (pe_tup (pa_cons pe_str (pa_cons pe_int pa_nil))) pa_nil)))) pa_nil))) pa_nil)))) pa_nil)))
        (pss_one (ps_expr (pe_bm PySem.F.plainAttrs_list PySem.F.slot_list_append PySem.F.type_list_append mt_append (pv 2) (pa_cons (pe_tup (pa_cons pe_str (pa_cons (pe_tup (pa_cons pe_str (pa_cons pe_str pa_nil))) (pa_cons (pe_tup (pa_cons (pe_tup (pa_cons pe_str (pa_cons pe_str (pa_cons (pe_tup (pa_cons pe_str (pa_cons pe_str pa_nil))) pa_nil)))) (pa_cons (pe_tup (pa_cons pe_str (pa_cons pe_str (pa_cons (pe_tup (pa_cons pe_str (pa_cons pe_str (pa_cons pe_str pa_nil)))) pa_nil)))) (pa_cons (pe_tup (pa_cons pe_str (pa_cons pe_str pa_nil))) pa_nil)))) pa_nil)))) pa_nil)))))) pss_nil)
      (pss_one (ps_ret (pe_callTy call_tuple_of (by rfl) T.b_tuple (by decide +kernel) (pa_cons (pe_callD (ok_shuf T) hr2 (.inl rfl) bd_shuf pass0 (pa_cons (pv 0) (pa_cons (pv 2) pa_nil))) pa_nil))))))), ?_⟩
    -- box, made
    refine ⟨sz1 (by simp), fun b hb => ⟨sz1 (by simp), fun c hc => ⟨_, _, rfl, ?_⟩⟩⟩
    obtain ⟨pa, pb0, pc, hp0⟩ := id hp
    have pb : p ≠ b := ne_of_none hp0 hb
    have bc : b ≠ c := ne_of_none upd_same hc
    have hcH : H c = none := by
      cases e : H c with
      | none => rfl
      | some u => rw [Ex.new hb c u e] at hc; cases hc
    have pc : p ≠ c := ne_of_none hp0 hcH
    -- the defs, drawn
    refine ⟨fun σ' H' => ∃ (ts : List Top) (vs : List V) (y3 y4 : Option V), σ' = [some (.ref p), some (.ref b), some (.ref c), y3, y4, none, none, none] ∧ mk 3 ts ∧ Kp [p] H H' ∧ Pail H' p ∧ H' c = some (.lst vs) ∧ DpAll K (tp H') vs (ts.map tEnc), ?_, ?_⟩
    · refine for_evp (evp_tup (evps_cons (evp_tup (evps_cons (evp_ev ev_c (.str _)) (evps_cons (evp_tup (evps_cons (evp_ev ev_c (.str _)) evps_nil) (by simp)) evps_nil)) (by simp)) (evps_cons (evp_tup (evps_cons (evp_ev ev_c (.str _)) (evps_cons (evp_tup (evps_cons (evp_ev ev_c (.str _)) (evps_cons (evp_ev ev_c (.str _)) evps_nil)) (by simp)) evps_nil)) (by simp)) (evps_cons (evp_tup (evps_cons (evp_ev ev_c (.str _)) (evps_cons (evp_tup (evps_cons (evp_ev ev_c (.str _)) evps_nil) (by simp)) evps_nil)) (by simp)) evps_nil))) (by simp)) fun a xs H1 e1 sa da => ?_
      have lx : xs.length = 3 := dpa_len da
      refine ⟨a, rfl, ⟨_, ex_t tp_sub sa⟩, ?_⟩
      refine for_tup (K := K) (a := a) (xs := xs) (fun i σ H' => ∃ (ts : List Top) (vs : List V) (n : Nat) (y3 y4 : Option V), σ = [some (.ref p), some (.ref b), some (.ref c), y3, y4, none, none, none] ∧ mk i ts ∧ n ≤ i * 20000 ∧
          Kp [p] H H' ∧ Tp H1 H' ∧ Pail H' p ∧ H' b = some (.lst [.int (n : Int)]) ∧ H' c = some (.lst vs) ∧ DpAll K (tp H') vs (ts.map tEnc))
        ⟨[], [], 0, none, none, rfl, .nil, by omega, (Kp.new hb).trans ((Kp.new hc).trans (Kp.of e1)), Tp.refl H1, ⟨_, _, _, e1 p _ (by rw [upd_ne pc, upd_ne pb]; exact hp0)⟩, e1 b _ (by rw [upd_ne bc, upd_same]; rfl), e1 c _ upd_same, .nil⟩
        ?_ ?_ ?_
      · rintro i σ H' hi ⟨ts, vs, n, y3, y4, _, _, _, _, kH1, _⟩
        exact ex_t tp_sub (ex_t kH1.ex sa)
      · rintro i x σ H' hi ⟨ts, vs, n, y3, y4, rfl, hmk, hn, kH, kH1, pH, bH, cH, dvs⟩
        have hi3 : i < 3 := by
          have := (List.getElem?_eq_some_iff.mp hi).1
          omega
        obtain ⟨d, hd, hx⟩ := dpa_getV da hi
        have ed : d = .tuple [.str (hdOf i).1, .tuple ((hdOf i).2.map PyData.str)] := by
          rcases i with _ | _ | _ | i
          · exact (Option.some.inj hd).symm
          · exact (Option.some.inj hd).symm
          · exact (Option.some.inj hd).symm
          · omega
        subst ed
        obtain ⟨a1, zs, rfl, s1, d1⟩ := dp_tup hx
        cases d1 with | cons g1 d1 => cases d1 with | cons g2 d1 => cases d1 with | nil =>
        obtain rfl := dp_str g1
        obtain ⟨a2, ws, rfl, s2, d2⟩ := dp_tup g2
        obtain rfl := dpa_strs_eq d2
        have lp : (hdOf i).2.length ≤ 2 := by rcases i with _ | _ | _ | i <;> simp [hdOf]
        obtain ⟨mo, hmo, hsp, hif⟩ : ∃ mo : Nat, mo ≤ 2 ∧ (∀ vs H Q E, spBody K 2 mo vs H Q E → spBody K 2 2 vs H Q E ∨ spBody K 2 1 vs H Q E) ∧
            ∀ (σ : L2.St) (H : Hp) (Q : VK), tC (.int (mo : Int)) σ H Q → if decide (V.str (hdOf i).1 = V.str "main") = true then tC (.int 2) σ H Q else tC (.int 1) σ H Q := by
          by_cases h2 : (hdOf i).1 = "main"
          · exact ⟨2, by decide, fun _ _ _ _ z => .inl z, fun σ H Q z => itT (str_eq h2) z⟩
          · exact ⟨1, by decide, fun _ _ _ _ z => .inr z, fun σ H Q z => itF (str_ne h2) z⟩
        have nbp : b ≠ p := pb.symm
        refine ⟨a1, _, rfl, ex_t tp_sub (ex_t kH1.ex s1), rfl, _, _, rfl, _, _, rfl, rfl, ?_⟩
        refine ⟨_, rfl, .inl ⟨rfl, _, sq_of cH⟩, _, rfl, _, rfl, _, rfl, _, rfl, _, rfl, a2, _, rfl, .inr (ex_t tp_sub (ex_t kH1.ex s2)), fun s hs => ⟨_, rfl, rfl, _, rfl, hif _ _ _ ?_⟩⟩
        have ns : s ≠ p ∧ s ≠ b ∧ s ≠ c := by
          obtain ⟨x1, x2, x3, pp⟩ := pH
          exact ⟨(ne_of_none pp hs).symm, (ne_of_none bH hs).symm, (ne_of_none cH hs).symm⟩
        have W : DW (upd H' s (.lst ((hdOf i).2.map V.str))) p b s (hdOf i).2 n := by
          obtain ⟨x1, x2, x3, pp⟩ := pH
          exact ⟨⟨x1, x2, x3, by rw [upd_ne ns.1.symm]; exact pp⟩, by rw [upd_ne ns.2.1.symm]; exact bH, upd_same, pb, ns.1, ns.2.1⟩
        refine hsp _ _ _ _ ⟨p, b, s, (hdOf i).2, n, rfl, W, by decide, hmo, by omega, ?_, fun r n' v H4 hok k4 P4 b4 dp4 => ?_⟩
        · unfold LB
          omega
        · have hle := (okB_le hok).2
          have hsz := okB_size hok
          have hmx : mxB 2 mo ≤ 6000 := by
            rcases mo with _ | _ | _ | mo
            · simp [mxB]
            · exact mxB21
            · exact mxB22
            · omega
          have T4 : Tp H' H4 := (Tp.new hs).trans (W.tpk k4)
          have c4 : H4 c = some (.lst vs) := k4 c _ (by simp [pc.symm, bc.symm]) (by rw [upd_ne ns.2.2.symm]; exact cH)
          have lv : vs.length = i := by rw [dpa_len dvs, List.length_map, mk_len hmk]
          refine ⟨sz1 (by simp), fun t ht => ⟨c, vs, _, rfl, rfl, by rw [upd_ne (ne_of_none c4 ht)]; exact c4, ?_, ?_⟩⟩
          · rw [lv]
            exact Nat.lt_of_lt_of_le hi3 (by decide)
          have ntp : t ≠ p ∧ t ≠ b ∧ t ≠ c := by
            obtain ⟨x1, x2, x3, pp⟩ := P4
            exact ⟨(ne_of_none pp ht).symm, (ne_of_none b4 ht).symm, (ne_of_none c4 ht).symm⟩
          refine ⟨ts ++ [((hdOf i).1, (hdOf i).2, r)], _, n', _, _, rfl, .snoc hmk (.drawn hmo hok (by omega)), by omega, ?_, ?_, ?_, ?_, upd_same, ?_⟩
          · refine Kp.mut (fun x o nx hx => ?_) hcH
            have nb : x ≠ b := fun e => by rw [e, hb] at hx; cases hx
            have x1 := kH x o nx hx
            have x2 : (upd H' s (.lst ((hdOf i).2.map V.str))) x = some o := by rw [upd_ne (ne_of_none x1 hs)]; exact x1
            have x3 := k4 x o (by simpa [nb] using nx) x2
            rw [upd_ne (ne_of_none x3 ht)]
            exact x3
          · exact kH1.trans (T4.trans ((Tp.new ht).trans (Tp.lst (by rw [upd_ne ntp.2.2.symm]; exact c4))))
          · obtain ⟨x1, x2, x3, pp⟩ := P4
            exact ⟨x1, x2, x3, by rw [upd_ne pc, upd_ne ntp.1.symm]; exact pp⟩
          · rw [upd_ne bc, upd_ne ntp.2.1.symm]
            exact b4
          · have T5 : Tp H4 (upd (upd H4 t (.tup [.str (hdOf i).1, .ref a2, v])) c (.lst (vs ++ [.ref t]))) := (Tp.new ht).trans (Tp.lst (by rw [upd_ne ntp.2.2.symm]; exact c4))
            rw [List.map_append]
            refine dpa_app (dpa_ex (T4.trans T5).ex dvs) (dpa_one ?_)
            refine .tup (st_of (tp_of (by rw [upd_ne ntp.2.2, upd_same]))) (.cons (.str _) (.cons (dp_ex (kH1.trans (T4.trans T5)).ex g2) (.cons (dp_ex T5.ex dp4) .nil)))
      · rintro σ H' ⟨ts, vs, n, y3, y4, rfl, hmk, hn, kH, kH1, pH, bH, cH, dvs⟩
        rw [lx] at hmk
        exact ⟨ts, vs, y3, y4, rfl, hmk, kH, pH, cH, dvs⟩
    rintro σ H1 ⟨ts, vs, y3, y4, rfl, hmk, kH, pH, cH, dvs⟩
    obtain ⟨g, h, m, rfl, og, oh, om⟩ := mk_three hmk
    -- the loop
    refine ⟨fun σ' H' => ∃ (g : Bd) (vs : List V) (y5 y6 : Option V), σ' = [some (.ref p), some (.ref b), some (.ref c), y3, y4, y5, y6, none] ∧ okT ["a"] g ∧ Kp [p] H H' ∧ Pail H' p ∧ H' c = some (.lst vs) ∧ DpAll K (tp H') vs [tEnc ("g", ["a"], g), tEnc ("h", ["b", "c"], h), tEnc ("main", ["m"], m)], ?_, ?_⟩
    · refine ⟨_, rfl, p, 2, rfl, pH, by decide, by decide, fun d H2 d0 d1 k2 P2 => ?_⟩
      have kH2 := kH.trans k2
      have c2 : H2 c = some (.lst vs) := k2 c _ (by simpa using pc.symm) cH
      have T2 : Tp H1 H2 := k2.tp (by intro a ha; obtain ⟨x, y, z, hp⟩ := pH; exact ⟨_, (List.mem_singleton.mp ha) ▸ hp⟩)
      have dvs2 := dpa_ex T2.ex dvs
      refine ⟨rfl, _, rfl, ite2 (fun _ => ?_) (fun _ => ⟨g, vs, none, none, rfl, og, kH2, P2, c2, dvs2⟩)⟩
      refine asg_evp (K := K) (evp_tup (evps_cons (evp_tup (evps_cons (evp_ev ev_c (.str _)) (evps_cons (evp_ev ev_c (.str _)) (evps_cons (evp_tup (evps_cons (evp_ev ev_c (.str _)) (evps_cons (evp_ev ev_c (.str _)) (evps_cons (evp_ev ev_c (.int _)) evps_nil))) (by simp)) evps_nil))) (by simp)) (evps_cons (evp_tup (evps_cons (evp_ev ev_c (.str _)) (evps_cons (evp_ev ev_c (.str _)) (evps_cons (evp_tup (evps_cons (evp_ev ev_c (.str _)) (evps_cons (evp_ev ev_c (.str _)) (evps_cons (evp_tup (evps_cons (evp_ev ev_c (.str _)) evps_nil) (by simp)) evps_nil))) (by simp)) evps_nil))) (by simp)) (evps_cons (evp_tup (evps_cons (evp_ev ev_c (.str _)) (evps_cons (evp_ev ev_c (.str _)) (evps_cons (evp_tup (evps_cons (evp_ev ev_c (.str _)) (evps_cons (evp_ev ev_c (.str _)) (evps_cons (evp_ev ev_c (.str _)) evps_nil))) (by simp)) evps_nil))) (by simp)) evps_nil))) (by simp)) fun v5 H3 e3 h5 => ?_
      have hst : Dp K (tp H3) v5 _ := h5
      refine asg_evp (K := K) (evp_tup (evps_cons (evp_tup (evps_cons (evp_ev ev_c (.str _)) (evps_cons (evp_ev ev_c (.str _)) (evps_cons (evp_tup (evps_cons (evp_ev ev_c (.str _)) (evps_cons (evp_ev ev_c (.str _)) (evps_cons (evp_ev ev_c (.int _)) evps_nil))) (by simp)) evps_nil))) (by simp)) (evps_cons (evp_tup (evps_cons (evp_ev ev_c (.str _)) (evps_cons (evp_ev ev_c (.str _)) (evps_cons (evp_tup (evps_cons (evp_tup (evps_cons (evp_ev ev_c (.str _)) (evps_cons (evp_ev ev_c (.int _)) evps_nil)) (by simp)) evps_nil) (by simp)) (evps_cons (evp_cat (evp_var rfl hst) (evp_tup (evps_cons (evp_tup (evps_cons (evp_ev ev_c (.str _)) (evps_cons (evp_ev ev_c (.str _)) evps_nil)) (by simp)) evps_nil) (by simp)) (by simp) (by simp) (by simp)) evps_nil)))) (by simp)) evps_nil)) (by simp)) fun v6 H4 e4 h6 => ?_
      have hlp : Dp K (tp H4) v6 _ := h6
      refine asg_evp (K := K) (evp_tup (evps_cons (evp_ev ev_c (.str _)) (evps_cons (evp_tup (evps_cons (evp_ev ev_c (.str _)) evps_nil) (by simp)) (evps_cons (evp_var rfl hlp) evps_nil))) (by simp)) fun v7 H5 e5 h7 => ?_
      have e25 := (e3.trans e4).trans e5
      have dvs5 := dpa_ex (Tp.of e25).ex dvs2
      cases dvs5 with | cons q0 dvs5 => cases dvs5 with | cons q1 dvs5 => cases dvs5 with | cons q2 dvs5 => cases dvs5 with | nil =>
        have c5 := e25 c _ c2
        refine ⟨_, rfl, c, _, 0, 0, rfl, rfl, c5, rfl, ?_⟩
        have Tl : ∀ o : HO, Tp H5 (L2.upd H5 c o) := fun o => Tp.lst c5
        refine ⟨loopB, _, _, _, rfl, .loop, Kp.mut (kH2.trans (Kp.of e25)) hcH, ?_, upd_same, .cons (dp_ex (Tl _).ex h7) (.cons (dp_ex (Tl _).ex q1) (.cons (dp_ex (Tl _).ex q2) .nil))⟩
        obtain ⟨x1, x2, x3, pp⟩ := P2
        exact ⟨x1, x2, x3, by rw [upd_ne pc]; exact e25 p _ pp⟩
    clear hmk dvs cH pH kH og
    rintro σ H1 ⟨g, vs, y5, y6, rfl, og, kH, pH, cH, dvs⟩
    -- the size
    refine ⟨fun σ' H' => ∃ (c : Addr) (vs : List V) (ts : List Top) (y3 y4 y5 y6 y7 : Option V), σ' = [some (.ref p), some (.ref b), some (.ref c), y3, y4, y5, y6, y7] ∧ okProg ts ∧ ts.length = 3 ∧ c ≠ p ∧ Kp [p] H H' ∧ Pail H' p ∧ H' c = some (.lst vs) ∧ DpAll K (tp H') vs (ts.map tEnc), ?_, ?_⟩
    · have lvs : vs.length = 3 := dpa_len dvs
      refine ⟨_, rfl, c, rfl, ⟨_, sq_of cH⟩, fun D hD => ?_⟩
      have nD : D ≠ p ∧ D ≠ c := by
        obtain ⟨x1, x2, x3, pp⟩ := pH
        exact ⟨(ne_of_none pp hD).symm, (ne_of_none cH hD).symm⟩
      refine lc_list (K := K) (a := c) (xs := vs) (fun i H' => H' D = some (.lst ((([(g.size : Int), (h.size : Int), (m.size : Int)] : List Int).take i).map V.int)) ∧ Kp [D] H1 H')
        ⟨upd_same, Kp.mut (Kp.refl _) hD⟩ (fun i H' _ z => sq_of (z.2 c _ (by simpa using nD.2.symm) cH)) ?_ ?_
      · rintro i x H' hi ⟨hDD, kD⟩
        have tD : Tp H1 H' := fun a xs e => kD a _ (fun q => by rw [List.mem_singleton.mp q, hD] at e; cases e) e
        have hi3 : i < 3 := by
          have := (List.getElem?_eq_some_iff.mp hi).1
          omega
        obtain ⟨d, hd, hx⟩ := dpa_getV dvs hi
        obtain ⟨z1, z2, bd, ed, hbt, hsz⟩ : ∃ z1 z2 bd, d = tEnc (z1, z2, bd) ∧ (∃ sc, okT sc bd) ∧ ([(g.size : Int), (h.size : Int), (m.size : Int)] : List Int).take (i + 1) = ([(g.size : Int), (h.size : Int), (m.size : Int)] : List Int).take i ++ [(bd.size : Int)] := by
          rcases i with _ | _ | _ | i
          · exact ⟨_, _, _, (Option.some.inj hd).symm, ⟨_, og⟩, rfl⟩
          · exact ⟨_, _, _, (Option.some.inj hd).symm, ⟨_, oh⟩, rfl⟩
          · exact ⟨_, _, _, (Option.some.inj hd).symm, ⟨_, om⟩, rfl⟩
          · omega
        subst ed
        obtain ⟨sc, hbt⟩ := hbt
        obtain ⟨a1, zs, rfl, s1, d1⟩ := dp_tup hx
        cases d1 with | cons g1 d1 => cases d1 with | cons g2 d1 => cases d1 with | cons g3 d1 => cases d1 with | nil =>
        refine ⟨a1, _, rfl, ex_t tp_sub (ex_t tD.ex s1), rfl, _, _, rfl, _, _, rfl, _, _, rfl, rfl, rfl, ?_⟩
        refine lc_yes ⟨_, rfl, bd, _, rfl, okT_deep hbt, okT_wf hbt, Nat.le_trans (okT_size hbt) (by decide), dp_ex tp_sub (dp_ex tD.ex g3), fun H4 e4 => ?_⟩
        refine ⟨_, e4 D _ hDD, ?_, ?_, ?_⟩
        · rw [List.length_map]
          refine Nat.lt_of_le_of_lt (List.length_take_le _ _) (Nat.lt_of_lt_of_le hi3 (by decide))
        · rw [upd_same, hsz, List.map_append]
          rfl
        · exact Kp.mut (kD.trans (Kp.of e4)) hD
      · rintro H' ⟨hDD, kD⟩
        have tD : Tp H1 H' := fun a xs e => kD a _ (fun q => by rw [List.mem_singleton.mp q, hD] at e; cases e) e
        rw [lvs] at hDD
        have kH' : Kp [p] H H' := fun x o nx hx => kD x o (fun q => by
          rw [List.mem_singleton.mp q] at hx nx
          have := kH D o nx hx
          rw [hD] at this
          cases this) (kH x o nx hx)
        have pH' : Pail H' p := by
          obtain ⟨x1, x2, x3, pp⟩ := pH
          exact ⟨x1, x2, x3, kD p _ (by simpa using nD.1.symm) pp⟩
        have cH' : H' c = some (.lst vs) := kD c _ (by simpa using nD.2.symm) cH
        refine ⟨D, _, rfl, sq_of hDD, _, _, rfl, rfl, _, rfl, ite2 (fun _ => ?_) (fun hc => ?_)⟩
        · -- three that are fixed
          refine asg1_evp (K := K) (evp_tup (evps_cons (evp_ev ev_c (.str _)) (evps_cons (evp_tup (evps_cons (evp_ev ev_c (.str _)) evps_nil) (by simp)) (evps_cons (evp_tup (evps_cons (evp_tup (evps_cons (evp_ev ev_c (.str _)) (evps_cons (evp_ev ev_c (.str _)) (evps_cons (evp_tup (evps_cons (evp_ev ev_c (.str _)) (evps_cons (evp_ev ev_c (.str _)) (evps_cons (evp_tup (evps_cons (evp_ev ev_c (.str _)) evps_nil) (by simp)) evps_nil))) (by simp)) evps_nil))) (by simp)) (evps_cons (evp_tup (evps_cons (evp_ev ev_c (.str _)) (evps_cons (evp_ev ev_c (.str _)) evps_nil)) (by simp)) evps_nil)) (by simp)) evps_nil))) (by simp)) fun v1 H2 e1 h1 l hl => ?_
          refine ⟨_, rfl, .inl ⟨rfl, _, sq_of upd_same⟩, arg_evp (K := K) (evp_tup (evps_cons (evp_ev ev_c (.str _)) (evps_cons (evp_tup (evps_cons (evp_ev ev_c (.str _)) evps_nil) (by simp)) (evps_cons (evp_tup (evps_cons (evp_tup (evps_cons (evp_ev ev_c (.str _)) (evps_cons (evp_ev ev_c (.str _)) (evps_cons (evp_tup (evps_cons (evp_ev ev_c (.str _)) (evps_cons (evp_ev ev_c (.str _)) (evps_cons (evp_ev ev_c (.str _)) evps_nil))) (by simp)) evps_nil))) (by simp)) (evps_cons (evp_tup (evps_cons (evp_ev ev_c (.str _)) (evps_cons (evp_ev ev_c (.str _)) (evps_cons (evp_tup (evps_cons (evp_ev ev_c (.str _)) (evps_cons (evp_ev ev_c (.int _)) evps_nil)) (by simp)) evps_nil))) (by simp)) evps_nil)) (by simp)) evps_nil))) (by simp)) fun v2 H3 e2 h2 => ⟨l, _, _, rfl, rfl, e2 l _ upd_same, by show 1 < sizeLine; decide, ?_⟩⟩
          refine ⟨_, rfl, .inl ⟨rfl, _, sq_of upd_same⟩, arg_evp (K := K) (evp_tup (evps_cons (evp_ev ev_c (.str _)) (evps_cons (evp_tup (evps_cons (evp_ev ev_c (.str _)) (evps_cons (evp_ev ev_c (.str _)) evps_nil)) (by simp)) (evps_cons (evp_tup (evps_cons (evp_tup (evps_cons (evp_ev ev_c (.str _)) (evps_cons (evp_ev ev_c (.str _)) (evps_cons (evp_tup (evps_cons (evp_ev ev_c (.str _)) (evps_cons (evp_ev ev_c (.str _)) evps_nil)) (by simp)) evps_nil))) (by simp)) (evps_cons (evp_tup (evps_cons (evp_ev ev_c (.str _)) (evps_cons (evp_ev ev_c (.str _)) (evps_cons (evp_tup (evps_cons (evp_ev ev_c (.str _)) (evps_cons (evp_ev ev_c (.str _)) (evps_cons (evp_ev ev_c (.str _)) evps_nil))) (by simp)) evps_nil))) (by simp)) (evps_cons (evp_tup (evps_cons (evp_ev ev_c (.str _)) (evps_cons (evp_ev ev_c (.str _)) evps_nil)) (by simp)) evps_nil))) (by simp)) evps_nil))) (by simp)) fun v3 H4 e3 h3 => ⟨l, _, _, rfl, rfl, e3 l _ upd_same, by show 2 < sizeLine; decide, ?_⟩⟩
          have nl : l ≠ p := by
            obtain ⟨x1, x2, x3, pp⟩ := pH'
            exact (ne_of_none (e1 p _ pp) hl).symm
          have hlH : H l = none := by
            cases e : H l with
            | none => rfl
            | some u =>
              have := e1 l u (kH' l u (by simpa using nl) e)
              rw [hl] at this
              cases this
          have l2 : (upd H2 l (.lst [v1])) l = some (.lst [v1]) := upd_same
          have T1 : Tp H2 H3 := (Tp.new hl).trans (Tp.of e2)
          have T2 : Tp H3 (upd H3 l (.lst ([v1] ++ [v2]))) := Tp.lst (e2 l _ upd_same)
          have T3 : Tp H3 H4 := T2.trans (Tp.of e3)
          have T4 : Tp H4 (upd H4 l (.lst ([v1] ++ [v2] ++ [v3]))) := Tp.lst (e3 l _ upd_same)
          refine ⟨l, _, [("main", ["m"], mB), ("g", ["a"], gB), ("h", ["b", "c"], hB)], _, _, _, _, _, rfl, ⟨gB, hB, mB, ?_, .g, .h, .m, by decide⟩, rfl, nl, ?_, ?_, upd_same, .cons (dp_ex ((T1.trans T3).trans T4).ex h1) (.cons (dp_ex (T3.trans T4).ex h2) (.cons (dp_ex T4.ex h3) .nil))⟩
          · exact (List.Perm.swap _ _ _).trans ((List.Perm.swap _ _ _).cons _)
          · exact Kp.mut (((Kp.mut ((Kp.mut (kH'.trans (Kp.of e1)) hlH).trans (Kp.of e2)) hlH).trans (Kp.of e3))) hlH
          · obtain ⟨x1, x2, x3, pp⟩ := pH'
            refine ⟨x1, x2, x3, ?_⟩
            rw [upd_ne nl.symm]
            refine e3 p _ ?_
            rw [upd_ne nl.symm]
            refine e2 p _ ?_
            rw [upd_ne nl.symm]
            exact e1 p _ pp
        · refine ⟨c, vs, [("g", ["a"], g), ("h", ["b", "c"], h), ("main", ["m"], m)], _, _, _, _, _, rfl, ⟨g, h, m, List.Perm.refl _, og, oh, om, ?_⟩, rfl, pc.symm, kH', pH', cH', dpa_ex tD.ex dvs⟩
          have hc2 : ¬ ((90 : Int) < ([(g.size : Int), (h.size : Int), (m.size : Int)] : List Int).sum) := of_decide_eq_false (by simpa using hc)
          simp only [List.sum_cons, List.sum_nil] at hc2
          omega
    rintro σ H2 ⟨c2, ws, ts, z3, z4, z5, z6, z7, rfl, ⟨g2, h2, m2, hpm, og2, oh2, om2, hs2⟩, hl3, ncp, kH2, pH2, cH2, dws⟩
    have lws : ws.length = 3 := by rw [dpa_len dws, List.length_map, hl3]
    refine ⟨_, rfl, _, rfl, p, c2, ws, rfl, pH2, ncp, sq_of cH2, by omega, fun ys f2 H3 hperm hf hf3 k3 P3 => ⟨f2, ys, rfl, .inl ⟨sq_of hf3, fun t ht => ?_⟩⟩⟩
    have T3 : Tp H2 H3 := k3.tp (by intro a ha; obtain ⟨x, y, z, hp⟩ := pH2; exact ⟨_, (List.mem_singleton.mp ha) ▸ hp⟩)
    obtain ⟨ts', hts, dys⟩ := dpa_perm hperm (dpa_ex T3.ex dws)
    have ntp : t ≠ p := by
      obtain ⟨x1, x2, x3, pp⟩ := P3
      exact (ne_of_none pp ht).symm
    refine k ts' _ _ ⟨g2, h2, m2, hts.trans hpm, og2, oh2, om2, hs2⟩ ((kH2.trans k3).trans (Kp.new ht)) ?_ (.tup (st_of (tp_of upd_same)) (dpa_ex (Tp.new ht).ex dys))
    obtain ⟨x1, x2, x3, pp⟩ := P3
    exact ⟨x1, x2, x3, by rw [upd_ne ntp.symm]; exact pp⟩
end
end K4

set_option maxHeartbeats 4000000
namespace K4
open PySem L2 Evl DL PJ PG TL
section
variable {P : Program} {w : World} {K : PySem.W.Frag} {mg : Str → Option Value} {base : Heap}
/-! ### the law's own: equal by repr, points, deep bodies -/
def spIs (K : PySem.W.Frag) : Sp := fun vs H Q _ => ∃ v u d, vs = [v, u] ∧ Dp K H v d ∧ Dp K H u d ∧ Shows d ∧ Q (.bl true) H
theorem bd_is : BindP "_law_is" s_law_is ["had", "due"] := fun _ _ _ _ _ _ us hl => match us, hl with | [_, _], _ => rfl
theorem ok_is (T : Txt K mg) : DefOk P w K mg base CX0 true 1 "_law_is" s_law_is ["had", "due"] (spIs K) := by
  refine T.d_law_is.okG scs_law_is (fun vs H Q E h => ?_) (fun f cdv A outer s0 H vs Q E hg hr h => ?_)
  · obtain ⟨v, u, d, rfl, _⟩ := h
    rfl
  · obtain ⟨v, u, d, rfl, hv, hu, hs, q⟩ := h
    refine ⟨_, pss_one (ps_ret (pe_cmpR op_eq (pe_callB (call_reprD hg hr) (by rfl) T.b_repr (by decide +kernel) (pa_cons (pv 0) pa_nil)) (pe_callB (call_reprD hg hr) (by rfl) T.b_repr (by decide +kernel) (pa_cons (pv 1) pa_nil)) (nomark _))), ?_⟩
    refine ⟨_, rfl, v, d, rfl, hv, hs, _, rfl, u, d, rfl, hu, hs, rfl, ?_⟩
    show Q (.bl (decide (V.str d.shown = V.str d.shown))) H
    rw [decide_eq_true rfl]
    exact q
def spPts (K : PySem.W.Frag) (dd : Nat) : Sp := fun vs H Q _ => ∃ (Hb : Hp) (v : V) (b : Bd), vs = [v] ∧ Ex Hb H ∧ Dp K Hb v (.tuple b.encs) ∧ shB b ∧ b.deep ≤ dd ∧ b.size ≤ 1000000 ∧ ∀ p H' ys, H p = none → Ex H H' → H' p = some (.lst ys) → ys.length = b.size → Q (.ref p) H'
theorem bd_pts : BindP "_law_points" s_law_points ["body"] := fun _ _ _ _ _ _ us hl => match us, hl with | [_], _ => rfl
theorem ok_pts (T : Txt K mg) : ∀ dd : Nat, DefOk P w K mg base CX0 false (dd + 1) "_law_points" s_law_points ["body"] (spPts K dd) := by
  intro dd
  induction dd with
  | zero =>
    obtain ⟨f, fd, F, hm⟩ := T.d_law_points.ex
    refine ⟨f, fd, F, hm, ⟨fun vs H Q E h => ?_, fun _ _ _ _ _ _ vs _ _ _ _ _ _ h => ?_⟩⟩
    · obtain ⟨Hb, v, b, rfl, _⟩ := h
      rfl
    · obtain ⟨Hb, v, b, rfl, _, _, _, hd, _⟩ := h
      exact absurd (Bd.deep_pos b) (by omega)
  | succ dd ih =>
    refine T.d_law_points.ok scs_law_points (fun vs H Q E h => ?_) (fun f cdv A outer s0 H vs Q E hr h => ?_)
    · obtain ⟨Hb, v, b, rfl, _⟩ := h
      rfl
    · obtain ⟨Hb, v, b, rfl, eb, hd, sh, hdp, hz, k⟩ := h
      obtain ⟨a, xs, rfl, hS, hxs⟩ := dp_tup hd
      have nd := scs_law_points.nd
      have lx := dpa_len hxs
      refine ⟨_, pss_cons (ps_set (i := 1) nd rfl (.inl rfl) (pe_lst pa_nil))
        (pss_cons (ps_for PassesOwn.never rfl (pi_tup (pv 0)) (pg_name (i := 2) nd rfl (.inl rfl))
          (pss_cut (ps_expr (pe_bm PySem.F.plainAttrs_list PySem.F.slot_list_append PySem.F.type_list_append mt_append (pv 1) (pa_cons (pv 2) pa_nil)))
          (pss_cut (ps_set (i := 3) nd rfl (.inl rfl) (pe_ifExp (pt_cmpR op_eq (pe_ix ix_tup (pv 2) pe_int (fun _ _ => rfl)) pe_str (nomark _)) (pe_slice sl_tup (pv 2) (po_some pe_int) po_none)
            (pe_ifExp (PW.pt (pw_and (pt_cmpR op_eq (pe_ix ix_tup (pv 2) pe_int (fun _ _ => rfl)) pe_str (nomark _)) (pw_and1 (pt_cmpR op_eq (pe_ix ix_tup (pe_ix ix_tup (pv 2) pe_int (fun _ _ => rfl)) pe_int (fun _ _ => rfl)) pe_str (nomark _)))))
              (pe_tup (pa_cons (pe_ix ix_tup (pe_ix ix_tup (pv 2) pe_int (fun _ _ => rfl)) pe_int (fun _ _ => rfl)) pa_nil)) (pe_tup pa_nil))))
          (pss_one (ps_for PassesOwn.never rfl (pi_tup (pv 3)) (pg_name (i := 4) nd rfl (.inl rfl))
            (pss_one (ps_set (i := 1) nd rfl (.inl rfl) (pe_op op_cat (pv 1) (pe_callD ih hr (.inl rfl) bd_pts pass0 (pa_cons (pv 4) pa_nil))))))))))
        (pss_one (ps_ret (pv 1)))), ?_⟩
      have total : ∀ i s, (stsB b)[i]? = some s → (((stsB b).take i).flatMap fun s => s.1 :: s.2.flatMap ptsB).length + (1 + (s.2.flatMap ptsB).length) ≤ b.size := fun i s hs => by
        have h1 := flat_take_le (fun s : PyData × List Bd => s.1 :: s.2.flatMap ptsB) (stsB b) (i + 1)
        rw [flat_take_succ hs, stsB_pts, ptsB_len, List.length_append, List.length_cons] at h1
        omega
      have big : (1000000 : Nat) < sizeLine := by decide
      refine ⟨sz_of (Nat.zero_le _), fun l hl => ⟨_, rfl, a, rfl, ⟨xs, ex_t (eb.trans (Ex.new hl)) hS⟩, ?_⟩⟩
      refine for_tup (K := K) (a := a) (xs := xs) (fun i σ' H' => ∃ (y2 y3 y4 : Option V) (g : Addr) (ys : List V), σ' = [some (.ref a), some (.ref g), y2, y3, y4] ∧ Ex H H' ∧ H g = none ∧ H' g = some (.lst ys) ∧ ys.length = (((stsB b).take i).flatMap fun s => s.1 :: s.2.flatMap ptsB).length)
        ⟨none, none, none, l, [], rfl, Ex.new hl, hl, upd_same, by simp⟩ (fun i σ' H' _ z => ?_) ?_ ?_
      · obtain ⟨_, _, _, _, _, _, e, _⟩ := z
        exact ex_t (eb.trans e) hS
      · rintro i x σ' H1 hx ⟨y2, y3, y4, g, ys, rfl, e1, hg0, hg, hl1⟩
        obtain ⟨d, hd', hxd⟩ := dpa_getV hxs hx
        rw [← stsB_encs, List.getElem?_map] at hd'
        obtain ⟨s, hs, rfl⟩ := Option.map_eq_some_iff.mp hd'
        have St := stsB_ok sh s (List.mem_of_getElem? hs)
        have tot := total i s hs
        have exg : ∀ {H' : Hp} {o : HO}, Ex H H' → Ex H (L2.upd H' g o) := fun e z o hz => by
          rw [upd_ne (ne_of_none hz hg0)]; exact e z o hz
        refine ⟨fun σ' H' => σ' = [some (.ref a), some (.ref g), some x, y3, y4] ∧ Ex H H' ∧ H' g = some (.lst (ys ++ [x])), ?_, ?_⟩
        · exact ⟨_, rfl, .inl ⟨rfl, _, sq_of hg⟩, _, rfl, g, _, _, rfl, rfl, hg, by omega, rfl, exg e1, upd_same⟩
        rintro _ H2 ⟨rfl, e2, hg2⟩
        refine ⟨fun σ' H' => ∃ (c : Addr) (zs : List V), σ' = [some (.ref a), some (.ref g), some x, some (.ref c), y4] ∧ Ex H2 H' ∧ SqT K H' c zs ∧ DpAll K Hb zs (s.2.map encT), ?_, ?_⟩
        · have eb2 := eb.trans e2
          have shp := St.shp
          generalize s.1 = dd0 at shp hxd
          generalize s.2.map encT = ll at shp
          cases shp with
          | oth h1 h2 =>
            obtain ⟨c, cs, rfl, hc, hcs⟩ := dp_tup hxd
            cases hcs with | cons g0 gr =>
            obtain rfl := dp_str g0
            exact ⟨_, rfl, c, _, 0, _, rfl, rfl, ex_t eb2 hc, atI_nat (j := 0) rfl, rfl, _, rfl, itF (str_ne h2) ⟨_, rfl, c, _, 0, _, rfl, rfl, ex_t eb2 hc, atI_nat (j := 0) rfl, rfl, _, rfl, itF (str_ne h1) ⟨sz_of (Nat.zero_le _), fun p hp => ⟨p, [], rfl, Ex.new hp, st_of upd_same, .nil⟩⟩⟩⟩
          | letp h =>
            obtain ⟨c, cs, rfl, hc, hcs⟩ := dp_tup hxd
            cases hcs with | cons g0 gr => cases gr with | cons g1 gr => cases gr with | cons g2 gr => cases gr with | nil =>
            obtain rfl := dp_str g0
            obtain ⟨c2, us, rfl, hc2, hus⟩ := dp_tup g2
            cases hus with | cons f0 fr =>
            obtain rfl := dp_str f0
            exact ⟨_, rfl, c, _, 0, _, rfl, rfl, ex_t eb2 hc, atI_nat (j := 0) rfl, rfl, _, rfl, itF (str_ne (by decide +kernel)) ⟨_, rfl, c, _, 0, _, rfl, rfl, ex_t eb2 hc, atI_nat (j := 0) rfl, rfl, _, rfl, itT (str_eq rfl)
              ⟨_, rfl, c, _, 2, _, rfl, rfl, ex_t eb2 hc, atI_nat (j := 2) rfl, c2, _, 0, _, rfl, rfl, ex_t eb2 hc2, atI_nat (j := 0) rfl, rfl, _, rfl, itF (str_ne h) ⟨sz_of (Nat.zero_le _), fun p hp => ⟨p, [], rfl, Ex.new hp, st_of upd_same, .nil⟩⟩⟩⟩⟩
          | letf =>
            obtain ⟨c, cs, rfl, hc, hcs⟩ := dp_tup hxd
            cases hcs with | cons g0 gr => cases gr with | cons g1 gr => cases gr with | cons g2 gr => cases gr with | nil =>
            obtain rfl := dp_str g0
            obtain ⟨c2, us, rfl, hc2, hus⟩ := dp_tup g2
            cases hus with | cons f0 fr => cases fr with | cons f1 fr => cases fr with | cons f2 fr => cases fr with | nil =>
            obtain rfl := dp_str f0
            exact ⟨_, rfl, c, _, 0, _, rfl, rfl, ex_t eb2 hc, atI_nat (j := 0) rfl, rfl, _, rfl, itF (str_ne (by decide +kernel)) ⟨_, rfl, c, _, 0, _, rfl, rfl, ex_t eb2 hc, atI_nat (j := 0) rfl, rfl, _, rfl, itT (str_eq rfl)
              ⟨_, rfl, c, _, 2, _, rfl, rfl, ex_t eb2 hc, atI_nat (j := 2) rfl, c2, _, 0, _, rfl, rfl, ex_t eb2 hc2, atI_nat (j := 0) rfl, rfl, _, rfl, itT (str_eq rfl) ⟨_, rfl, c, _, 2, _, rfl, rfl, ex_t eb2 hc, atI_nat (j := 2) rfl, c2, _, 2, _, rfl, rfl, ex_t eb2 hc2, atI_nat (j := 2) rfl,
                sz_of (by simp), fun p hp => ⟨p, _, rfl, Ex.new hp, st_of upd_same, .cons f2 .nil⟩⟩⟩⟩⟩
          | cond =>
            obtain ⟨c, cs, rfl, hc, hcs⟩ := dp_tup hxd
            cases hcs with | cons g0 gr => cases gr with | cons g1 gr => cases gr with | cons g2 gr => cases gr with | cons g3 gr => cases gr with | nil =>
            obtain rfl := dp_str g0
            refine ⟨_, rfl, c, _, 0, _, rfl, rfl, ex_t eb2 hc, atI_nat (j := 0) rfl, rfl, _, rfl, itT (str_eq rfl) ⟨_, rfl, _, rfl, c, _, rfl, ex_t eb2 hc, fun z => ?_, fun p hp => ⟨p, _, rfl, Ex.new hp, st_of upd_same, ?_⟩⟩⟩
            · have e : HT.sIx 4 0 (some ((2 : Nat) : Int)) = 0 := z.1
              rw [HT.sIx_nat] at e
              omega
            · exact .cons g2 (.cons g3 .nil)
        rintro _ H3 ⟨c, zs, rfl, e3, hc3, hzs⟩
        have e13 := e2.trans e3
        refine ⟨_, rfl, c, rfl, ⟨zs, hc3⟩, for_tup (K := K) (a := c) (xs := zs) (fun j σ' H' => ∃ (y4 : Option V) (g : Addr) (ys : List V), σ' = [some (.ref a), some (.ref g), some x, some (.ref c), y4] ∧ Ex H3 H' ∧ H g = none ∧ H' g = some (.lst ys) ∧
          ys.length = (((stsB b).take i).flatMap fun s => s.1 :: s.2.flatMap ptsB).length + (1 + ((s.2.take j).flatMap ptsB).length)) ⟨y4, g, _, rfl, Ex.refl _, hg0, e3 _ _ hg2, by rw [List.length_append, hl1]; simp⟩ (fun j σ' H' _ z => ?_) ?_ ?_⟩
        · obtain ⟨_, _, _, _, e, _⟩ := z
          exact ex_t e hc3
        · rintro j z σ' H4 hz4 ⟨y4', g', ys', rfl, e4, hg0', hg4, hl4⟩
          obtain ⟨d2, hd2, hzd⟩ := dpa_getV hzs hz4
          rw [List.getElem?_map] at hd2
          obtain ⟨b', hb', rfl⟩ := Option.map_eq_some_iff.mp hd2
          obtain ⟨sh', dp'⟩ := St.sub b' (List.mem_of_getElem? hb')
          have ssub : ((s.2.take j).flatMap ptsB).length + b'.size ≤ (s.2.flatMap ptsB).length := by
            have h1 := flat_take_le ptsB s.2 (j + 1)
            rw [flat_take_succ hb', List.length_append, ptsB_len] at h1
            exact h1
          refine ⟨_, rfl, _, rfl, Hb, z, b', rfl, (eb.trans e13).trans e4, hzd, sh', by omega, by omega, fun p H5 ws np e5 hp hlw => ?_⟩
          have hb1 : ys'.length + ws.length ≤ 1000000 := by omega
          refine ⟨g', p, _, _, rfl, rfl, e5 _ _ hg4, hp, by omega, fun p2 hp2 => ⟨_, p2, _, rfl, (e4.trans e5).trans (Ex.new hp2), fresh_back (e13.trans (e4.trans e5)) hp2, upd_same, ?_⟩⟩
          rw [flat_take_succ hb', List.length_append, List.length_append, ptsB_len, hl4, hlw]
          omega
        · rintro σ' H4 ⟨y4', g', ys', rfl, e4, hg0', hg4, hl4⟩
          have lz := dpa_len hzs
          rw [List.length_map] at lz
          have et2 : s.2.take zs.length = s.2 := List.take_of_length_le (by omega)
          rw [et2] at hl4
          refine ⟨_, _, _, g', ys', rfl, e13.trans e4, hg0', hg4, ?_⟩
          rw [flat_take_succ hs, List.length_append, List.length_cons, hl4]
          omega
      · rintro σ' H1 ⟨y2, y3, y4, g, ys, rfl, e1, hg0, hg, hl1⟩
        refine ⟨_, rfl, k g H1 ys hg0 e1 hg ?_⟩
        have et : (stsB b).take xs.length = stsB b := List.take_of_length_le (by rw [lx, ← stsB_encs, List.length_map]; exact Nat.le_refl _)
        rw [hl1, et, stsB_pts, ptsB_len]
/-- a deep body -/
def deepB (isIf : Bool) : Nat → Bd
  | 0 => .give (.num 0)
  | n + 1 => if isIf = true then .cond (.num 1) (deepB isIf n) (.give (.num 1)) else .lets (nmK "f" n) (.fn [] (deepB isIf n)) (.give (.num 0))
def spDeep (K : PySem.W.Frag) : Sp := fun vs H Q _ => ∃ (n : Nat) (w : Str), vs = [.int (n : Int), .str w] ∧ n ≤ 7 ∧ ∀ v H', Ex H H' → Dp K H' v (.tuple (deepB (decide (w = "if")) n).encs) → Q v H'
theorem bd_deep : BindP "_law_deep" s_law_deep ["many", "word"] := fun _ _ _ _ _ _ us hl => match us, hl with | [_, _], _ => rfl
theorem ok_deep (T : Txt K mg) : DefOk P w K mg base CX0 false 1 "_law_deep" s_law_deep ["many", "word"] (spDeep K) := by
  refine T.d_law_deep.ok scs_law_deep (fun vs H Q E h => ?_) (fun f cdv A outer s0 H vs Q E hr h => ?_)
  · obtain ⟨n, w, rfl, _⟩ := h
    rfl
  · obtain ⟨n, w, rfl, hn, k⟩ := h
    have nd := scs_law_deep.nd
    refine ⟨_, pss_cons (ps_set (i := 2) nd rfl (.inl rfl) (pe_tup (pa_cons (pe_tup (pa_cons pe_str (pa_cons pe_int pa_nil))) pa_nil)))
      (pss_cons (ps_for PassesOwn.never rfl (pi_range1 (by rfl) T.b_range (pa_cons (pv 0) pa_nil)) (pg_name (i := 3) nd rfl (.inl rfl))
        (pss_cons (ps_set (i := 4) nd rfl (.inl rfl) (pe_op op_add_str pe_str (pe_callTy call_str_int (by rfl) T.b_str (by decide +kernel) (pa_cons (pv 3) pa_nil))))
        (pss_one (ps_set (i := 2) nd rfl (.inl rfl) (pe_ifExp (pt_cmpR op_eq (pv 1) pe_str (nomark _)) (pe_tup (pa_cons (pe_tup (pa_cons pe_str (pa_cons pe_int (pa_cons (pv 2) (pa_cons (pe_tup (pa_cons (pe_tup (pa_cons pe_str (pa_cons pe_int pa_nil))) pa_nil)) pa_nil))))) pa_nil))
          (pe_tup (pa_cons (pe_tup (pa_cons pe_str (pa_cons (pv 4) (pa_cons (pe_tup (pa_cons pe_str (pa_cons (pe_tup pa_nil) (pa_cons (pv 2) pa_nil)))) pa_nil)))) (pa_cons (pe_tup (pa_cons pe_str (pa_cons pe_int pa_nil))) pa_nil))))))))
      (pss_one (ps_ret (pv 2)))), ?_⟩
    have c1 : ∀ (σ : L2.St) (w : Str) (i : Int), EvD K (tTup (tCons (tC (.str w)) (tCons (tC (.int i)) tNil))) σ H (.tuple [.str w, .int i]) := fun σ w i =>
      evd_tup (evds_cons (evd_ev ev_c (.str _)) (evds_cons (evd_ev ev_c (.int _)) evds_nil)) (by simp)
    dsimp only [tSeq, tAsg, tFor]
    refine evd_tup (evds_cons (c1 _ "give" 0) evds_nil) (by simp) H (Ex.refl H) _ fun v1 H1 e1 hv1 => ⟨_, rfl, n, rfl, by omega, by omega, ?_⟩
    refine for_range (lo := 0) (n := ((n : Int)).toNat) (fun i σ' H' => ∃ (u : V) (y3 y4 : Option V), σ' = [some (.int (n : Int)), some (.str w), some u, y3, y4] ∧ Ex H H' ∧ Dp K H' u (.tuple (deepB (decide (w = "if")) i).encs)) ⟨v1, none, none, rfl, e1, hv1⟩ ?_ ?_
    · rintro i σ' H2 hi ⟨u, y3, y4, rfl, e2, hu⟩
      have hlt : i ≤ 6 := by omega
      have small : ((i : Nat) : Int).natAbs.log2 < 1920 := by
        have h : ∀ i : Nat, i ≤ 6 → ((i : Nat) : Int).natAbs.log2 < 1920 := by decide
        exact h i hlt
      have lsm : (Str.ofString "f").length + (Str.ofString (toString ((i : Nat) : Int))).length ≤ sizeLine := by
        have h : ∀ i : Nat, i ≤ 6 → (Str.ofString "f").length + (Str.ofString (toString ((i : Nat) : Int))).length ≤ 100 := by decide +kernel
        exact Nat.le_trans (h i hlt) (by decide)
      rw [Int.zero_add]
      refine ⟨_, rfl, (i : Int), rfl, small, _, _, rfl, rfl, lsm, ?_⟩
      have c2 : ∀ (σ : L2.St) (w : Str) (i : Int), EvD K (tTup (tCons (tC (.str w)) (tCons (tC (.int i)) tNil))) σ H2 (.tuple [.str w, .int i]) := fun σ w i =>
        evd_tup (evds_cons (evd_ev ev_c (.str _)) (evds_cons (evd_ev ev_c (.int _)) evds_nil)) (by simp)
      dsimp only [tAsg, tIf, tTest, tOp, tVar, tC, gName]
      refine ⟨_, rfl, rfl, _, rfl, ?_⟩
      by_cases hw : w = "if"
      · have ed : decide (w = "if") = true := decide_eq_true hw
        rw [ed] at hu ⊢
        refine itT (str_eq hw) ?_
        refine evd_tup (K := K) (evds_cons (evd_tup (evds_cons (evd_ev ev_c (.str _)) (evds_cons (evd_ev ev_c (.int _)) (evds_cons (evd_var (i := 2) rfl hu) (evds_cons (evd_tup (evds_cons (c2 _ "give" 1) evds_nil) (by simp)) evds_nil)))) (by simp)) evds_nil) (by simp) H2 (Ex.refl _) _ fun v3 H3 e3 hv3 => ?_
        exact ⟨v3, _, _, rfl, e2.trans e3, hv3⟩
      · have ed : decide (w = "if") = false := decide_eq_false hw
        rw [ed] at hu ⊢
        refine itF (str_ne hw) ?_
        refine evd_tup (K := K) (evds_cons (evd_tup (evds_cons (evd_ev ev_c (.str _)) (evds_cons (evd_var (i := 4) rfl (.str _)) (evds_cons (evd_tup (evds_cons (evd_ev ev_c (.str _)) (evds_cons (evd_tup evds_nil (by simp)) (evds_cons (evd_var (i := 2) rfl hu) evds_nil))) (by simp)) evds_nil))) (by simp)) (evds_cons (c2 _ "give" 0) evds_nil)) (by simp) H2 (Ex.refl _) _ fun v3 H3 e3 hv3 => ?_
        exact ⟨v3, _, _, rfl, e2.trans e3, hv3⟩
    · rintro σ' H2 ⟨u, y3, y4, rfl, e2, hu⟩
      rw [Int.toNat_natCast] at hu
      exact ⟨_, rfl, k _ _ e2 hu⟩
end
end K4

set_option maxHeartbeats 4000000
namespace DL
open PySem L2 Evl PySem.Spec PyProof.Rows PJ
/-! ### evaluating to data that a list D does not touch -/
/-- te makes d at every heap over Hb, whatever list stands at D -/
def EvB (K : PySem.W.Frag) (te : TE) (σ : L2.St) (Hb : Hp) (d : PyData) : Prop := ∀ (H' : Hp) (D : Addr), H' D ≠ none → Ex Hb (hid [D] H') → ∀ Q : VK, (∀ v H'', Ex H' H'' → Dp K (hid [D] H'') v d → Q v H'') → te σ H' Q
def EvBs (K : PySem.W.Frag) (ta : TA) (σ : L2.St) (Hb : Hp) (ds : List PyData) : Prop := ∀ (H' : Hp) (D : Addr), H' D ≠ none → Ex Hb (hid [D] H') → ∀ Q : List V → Hp → Prop, (∀ vs H'', Ex H' H'' → DpAll K (hid [D] H'') vs ds → Q vs H'') → ta σ H' Q
section
variable {K : PySem.W.Frag} {σ : L2.St} {Hb : Hp} {te : TE} {ta : TA} {d : PyData} {ds : List PyData}
theorem hid_kp {D : Addr} {H H' : Hp} (e : Ex H H') : Ex (hid [D] H) (hid [D] H') := (Kp.of e).ex
theorem evb_var {i : Nat} {v : V} (h : σ[i]? = some (some v)) (hd : Dp K Hb v d) : EvB K (tVar i) σ Hb d := fun H' D _ e Q q => ⟨v, h, q v H' (Ex.refl _) (dp_ex e hd)⟩
theorem evb_c {v : V} (hd : ∀ {H : Hp}, Dp K H v d) : EvB K (tC v) σ Hb d := fun H' D _ e Q q => q v H' (Ex.refl _) hd
theorem evbs_nil : EvBs K tNil σ Hb [] := fun H' D _ e Q q => q [] H' (Ex.refl _) .nil
theorem evbs_cons (h : EvB K te σ Hb d) (hr : EvBs K ta σ Hb ds) : EvBs K (tCons te ta) σ Hb (d :: ds) := fun H' D nD e Q q =>
  h H' D nD e _ fun v H2 e2 hv => hr H2 D (fun z => by
    cases hD : H' D with
    | none => exact nD hD
    | some o => rw [e2 _ _ hD] at z; cases z) (e.trans (hid_kp e2)) _ fun vs H3 e3 hvs => q (v :: vs) H3 (e2.trans e3) (.cons (dp_ex (hid_kp e3) hv) hvs)
theorem evb_tup (h : EvBs K ta σ Hb ds) (hl : ds.length ≤ 100000) : EvB K (tTup ta) σ Hb (.tuple ds) := fun H' D nD e Q q =>
  h H' D nD e _ fun vs H2 e2 hvs => ⟨sz_of (by rw [dpa_len hvs]; exact hl), fun p hp => by
    have np : p ≠ D := fun z => by
      cases hD : H' D with
      | none => exact nD hD
      | some o => rw [z, e2 _ _ hD] at hp; cases hp
    exact q _ _ (e2.trans (Ex.new hp)) (.tup (st_of (hid_of upd_same (by simpa using np))) (dpa_ex (hid_kp (Ex.new hp)) hvs))⟩
/-- the list grown so far, of data -/
def GrownD (K : PySem.W.Frag) (H : Hp) (D : Addr) (ds : List PyData) (H' : Hp) : Prop := Ex H H' ∧ ∃ vs, H' D = some (.lst vs) ∧ DpAll K (hid [D] H') vs ds
theorem GrownD.next {H H' H'' : Hp} {D : Addr} {v : V} (g : GrownD K H D ds H') (nD : H D = none) (hn : ds.length < 1000000) (e : Ex H' H'') (r : Dp K (hid [D] H'') v d) :
    ∃ acc, H'' D = some (.lst acc) ∧ acc.length < sizeLine ∧ GrownD K H D (ds ++ [d]) (L2.upd H'' D (.lst (acc ++ [v]))) := by
  obtain ⟨e0, vs, hD, hvs⟩ := g
  have big : (1000000 : Nat) < sizeLine := by decide
  refine ⟨vs, e _ _ hD, by rw [dpa_len hvs]; omega, fun b o hb => ?_, vs ++ [v], upd_same, ?_⟩
  · have nb : b ≠ D := fun z => by rw [z, nD] at hb; cases hb
    rw [upd_ne nb]
    exact e _ _ (e0 _ _ hb)
  · have eh : ∀ o : HO, hid [D] (L2.upd H'' D o) = hid [D] H'' := fun o => by
      funext b
      unfold hid
      by_cases hb : b ∈ ([D] : List Addr)
      · rw [if_pos hb, if_pos hb]
      · rw [if_neg hb, if_neg hb, upd_ne (by simpa using hb)]
    rw [eh]
    exact dpa_app (dpa_ex (hid_kp e) hvs) (dpa_one r)
variable {H : Hp} {Q : VK} {i : Nat} {xs : List V} {a : Addr} {f : Nat → PyData}
theorem range_succ_map (f : Nat → PyData) (j : Nat) : (List.range (j + 1)).map f = (List.range j).map f ++ [f j] := by rw [List.range_succ, List.map_append]; rfl
/-- [e for x in xs], items new data -/
theorem lc_listB {ts : TE} (hs : Ev ts σ H (.ref a)) (hS : SqL K H a xs) (hl : xs.length ≤ 1000000) (step : ∀ j x, xs[j]? = some x → EvB K te ((wipe σ [i]).set i (some x)) H (f j))
    (k : ∀ p vs H', H p = none → Ex H H' → H' p = some (.lst vs) → DpAll K (hid [p] H') vs ((List.range xs.length).map f) → Q (.ref p) H') : tLc (iList K ts) (gName i) tYes te [i] σ H Q := by
  refine hs H (Ex.refl H) _ fun H1 e1 => ⟨a, rfl, ⟨xs, ex_l e1 hS⟩, fun D nD => ?_⟩
  have nDH : H D = none := fresh_back e1 nD
  refine lc_list (K := K) (a := a) (xs := xs) (fun j H' => GrownD K H D ((List.range j).map f) H') ⟨e1.trans (Ex.new nD), [], upd_same, .nil⟩ (fun j H' _ z => ex_l z.1 hS) ?_ ?_
  · intro j x H' hx g
    have hjl := (List.getElem?_eq_some_iff.mp hx).1
    refine ⟨wipe1_set σ i _, lc_yes (step j x hx H' D (by obtain ⟨_, vs, hD, _⟩ := g; rw [hD]; exact fun z => nomatch z) (exHid g.1 (by simpa using nDH)) _ fun v H'' e2 r => ?_)⟩
    rw [range_succ_map]
    exact g.next nDH (by simp; omega) e2 r
  · rintro H' ⟨e, vs, hD, hvs⟩
    exact k D vs H' nDH e hD hvs
theorem lc_tupB {ts : TE} (hs : Ev ts σ H (.ref a)) (hS : SqT K H a xs) (hl : xs.length ≤ 1000000) (step : ∀ j x, xs[j]? = some x → EvB K te ((wipe σ [i]).set i (some x)) H (f j))
    (k : ∀ p vs H', H p = none → Ex H H' → H' p = some (.lst vs) → DpAll K (hid [p] H') vs ((List.range xs.length).map f) → Q (.ref p) H') : tLc (iTup K ts) (gName i) tYes te [i] σ H Q := by
  refine hs H (Ex.refl H) _ fun H1 e1 => ⟨a, rfl, ⟨xs, ex_t e1 hS⟩, fun D nD => ?_⟩
  have nDH : H D = none := fresh_back e1 nD
  refine lc_tup (K := K) (a := a) (xs := xs) (fun j H' => GrownD K H D ((List.range j).map f) H') ⟨e1.trans (Ex.new nD), [], upd_same, .nil⟩ (fun j H' _ z => ex_t z.1 hS) ?_ ?_
  · intro j x H' hx g
    have hjl := (List.getElem?_eq_some_iff.mp hx).1
    refine ⟨wipe1_set σ i _, lc_yes (step j x hx H' D (by obtain ⟨_, vs, hD, _⟩ := g; rw [hD]; exact fun z => nomatch z) (exHid g.1 (by simpa using nDH)) _ fun v H'' e2 r => ?_)⟩
    rw [range_succ_map]
    exact g.next nDH (by simp; omega) e2 r
  · rintro H' ⟨e, vs, hD, hvs⟩
    exact k D vs H' nDH e hD hvs
/-! ### lists of data as values -/
/-- a list's items stand without the list -/
structure LsD (K : PySem.W.Frag) (H : Hp) (l : Addr) (ds : List PyData) : Prop where
  ex : ∃ vs, H l = some (.lst vs) ∧ DpAll K (hid [l] H) vs ds
theorem LsD.mono {H H' : Hp} {l : Addr} (h : LsD K H l ds) (e : Ex H H') : LsD K H' l ds := by
  obtain ⟨vs, hl, hd⟩ := h.ex
  exact ⟨vs, e _ _ hl, dpa_ex (hid_kp e) hd⟩
theorem LsD.dp {H : Hp} {l : Addr} (h : LsD K H l ds) : Dp K H (.ref l) (.list ds) := by
  obtain ⟨vs, hl, hd⟩ := h.ex
  exact .lst (sq_of hl) (dpa_ex hid_ex hd)
def EvL' (K : PySem.W.Frag) (te : TE) (σ : L2.St) (H : Hp) (ds : List PyData) : Prop := ∀ H1, Ex H H1 → ∀ Q : VK, (∀ p H2, Ex H1 H2 → LsD K H2 p ds → Q (.ref p) H2) → te σ H1 Q
theorem hid_new {p : Addr} {H : Hp} {o : HO} (h : H p = none) : Ex H (hid [p] (L2.upd H p o)) := fun a u ha => hid_of ((Ex.new h) a u ha) (by simpa using ne_of_none ha h)
theorem evl_var {i : Nat} {l : Addr} (h : σ[i]? = some (some (.ref l))) (hd : LsD K H l ds) : EvL' K (tVar i) σ H ds := fun H1 e Q q => ⟨_, h, q l H1 (Ex.refl _) (hd.mono e)⟩
/-- .. a new list -/
def EvLf (K : PySem.W.Frag) (te : TE) (σ : L2.St) (H : Hp) (ds : List PyData) : Prop := ∀ H1, Ex H H1 → ∀ Q : VK, (∀ p H2, H1 p = none → Ex H1 H2 → LsD K H2 p ds → Q (.ref p) H2) → te σ H1 Q
theorem EvLf.e (h : EvLf K te σ H ds) : EvL' K te σ H ds := fun H1 e Q q => h H1 e Q fun p H2 _ e2 d => q p H2 e2 d
theorem evl_lst (h : EvDs K ta σ H ds) (hl : ds.length ≤ 100000) : EvLf K (tLst ta) σ H ds := fun H1 e Q q =>
  h H1 e _ fun vs H2 e2 hvs => ⟨sz_of (by rw [dpa_len hvs]; exact hl), fun p hp => q p _ (fresh_back e2 hp) (e2.trans (Ex.new hp)) ⟨vs, upd_same, dpa_ex (hid_new hp) hvs⟩⟩
theorem evl_cat {t1 t2 : TE} {as bs : List PyData} (h1 : EvL' K t1 σ H as) (h2 : EvL' K t2 σ H bs) (hl : as.length + bs.length ≤ 100000) : EvLf K (tOp rCat t1 t2) σ H (as ++ bs) := fun H1 e Q q =>
  h1 H1 e _ fun p1 H2 e2 d1 => h2 H2 (e.trans e2) _ fun p2 H3 e3 d2 => by
    obtain ⟨vs, hv, dv⟩ := (d1.mono e3).ex
    obtain ⟨ws, hw, dw⟩ := d2.ex
    refine ⟨p1, p2, vs, ws, rfl, rfl, hv, hw, sz_of (by rw [dpa_len dv, dpa_len dw]; exact hl), fun p hp => q p _ (fresh_back (e2.trans e3) hp) ((e2.trans e3).trans (Ex.new hp)) ⟨_, upd_same, dpa_ex (hid_new hp) (dpa_app (dpa_ex hid_ex dv) (dpa_ex hid_ex dw))⟩⟩
theorem evd_neg {n : Int} : EvD K (tUn (rU fun i => .int (-i)) (tC (.int n))) σ H (.int (-n)) := fun H1 e Q q => ⟨n, rfl, q _ H1 (Ex.refl _) (.int _)⟩
/-- [e for x in l] of a list of data -/
theorem evl_lcL {l : Addr} {n : Nat} {g : PyData → PyData} (hv : σ[n]? = some (some (.ref l))) (hd : LsD K H l ds) (hl : ds.length ≤ 1000000) (step : ∀ H1 x d, Dp K H1 x d → EvB K te ((wipe σ [i]).set i (some x)) H1 (g d)) :
    EvLf K (tLc (iList K (tVar n)) (gName i) tYes te [i]) σ H (ds.map g) := fun H1 e Q q => by
  obtain ⟨vs, hvs, dvs⟩ := (hd.mono e).ex
  have dvs := dpa_ex hid_ex dvs
  have lv := dpa_len dvs
  refine lc_listB (K := K) (a := l) (xs := vs) (f := fun j => match ds[j]? with | some d => g d | none => .none) (ev_var hv) (sq_of hvs) (by omega) (fun j x hx => ?_) fun p ws H2 np e2 hp hws => q p H2 np e2 ⟨ws, hp, ?_⟩
  · obtain ⟨d, hd', hxd⟩ := dpa_getV dvs hx
    rw [hd']
    exact step H1 x d hxd
  · have em : (List.range vs.length).map (fun j => match ds[j]? with | some d => g d | none => .none) = ds.map g := by
      rw [lv]
      refine List.ext_getElem? fun j => ?_
      rcases Nat.lt_or_ge j ds.length with h | h
      · rw [List.getElem?_map, List.getElem?_range h, List.getElem?_map, List.getElem?_eq_getElem h]
        simp [h]
      · rw [List.getElem?_eq_none (by simp; omega), List.getElem?_eq_none (by simp; omega)]
    rw [em] at hws
    exact hws
/-- [e for x in (..)] of a written tuple -/
theorem evl_lcT {g : PyData → PyData} (hd : EvDs K ta σ H ds) (hl : ds.length ≤ 100000) (step : ∀ H1 x d, Dp K H1 x d → EvB K te ((wipe σ [i]).set i (some x)) H1 (g d)) :
    EvLf K (tLc (iTup K (tTup ta)) (gName i) tYes te [i]) σ H (ds.map g) := fun H1 e Q q => by
  refine hd H1 e _ fun vs H2 e2 dvs => ⟨sz_of (by rw [dpa_len dvs]; exact hl), fun p0 hp0 => ?_⟩
  have e3 : Ex H2 (L2.upd H2 p0 (.tup vs)) := Ex.new hp0
  have dv3 := dpa_ex e3 dvs
  have lv := dpa_len dvs
  have main := lc_tupB (K := K) (σ := σ) (H := L2.upd H2 p0 (.tup vs)) (Q := Q) (te := te) (ts := tC (.ref p0)) (i := i) (xs := vs) (a := p0) (f := fun j => match ds[j]? with | some d => g d | none => .none) (fun H1 _ Q q => q H1 (Ex.refl H1)) (st_of upd_same) (by omega) (fun j x hx => by
      obtain ⟨d, hd', hxd⟩ := dpa_getV dv3 hx
      rw [hd']
      exact step _ x d hxd) fun p ws H4 np e4 hp hws => q p H4 (fresh_back (e2.trans e3) np) ((e2.trans e3).trans e4) ⟨ws, hp, by
        have em : (List.range vs.length).map (fun j => match ds[j]? with | some d => g d | none => .none) = ds.map g := by
          rw [lv]
          refine List.ext_getElem? fun j => ?_
          rcases Nat.lt_or_ge j ds.length with h | h
          · rw [List.getElem?_map, List.getElem?_range h, List.getElem?_map, List.getElem?_eq_getElem h]
            simp [h]
          · rw [List.getElem?_eq_none (by simp; omega), List.getElem?_eq_none (by simp; omega)]
        rw [em] at hws
        exact hws⟩
  obtain ⟨a', ea, _, z⟩ := main
  cases ea
  exact ⟨p0, rfl, ⟨vs, st_of upd_same⟩, z⟩
theorem evd_evl (h : EvL' K te σ H ds) : EvD K te σ H (.list ds) := fun H1 e Q q => h H1 e Q fun p H2 e2 d => q _ H2 e2 d.dp
end
end DL

set_option maxHeartbeats 4000000
namespace K4
open PySem L2 Evl DL PJ PG TL
section
variable {P : Program} {w : World} {K : PySem.W.Frag} {mg : Str → Option Value} {base : Heap}

/-! ### wrong statements -/
theorem evd_par {i j : Nat} {a b : TE} {σ : L2.St} {H : Hp} {d : PyData} {D : Ends} (h : EvD K a σ H d) (k : ∀ v H1, Ex H H1 → Dp K H1 v d → b σ H1 fun u H2 => ∃ x y, [v, u] = [x, y] ∧ D.nx ((σ.set i (some x)).set j (some y)) H2) : tPar i j (tCons a (tCons b tNil)) D σ H :=
  h H (Ex.refl H) _ fun v H1 e hv => k v H1 e hv
def giveD : PyData := (.tuple [(.str "give"), (.int 0)])
def some0D : List PyData := [.none, (.tuple []), (.tuple [(.str "let"), (.str "a9")]), (.list [(.str "say"), (.int 1)]), (.tuple [(.str "say"), (.str "zz")]), (.tuple [(.str "say"), (.bool true)]), (.tuple [(.str "say"), (.int (-1))])]
def rt0D : List PyData := [(.tuple [(.str "atom"), (.str "zz")]), (.tuple [(.str "atom")]), (.tuple [(.str "-"), (.int 1)]), (.tuple [(.str "/"), (.int 1), (.int 2)]), (.tuple [(.str "pair"), (.int 1)]), (.tuple [(.str "left"), (.int 1), (.int 2)]), (.tuple [(.str "call"), (.str "zz"), (.tuple [])])]
def rt1D : List PyData := [(.tuple [(.str "call"), (.str "g"), (.tuple [(.int 1), (.int 2), (.int 3), (.int 4), (.int 5)])]), (.tuple [(.str "fun"), (.tuple [(.str "x"), (.str "x")]), (.tuple [giveD])]), (.tuple [(.str "fun"), (.tuple [(.str "g")]), (.tuple [giveD])])]
def rt2D : List PyData := [(.tuple [(.str "call"), (.int 1), (.list [(.int 1)])]), (.tuple [(.str "fun"), (.tuple []), (.tuple [])])]
def rt3D : List PyData := [(.tuple [(.str "fun"), (.tuple [(.str "x1"), (.str "x2"), (.str "x3"), (.str "x4"), (.str "x5")]), (.tuple [giveD])]), (.tuple [(.str "fun"), (.tuple [(.str "x")]), (.tuple [(.tuple [(.str "give"), (.str "zz")])])])]
def rt5D : List PyData := [.none, (.str "a"), (.list [(.str "atom"), (.int 1)]), (.tuple [(.str "fun"), (.list [(.str "x")]), (.tuple [giveD])]), (.tuple [(.str "what"), (.int 1)])]
def rtAD : PyData := (.tuple [(.str "fun"), (.tuple []), (.tuple [(.tuple [(.str "say"), (.int 1)])])])
def rightsD : List PyData := (((rt0D ++ rt1D) ++ rt2D) ++ rt3D) ++ [rtAD] ++ rt5D
def letA (r : PyData) : PyData := .tuple [.str "let", .str "a9", r]
def namD : List PyData := [(.str "g"), (.str "main"), (.str "9a"), (.str "pair"), (.str "abcdefghi"), (.str ""), (.str "A"), .none, (.int 5)]
def letN (n : PyData) : PyData := .tuple [.str "let", n, .tuple [.str "atom", .int 1]]
def s7D : List PyData := [(.tuple [(.str "say"), (.int 2147483648)])]
def lastD : List PyData := [(.tuple [(.str "let"), (.str "a9"), (.tuple [(.str "atom"), (.str "a9")])]), giveD, (.tuple [(.str "if"), (.int 1), (.tuple [giveD]), (.tuple [giveD])]), (.tuple [(.str "tail"), (.str "g"), (.tuple [(.int 1)])])]
def wrongsD : List PyData := (((some0D ++ rightsD.map letA) ++ s7D) ++ namD.map letN) ++ lastD
def spWr (K : PySem.W.Frag) : Sp := fun vs H Q _ => vs = [] ∧ ∀ p H', Ex H H' → LsD K H' p wrongsD → Q (.ref p) H'
theorem bd_wr : BindP "_law_wrongs" s_law_wrongs [] := fun _ _ _ _ _ _ us hl => match us, hl with | [], _ => rfl
theorem ok_wr (T : Txt K mg) : DefOk P w K mg base CX0 false 1 "_law_wrongs" s_law_wrongs [] (spWr K) := by
  refine T.d_law_wrongs.ok scs_law_wrongs (fun vs H Q E h => ?_) (fun f cdv A outer s0 H vs Q E hr h => ?_)
  · obtain ⟨rfl, _⟩ := h
    rfl
  · obtain ⟨rfl, k⟩ := h
    have nd := scs_law_wrongs.nd
    refine ⟨_, pss_cut (ps_par (i := 0) (j := 1) (by rfl) nd rfl rfl (by decide) rfl rfl (pa_cons (pe_tup (pa_cons pe_str (pa_cons pe_int pa_nil))) (pa_cons (pe_lst (pa_cons pe_non (pa_cons (pe_tup pa_nil) (pa_cons (pe_tup (pa_cons pe_str (pa_cons pe_str pa_nil))) (pa_cons (pe_lst (pa_cons pe_str (pa_cons pe_int pa_nil))) (pa_cons (pe_tup (pa_cons pe_str (pa_cons pe_str pa_nil))) (pa_cons (pe_tup (pa_cons pe_str (pa_cons pe_bl pa_nil))) (pa_cons (pe_tup (pa_cons pe_str (pa_cons (pe_un un_neg pe_int) pa_nil))) pa_nil)))))))) pa_nil)) (by rfl))
      (pss_cut (ps_set (i := 2) nd rfl (.inl rfl) (pe_lst (pa_cons (pe_tup (pa_cons pe_str (pa_cons pe_str pa_nil))) (pa_cons (pe_tup (pa_cons pe_str pa_nil)) (pa_cons (pe_tup (pa_cons pe_str (pa_cons pe_int pa_nil))) (pa_cons (pe_tup (pa_cons pe_str (pa_cons pe_int (pa_cons pe_int pa_nil)))) (pa_cons (pe_tup (pa_cons pe_str (pa_cons pe_int pa_nil))) (pa_cons (pe_tup (pa_cons pe_str (pa_cons pe_int (pa_cons pe_int pa_nil)))) (pa_cons (pe_tup (pa_cons pe_str (pa_cons pe_str (pa_cons (pe_tup pa_nil) pa_nil)))) pa_nil)))))))))
      (pss_cut (ps_set (i := 2) nd rfl (.inl rfl) (pe_op op_cat (pv 2) (pe_lst (pa_cons (pe_tup (pa_cons pe_str (pa_cons pe_str (pa_cons (pe_tup (pa_cons pe_int (pa_cons pe_int (pa_cons pe_int (pa_cons pe_int (pa_cons pe_int pa_nil)))))) pa_nil)))) (pa_cons (pe_tup (pa_cons pe_str (pa_cons (pe_tup (pa_cons pe_str (pa_cons pe_str pa_nil))) (pa_cons (pe_tup (pa_cons (pv 0) pa_nil)) pa_nil)))) (pa_cons (pe_tup (pa_cons pe_str (pa_cons (pe_tup (pa_cons pe_str pa_nil)) (pa_cons (pe_tup (pa_cons (pv 0) pa_nil)) pa_nil)))) pa_nil))))))
      (pss_cut (ps_set (i := 2) nd rfl (.inl rfl) (pe_op op_cat (pv 2) (pe_lst (pa_cons (pe_tup (pa_cons pe_str (pa_cons pe_int (pa_cons (pe_lst (pa_cons pe_int pa_nil)) pa_nil)))) (pa_cons (pe_tup (pa_cons pe_str (pa_cons (pe_tup pa_nil) (pa_cons (pe_tup pa_nil) pa_nil)))) pa_nil)))))
      (pss_cut (ps_set (i := 2) nd rfl (.inl rfl) (pe_op op_cat (pv 2) (pe_lst (pa_cons (pe_tup (pa_cons pe_str (pa_cons (pe_tup (pa_cons pe_str (pa_cons pe_str (pa_cons pe_str (pa_cons pe_str (pa_cons pe_str pa_nil)))))) (pa_cons (pe_tup (pa_cons (pv 0) pa_nil)) pa_nil)))) (pa_cons (pe_tup (pa_cons pe_str (pa_cons (pe_tup (pa_cons pe_str pa_nil)) (pa_cons (pe_tup (pa_cons (pe_tup (pa_cons pe_str (pa_cons pe_str pa_nil))) pa_nil)) pa_nil)))) pa_nil)))))
      (pss_cut (ps_expr (pe_bm PySem.F.plainAttrs_list PySem.F.slot_list_append PySem.F.type_list_append mt_append (pv 2) (pa_cons (pe_tup (pa_cons pe_str (pa_cons (pe_tup pa_nil) (pa_cons (pe_tup (pa_cons (pe_tup (pa_cons pe_str (pa_cons pe_int pa_nil))) pa_nil)) pa_nil)))) pa_nil)))
      (pss_cut (ps_set (i := 2) nd rfl (.inl rfl) (pe_op op_cat (pv 2) (pe_lst (pa_cons pe_non (pa_cons pe_str (pa_cons (pe_lst (pa_cons pe_str (pa_cons pe_int pa_nil))) (pa_cons (pe_tup (pa_cons pe_str (pa_cons (pe_lst (pa_cons pe_str pa_nil)) (pa_cons (pe_tup (pa_cons (pv 0) pa_nil)) pa_nil)))) (pa_cons (pe_tup (pa_cons pe_str (pa_cons pe_int pa_nil))) pa_nil))))))))
      (pss_cut (ps_set (i := 1) nd rfl (.inl rfl) (pe_op op_cat (pe_op op_cat (pv 1) (pe_lc (own := [("right", 3)]) (g := gName 3) (tt := tYes) (te := tTup (tCons (tC (.str "let")) (tCons (tC (.str "a9")) (tCons (tVar 3) tNil)))) rfl nd (pi_list (pv 2)) (blkOk_by (N := ["give", "some", "rights", "right", "name"]) (sc := defScope s_law_wrongs) (by decide +kernel)) (fun _ _ _ _ _ => pg_name (i := 3) nd rfl (.inl rfl)) (fun _ _ _ _ _ => pts_nil) (fun _ _ _ _ _ => pe_tup (pa_cons pe_str (pa_cons pe_str (pa_cons (pv 3) pa_nil)))))) (pe_lst (pa_cons (pe_tup (pa_cons pe_str (pa_cons pe_int pa_nil))) pa_nil))))
      (pss_cut (ps_set (i := 1) nd rfl (.inl rfl) (pe_op op_cat (pv 1) (pe_lc (own := [("name", 4)]) (g := gName 4) (tt := tYes) (te := tTup (tCons (tC (.str "let")) (tCons (tVar 4) (tCons (tTup (tCons (tC (.str "atom")) (tCons (tC (.int 1)) tNil))) tNil)))) rfl nd (pi_tup (pe_tup (pa_cons pe_str (pa_cons pe_str (pa_cons pe_str (pa_cons pe_str (pa_cons pe_str (pa_cons pe_str (pa_cons pe_str (pa_cons pe_non (pa_cons pe_int pa_nil))))))))))) (blkOk_by (N := ["give", "some", "rights", "right", "name"]) (sc := defScope s_law_wrongs) (by decide +kernel)) (fun _ _ _ _ _ => pg_name (i := 4) nd rfl (.inl rfl)) (fun _ _ _ _ _ => pts_nil) (fun _ _ _ _ _ => pe_tup (pa_cons pe_str (pa_cons (pv 4) (pa_cons (pe_tup (pa_cons pe_str (pa_cons pe_int pa_nil))) pa_nil)))))))
      (pss_one (ps_ret (pe_op op_cat (pv 1) (pe_lst (pa_cons (pe_tup (pa_cons pe_str (pa_cons pe_str (pa_cons (pe_tup (pa_cons pe_str (pa_cons pe_str pa_nil))) pa_nil)))) (pa_cons (pv 0) (pa_cons (pe_tup (pa_cons pe_str (pa_cons pe_int (pa_cons (pe_tup (pa_cons (pv 0) pa_nil)) (pa_cons (pe_tup (pa_cons (pv 0) pa_nil)) pa_nil))))) (pa_cons (pe_tup (pa_cons pe_str (pa_cons pe_str (pa_cons (pe_tup (pa_cons pe_int pa_nil)) pa_nil)))) pa_nil)))))))))))))))), ?_⟩
    -- give, some
    refine ⟨fun σ' H' => ∃ (g : V) (s : Addr), σ' = [some g, some (.ref s), none, none, none] ∧ Ex H H' ∧ Dp K H' g giveD ∧ LsD K H' s some0D, ?_, ?_⟩
    · refine evd_par (show EvD K _ _ H giveD from (evd_tup (evds_cons (evd_ev ev_c (.str _)) (evds_cons (evd_ev ev_c (.int _)) evds_nil)) (by simp))) fun g H1 e1 hg => ?_
      refine (show EvLf K _ _ H1 some0D from evl_lst (evds_cons (evd_ev ev_c .non) (evds_cons (evd_tup evds_nil (by simp)) (evds_cons (evd_tup (evds_cons (evd_ev ev_c (.str _)) (evds_cons (evd_ev ev_c (.str _)) evds_nil)) (by simp)) (evds_cons (evd_lst (evds_cons (evd_ev ev_c (.str _)) (evds_cons (evd_ev ev_c (.int _)) evds_nil)) (by simp)) (evds_cons (evd_tup (evds_cons (evd_ev ev_c (.str _)) (evds_cons (evd_ev ev_c (.str _)) evds_nil)) (by simp)) (evds_cons (evd_tup (evds_cons (evd_ev ev_c (.str _)) (evds_cons (evd_ev ev_c (.bl _)) evds_nil)) (by simp)) (evds_cons (evd_tup (evds_cons (evd_ev ev_c (.str _)) (evds_cons evd_neg evds_nil)) (by simp)) evds_nil))))))) (by decide)) H1 (Ex.refl _) _ fun s H2 _ e2 hs => ?_
      exact ⟨_, _, rfl, g, s, rfl, e1.trans e2, dp_ex e2 hg, hs⟩
    rintro _ H1 ⟨g, s, rfl, e1, hg, hs⟩
    refine ⟨fun σ' H' => ∃ (g : V) (s r : Addr) (y3 y4 : Option V) (Hs : Hp), σ' = [some g, some (.ref s), some (.ref r), y3, y4] ∧ Ex H Hs ∧ Dp K Hs g giveD ∧ LsD K Hs s some0D ∧ Hs r = none ∧ Ex Hs H' ∧ LsD K H' r (rt0D), ?_, ?_⟩
    · dsimp only [tAsg]
      refine (show EvLf K _ _ H1 rt0D from evl_lst (evds_cons (evd_tup (evds_cons (evd_ev ev_c (.str _)) (evds_cons (evd_ev ev_c (.str _)) evds_nil)) (by simp)) (evds_cons (evd_tup (evds_cons (evd_ev ev_c (.str _)) evds_nil) (by simp)) (evds_cons (evd_tup (evds_cons (evd_ev ev_c (.str _)) (evds_cons (evd_ev ev_c (.int _)) evds_nil)) (by simp)) (evds_cons (evd_tup (evds_cons (evd_ev ev_c (.str _)) (evds_cons (evd_ev ev_c (.int _)) (evds_cons (evd_ev ev_c (.int _)) evds_nil))) (by simp)) (evds_cons (evd_tup (evds_cons (evd_ev ev_c (.str _)) (evds_cons (evd_ev ev_c (.int _)) evds_nil)) (by simp)) (evds_cons (evd_tup (evds_cons (evd_ev ev_c (.str _)) (evds_cons (evd_ev ev_c (.int _)) (evds_cons (evd_ev ev_c (.int _)) evds_nil))) (by simp)) (evds_cons (evd_tup (evds_cons (evd_ev ev_c (.str _)) (evds_cons (evd_ev ev_c (.str _)) (evds_cons (evd_tup evds_nil (by simp)) evds_nil))) (by simp)) evds_nil))))))) (by decide)) H1 (Ex.refl _) _ fun r H2 nr e2 hr2 => ?_
      exact ⟨g, s, r, _, _, H1, rfl, e1, hg, hs, nr, e2, hr2⟩
    rintro _ H2 ⟨g, s, r, y3, y4, Hs, rfl, eHs, hg, hs, nr, e2, hr2⟩
    refine ⟨fun σ' H' => ∃ (g : V) (s r : Addr) (y3 y4 : Option V) (Hs : Hp), σ' = [some g, some (.ref s), some (.ref r), y3, y4] ∧ Ex H Hs ∧ Dp K Hs g giveD ∧ LsD K Hs s some0D ∧ Hs r = none ∧ Ex Hs H' ∧ LsD K H' r ((rt0D) ++ rt1D), ?_, ?_⟩
    · dsimp only [tAsg]
      have hg2 := dp_ex e2 hg
      have ev : EvDs K _ [some g, some (.ref s), some (.ref r), y3, y4] H2 rt1D := (evds_cons (evd_tup (evds_cons (evd_ev ev_c (.str _)) (evds_cons (evd_ev ev_c (.str _)) (evds_cons (evd_tup (evds_cons (evd_ev ev_c (.int _)) (evds_cons (evd_ev ev_c (.int _)) (evds_cons (evd_ev ev_c (.int _)) (evds_cons (evd_ev ev_c (.int _)) (evds_cons (evd_ev ev_c (.int _)) evds_nil))))) (by simp)) evds_nil))) (by simp)) (evds_cons (evd_tup (evds_cons (evd_ev ev_c (.str _)) (evds_cons (evd_tup (evds_cons (evd_ev ev_c (.str _)) (evds_cons (evd_ev ev_c (.str _)) evds_nil)) (by simp)) (evds_cons (evd_tup (evds_cons (evd_var (i := 0) rfl hg2) evds_nil) (by simp)) evds_nil))) (by simp)) (evds_cons (evd_tup (evds_cons (evd_ev ev_c (.str _)) (evds_cons (evd_tup (evds_cons (evd_ev ev_c (.str _)) evds_nil) (by simp)) (evds_cons (evd_tup (evds_cons (evd_var (i := 0) rfl hg2) evds_nil) (by simp)) evds_nil))) (by simp)) evds_nil)))
      refine (evl_cat (evl_var (i := 2) rfl hr2) (evl_lst ev (by decide)).e (by decide)) H2 (Ex.refl _) _ fun r' H3 nr' e3 hr3 => ?_
      exact ⟨g, s, r', _, _, Hs, rfl, eHs, hg, hs, fresh_back e2 nr', e2.trans e3, hr3⟩
    rintro _ H2 ⟨g, s, r, y3, y4, Hs, rfl, eHs, hg, hs, nr, e2, hr2⟩
    refine ⟨fun σ' H' => ∃ (g : V) (s r : Addr) (y3 y4 : Option V) (Hs : Hp), σ' = [some g, some (.ref s), some (.ref r), y3, y4] ∧ Ex H Hs ∧ Dp K Hs g giveD ∧ LsD K Hs s some0D ∧ Hs r = none ∧ Ex Hs H' ∧ LsD K H' r (((rt0D) ++ rt1D) ++ rt2D), ?_, ?_⟩
    · dsimp only [tAsg]
      have hg2 := dp_ex e2 hg
      have ev : EvDs K _ [some g, some (.ref s), some (.ref r), y3, y4] H2 rt2D := (evds_cons (evd_tup (evds_cons (evd_ev ev_c (.str _)) (evds_cons (evd_ev ev_c (.int _)) (evds_cons (evd_lst (evds_cons (evd_ev ev_c (.int _)) evds_nil) (by simp)) evds_nil))) (by simp)) (evds_cons (evd_tup (evds_cons (evd_ev ev_c (.str _)) (evds_cons (evd_tup evds_nil (by simp)) (evds_cons (evd_tup evds_nil (by simp)) evds_nil))) (by simp)) evds_nil))
      refine (evl_cat (evl_var (i := 2) rfl hr2) (evl_lst ev (by decide)).e (by decide)) H2 (Ex.refl _) _ fun r' H3 nr' e3 hr3 => ?_
      exact ⟨g, s, r', _, _, Hs, rfl, eHs, hg, hs, fresh_back e2 nr', e2.trans e3, hr3⟩
    rintro _ H2 ⟨g, s, r, y3, y4, Hs, rfl, eHs, hg, hs, nr, e2, hr2⟩
    refine ⟨fun σ' H' => ∃ (g : V) (s r : Addr) (y3 y4 : Option V) (Hs : Hp), σ' = [some g, some (.ref s), some (.ref r), y3, y4] ∧ Ex H Hs ∧ Dp K Hs g giveD ∧ LsD K Hs s some0D ∧ Hs r = none ∧ Ex Hs H' ∧ LsD K H' r ((((rt0D) ++ rt1D) ++ rt2D) ++ rt3D), ?_, ?_⟩
    · dsimp only [tAsg]
      have hg2 := dp_ex e2 hg
      have ev : EvDs K _ [some g, some (.ref s), some (.ref r), y3, y4] H2 rt3D := (evds_cons (evd_tup (evds_cons (evd_ev ev_c (.str _)) (evds_cons (evd_tup (evds_cons (evd_ev ev_c (.str _)) (evds_cons (evd_ev ev_c (.str _)) (evds_cons (evd_ev ev_c (.str _)) (evds_cons (evd_ev ev_c (.str _)) (evds_cons (evd_ev ev_c (.str _)) evds_nil))))) (by simp)) (evds_cons (evd_tup (evds_cons (evd_var (i := 0) rfl hg2) evds_nil) (by simp)) evds_nil))) (by simp)) (evds_cons (evd_tup (evds_cons (evd_ev ev_c (.str _)) (evds_cons (evd_tup (evds_cons (evd_ev ev_c (.str _)) evds_nil) (by simp)) (evds_cons (evd_tup (evds_cons (evd_tup (evds_cons (evd_ev ev_c (.str _)) (evds_cons (evd_ev ev_c (.str _)) evds_nil)) (by simp)) evds_nil) (by simp)) evds_nil))) (by simp)) evds_nil))
      refine (evl_cat (evl_var (i := 2) rfl hr2) (evl_lst ev (by decide)).e (by decide)) H2 (Ex.refl _) _ fun r' H3 nr' e3 hr3 => ?_
      exact ⟨g, s, r', _, _, Hs, rfl, eHs, hg, hs, fresh_back e2 nr', e2.trans e3, hr3⟩
    rintro _ H2 ⟨g, s, r, y3, y4, Hs, rfl, eHs, hg, hs, nr, e2, hr2⟩
    refine ⟨fun σ' H' => ∃ (g : V) (s r : Addr) (y3 y4 : Option V) (Hs : Hp), σ' = [some g, some (.ref s), some (.ref r), y3, y4] ∧ Ex H Hs ∧ Dp K Hs g giveD ∧ LsD K Hs s some0D ∧ Hs r = none ∧ Ex Hs H' ∧ LsD K H' r (((((rt0D) ++ rt1D) ++ rt2D) ++ rt3D) ++ [rtAD]), ?_, ?_⟩
    · obtain ⟨vs, hvs, dvs⟩ := hr2.ex
      refine ⟨_, rfl, .inl ⟨rfl, _, sq_of hvs⟩, ?_⟩
      dsimp only [tCons, tNil]
      refine (show EvB K _ _ (fun _ => none) rtAD from (evb_tup (evbs_cons (evb_c (.str _)) (evbs_cons (evb_tup evbs_nil (by simp)) (evbs_cons (evb_tup (evbs_cons (evb_tup (evbs_cons (evb_c (.str _)) (evbs_cons (evb_c (.int _)) evbs_nil)) (by simp)) evbs_nil) (by simp)) evbs_nil))) (by simp))) H2 r (by rw [hvs]; exact fun z => nomatch z) (fun a o z => nomatch z) _ fun v H3 e3 hv => ?_
      have hvs3 := e3 _ _ hvs
      refine ⟨r, _, _, rfl, rfl, hvs3, ?_, g, s, r, _, _, Hs, rfl, eHs, hg, hs, nr, ?_, _, upd_same, ?_⟩
      · rw [dpa_len dvs]; decide
      · exact fun a o ha => by rw [upd_ne (ne_of_none ha nr)]; exact e3 _ _ (e2 _ _ ha)
      · have eh : hid [r] (L2.upd H3 r (.lst (vs ++ [v]))) = hid [r] H3 := by
          funext b
          unfold hid
          by_cases hb : b ∈ ([r] : List Addr)
          · rw [if_pos hb, if_pos hb]
          · rw [if_neg hb, if_neg hb, upd_ne (by simpa using hb)]
        rw [eh]
        exact dpa_app (dpa_ex (hid_kp e3) dvs) (dpa_one hv)
    rintro _ H2 ⟨g, s, r, y3, y4, Hs, rfl, eHs, hg, hs, nr, e2, hr2⟩
    refine ⟨fun σ' H' => ∃ (g : V) (s r : Addr) (y3 y4 : Option V) (Hs : Hp), σ' = [some g, some (.ref s), some (.ref r), y3, y4] ∧ Ex H Hs ∧ Dp K Hs g giveD ∧ LsD K Hs s some0D ∧ Hs r = none ∧ Ex Hs H' ∧ LsD K H' r (rightsD), ?_, ?_⟩
    · dsimp only [tAsg]
      have hg2 := dp_ex e2 hg
      have ev : EvDs K _ [some g, some (.ref s), some (.ref r), y3, y4] H2 rt5D := (evds_cons (evd_ev ev_c .non) (evds_cons (evd_ev ev_c (.str _)) (evds_cons (evd_lst (evds_cons (evd_ev ev_c (.str _)) (evds_cons (evd_ev ev_c (.int _)) evds_nil)) (by simp)) (evds_cons (evd_tup (evds_cons (evd_ev ev_c (.str _)) (evds_cons (evd_lst (evds_cons (evd_ev ev_c (.str _)) evds_nil) (by simp)) (evds_cons (evd_tup (evds_cons (evd_var (i := 0) rfl hg2) evds_nil) (by simp)) evds_nil))) (by simp)) (evds_cons (evd_tup (evds_cons (evd_ev ev_c (.str _)) (evds_cons (evd_ev ev_c (.int _)) evds_nil)) (by simp)) evds_nil)))))
      refine (evl_cat (evl_var (i := 2) rfl hr2) (evl_lst ev (by decide)).e (by decide)) H2 (Ex.refl _) _ fun r' H3 nr' e3 hr3 => ?_
      exact ⟨g, s, r', _, _, Hs, rfl, eHs, hg, hs, fresh_back e2 nr', e2.trans e3, hr3⟩
    rintro _ H2 ⟨g, s, r, y3, y4, Hs, rfl, eHs, hg, hs, nr, e2, hr2⟩
    refine ⟨fun σ' H' => ∃ (s : Addr) (y4 : Option V), σ' = [some g, some (.ref s), some (.ref r), y3, y4] ∧ Ex H2 H' ∧ LsD K H' s ((some0D ++ rightsD.map letA) ++ s7D), ?_, ?_⟩
    · dsimp only [tAsg]
      have lc : EvLf K _ [some g, some (.ref s), some (.ref r), y3, y4] H2 (rightsD.map letA) := evl_lcL (i := 3) (n := 2) (g := letA) rfl hr2 (by decide) fun H1 x d hx => evb_tup (evbs_cons (evb_c (.str _)) (evbs_cons (evb_c (.str _)) (evbs_cons (evb_var (i := 3) rfl hx) evbs_nil))) (by simp)
      have ev : EvDs K _ [some g, some (.ref s), some (.ref r), y3, y4] H2 s7D := (evds_cons (evd_tup (evds_cons (evd_ev ev_c (.str _)) (evds_cons (evd_ev ev_c (.int _)) evds_nil)) (by simp)) evds_nil)
      refine (evl_cat (evl_cat (evl_var (i := 1) rfl (hs.mono e2)) lc.e (by decide)).e (evl_lst ev (by decide)).e (by decide)) H2 (Ex.refl _) _ fun s' H3 _ e3 hs3 => ?_
      exact ⟨s', _, rfl, e3, hs3⟩
    rintro _ H3 ⟨s, y4, rfl, e3, hs3⟩
    have hg3 := dp_ex (e2.trans e3) hg
    refine ⟨fun σ' H' => ∃ (s : Addr) (y4 : Option V), σ' = [some g, some (.ref s), some (.ref r), y3, y4] ∧ Ex H3 H' ∧ LsD K H' s (((some0D ++ rightsD.map letA) ++ s7D) ++ namD.map letN), ?_, ?_⟩
    · dsimp only [tAsg]
      have evn : EvDs K _ [some g, some (.ref s), some (.ref r), y3, y4] H3 namD := (evds_cons (evd_ev ev_c (.str _)) (evds_cons (evd_ev ev_c (.str _)) (evds_cons (evd_ev ev_c (.str _)) (evds_cons (evd_ev ev_c (.str _)) (evds_cons (evd_ev ev_c (.str _)) (evds_cons (evd_ev ev_c (.str _)) (evds_cons (evd_ev ev_c (.str _)) (evds_cons (evd_ev ev_c .non) (evds_cons (evd_ev ev_c (.int _)) evds_nil)))))))))
      have lc : EvLf K _ [some g, some (.ref s), some (.ref r), y3, y4] H3 (namD.map letN) := evl_lcT (i := 4) (g := letN) evn (by decide) fun H1 x d hx => evb_tup (evbs_cons (evb_c (.str _)) (evbs_cons (evb_var (i := 4) rfl hx) (evbs_cons (evb_tup (evbs_cons (evb_c (.str _)) (evbs_cons (evb_c (.int _)) evbs_nil)) (by simp)) evbs_nil))) (by simp)
      refine (evl_cat (evl_var (i := 1) rfl hs3) lc.e (by decide)) H3 (Ex.refl _) _ fun s' H4 _ e4 hs4 => ?_
      exact ⟨s', _, rfl, e4, hs4⟩
    rintro _ H4 ⟨s, y4, rfl, e4, hs4⟩
    have hg4 := dp_ex e4 hg3
    have ev : EvDs K _ [some g, some (.ref s), some (.ref r), y3, y4] H4 lastD := (evds_cons (evd_tup (evds_cons (evd_ev ev_c (.str _)) (evds_cons (evd_ev ev_c (.str _)) (evds_cons (evd_tup (evds_cons (evd_ev ev_c (.str _)) (evds_cons (evd_ev ev_c (.str _)) evds_nil)) (by simp)) evds_nil))) (by simp)) (evds_cons (evd_var (i := 0) rfl hg4) (evds_cons (evd_tup (evds_cons (evd_ev ev_c (.str _)) (evds_cons (evd_ev ev_c (.int _)) (evds_cons (evd_tup (evds_cons (evd_var (i := 0) rfl hg4) evds_nil) (by simp)) (evds_cons (evd_tup (evds_cons (evd_var (i := 0) rfl hg4) evds_nil) (by simp)) evds_nil)))) (by simp)) (evds_cons (evd_tup (evds_cons (evd_ev ev_c (.str _)) (evds_cons (evd_ev ev_c (.str _)) (evds_cons (evd_tup (evds_cons (evd_ev ev_c (.int _)) evds_nil) (by simp)) evds_nil))) (by simp)) evds_nil))))
    dsimp only [tRet]
    refine (evl_cat (evl_var (i := 1) rfl hs4) (evl_lst ev (by decide)).e (by decide)) H4 (Ex.refl _) _ fun s' H5 _ e5 hs5 => ?_
    exact k s' H5 ((eHs.trans e2).trans (e3.trans (e4.trans e5))) hs5
end
end K4

set_option maxHeartbeats 4000000
namespace DL
open PySem L2 Evl PySem.Spec PyProof.Rows PJ
section
variable {K : PySem.W.Frag} {σ : L2.St} {H : Hp} {te tj : TE} {ds : List PyData} {i : Nat} {xs : List V} {a : Addr} {ts : TE} {tt : TT} {Q : VK}
/-! ### slices of tuples of data -/
theorem cutV_take (xs : List V) (n : Nat) : cutV xs none (some (n : Int)) = xs.take n := by
  unfold cutV
  rw [HT.sIx_nat]
  show (xs.drop 0).take (min n xs.length - 0) = _
  rw [List.drop_zero, Nat.sub_zero]
  rcases Nat.le_total n xs.length with h | h
  · rw [Nat.min_eq_left h]
  · rw [Nat.min_eq_right h, List.take_length, List.take_of_length_le h]
theorem cutV_drop (xs : List V) (n : Nat) : cutV xs (some (n : Int)) none = xs.drop n := by
  unfold cutV
  rw [HT.sIx_nat]
  show (xs.drop (min n xs.length)).take (xs.length - min n xs.length) = _
  rcases Nat.le_total n xs.length with h | h
  · rw [Nat.min_eq_left h, List.take_of_length_le (by simp)]
  · rw [Nat.min_eq_right h, List.drop_length, List.drop_of_length_le h, List.take_nil]
theorem evd_slT {n : Nat} (h : EvD K te σ H (.tuple ds)) (hj : ∀ H1, Ex H H1 → Ev tj σ H1 (.int (n : Int))) : EvD K (tSl (rSlA K) te tNoPart (tPart tj)) σ H (.tuple (ds.take n)) := fun H1 e Q q =>
  h H1 e _ fun v H2 e2 hv => hj H2 (e.trans e2) H2 (Ex.refl _) _ fun H3 e3 => ⟨_, rfl, by
    obtain ⟨b, xs, rfl, hS, hxs⟩ := dp_tup (dp_ex e3 hv)
    refine ⟨b, xs, rfl, hS, fun z => ?_, fun _ p hp => ?_⟩
    · have e1 : HT.sIx xs.length xs.length (some (n : Int)) = xs.length := z.2
      rw [HT.sIx_nat] at e1
      have hl := dpa_len hxs
      exact q _ H3 (e2.trans e3) (by rw [List.take_of_length_le (show ds.length ≤ n by omega)]; exact .tup hS hxs)
    · rw [cutV_take]
      exact q _ _ ((e2.trans e3).trans (Ex.new hp)) (.tup (st_of upd_same) (dpa_ex (Ex.new hp) (dpa_take n hxs)))⟩
theorem evd_slD {n : Nat} (h : EvD K te σ H (.tuple ds)) (hj : ∀ H1, Ex H H1 → Ev tj σ H1 (.int (n : Int))) : EvD K (tSl (rSlA K) te (tPart tj) tNoPart) σ H (.tuple (ds.drop n)) := fun H1 e Q q =>
  h H1 e _ fun v H2 e2 hv => hj H2 (e.trans e2) H2 (Ex.refl _) _ fun H3 e3 => ⟨_, rfl, by
    obtain ⟨b, xs, rfl, hS, hxs⟩ := dp_tup (dp_ex e3 hv)
    refine ⟨b, xs, rfl, hS, fun z => ?_, fun _ p hp => ?_⟩
    · have e1 : HT.sIx xs.length 0 (some (n : Int)) = 0 := z.1
      rw [HT.sIx_nat] at e1
      have hl := dpa_len hxs
      have hn : ds.drop n = ds := by
        rcases Nat.eq_zero_or_pos n with h | h
        · rw [h, List.drop_zero]
        · have : ds = [] := List.length_eq_zero_iff.mp (by omega)
          rw [this, List.drop_nil]
      exact q _ H3 (e2.trans e3) (by rw [hn]; exact .tup hS hxs)
    · rw [cutV_drop]
      exact q _ _ ((e2.trans e3).trans (Ex.new hp)) (.tup (st_of upd_same) (dpa_ex (Ex.new hp) (dpa_drop n hxs)))⟩
theorem evd_catA {ta tb : TE} {es : List PyData} (ha : EvD K ta σ H (.tuple ds)) (hb : EvD K tb σ H (.tuple es)) (hl : ds.length + es.length ≤ 100000) : EvD K (tOp (rCatA K) ta tb) σ H (.tuple (ds ++ es)) := fun H1 e Q q =>
  ha H1 e _ fun v H2 e2 hv => hb H2 (e.trans e2) _ fun u H3 e3 hu => by
    obtain ⟨a, xs, rfl, sa, da⟩ := dp_tup (dp_ex e3 hv)
    obtain ⟨b, ys, rfl, sb, db⟩ := dp_tup hu
    have lx := dpa_len da
    have ly := dpa_len db
    refine ⟨a, b, xs, ys, rfl, rfl, sa, sb, sz_of (by rw [lx, ly]; exact hl), fun hx => ?_, fun _ hy => ?_, fun _ _ p hp => ?_⟩
    · rw [hx] at lx
      exact q _ _ (e2.trans e3) (by rw [List.length_eq_zero_iff.mp lx.symm, List.nil_append]; exact .tup sb db)
    · rw [hy] at ly
      exact q _ _ (e2.trans e3) (by rw [List.length_eq_zero_iff.mp ly.symm, List.append_nil]; exact .tup sa da)
    · exact q _ _ ((e2.trans e3).trans (Ex.new hp)) (.tup (st_of upd_same) (dpa_ex (Ex.new hp) (dpa_app da db)))
/-- list(t) -/
theorem evl_listOf (h : EvD K te σ H (.tuple ds)) : EvLf K (tCB (fun xs H Q => ∃ p ys, xs = [.ref p] ∧ (SqL K H p ys ∨ SqT K H p ys) ∧ ∀ l, H l = none → Q (.ref l) (L2.upd H l (.lst ys))) (tCons te tNil)) σ H ds := fun H1 e Q q =>
  h H1 e _ fun v H2 e2 hv => by
    obtain ⟨a, xs, rfl, hS, hxs⟩ := dp_tup hv
    exact ⟨a, xs, rfl, .inr hS, fun l hl => q l _ (fresh_back e2 hl) (e2.trans (Ex.new hl)) ⟨xs, upd_same, dpa_ex (hid_new hl) hxs⟩⟩
/-- [x for x in t if ..] -/
theorem lc_tupF {pr : PyData → Bool} (hs : Ev ts σ H (.ref a)) (hi : i < σ.length) (hS : SqT K H a xs) (hd : DpAll K H xs ds) (hl : xs.length ≤ 1000000)
    (step : ∀ (j : Nat) x d H', ds[j]? = some d → Dp K H x d → Ex H H' → ∀ Q' : Bool → Hp → Prop, Q' (pr d) H' → tt ((wipe σ [i]).set i (some x)) H' Q')
    (k : ∀ p vs H', H p = none → Ex H H' → H' p = some (.lst vs) → DpAll K H vs (ds.filter pr) → Q (.ref p) H') : tLc (iTup K ts) (gName i) tt (tVar i) [i] σ H Q := by
  refine hs H (Ex.refl H) _ fun H1 e1 => ⟨a, rfl, ⟨xs, ex_t e1 hS⟩, fun D nD => ?_⟩
  have nDH : H D = none := fresh_back e1 nD
  have big : (1000000 : Nat) < sizeLine := by decide
  have lx := dpa_len hd
  refine lc_tup (K := K) (a := a) (xs := xs) (fun j H' => Ex H H' ∧ ∃ vs, H' D = some (.lst vs) ∧ DpAll K H vs ((ds.take j).filter pr)) ⟨e1.trans (Ex.new nD), [], upd_same, .nil⟩ (fun j H' _ z => ex_t z.1 hS) ?_ ?_
  · rintro j x H' hx ⟨e, vs, hD, hvs⟩
    have hjl := (List.getElem?_eq_some_iff.mp hx).1
    obtain ⟨d, hdm, hxd⟩ := dpa_getV hd hx
    have et : ds.take (j + 1) = ds.take j ++ [d] := List.take_succ_eq_append_getElem (by omega) |>.trans (by rw [(List.getElem?_eq_some_iff.mp hdm).2])
    refine ⟨wipe1_set σ i _, step j x d H' hdm hxd e _ ?_⟩
    cases hp : pr d with
    | true =>
      rw [if_pos rfl]
      refine ⟨x, by rw [List.getElem?_set_self (by rw [wipe_length]; exact hi)], vs, hD, ?_, fun b o hb => ?_, vs ++ [x], upd_same, ?_⟩
      · have := dpa_len hvs
        have := List.length_filter_le pr (ds.take j)
        rw [List.length_take] at this
        omega
      · rw [upd_ne (ne_of_none hb nDH)]
        exact e b o hb
      · rw [et, List.filter_append]
        have : [d].filter pr = [d] := by simp [hp]
        rw [this]
        exact dpa_app hvs (dpa_one hxd)
    | false =>
      rw [if_neg (by decide)]
      refine ⟨e, vs, hD, ?_⟩
      rw [et, List.filter_append]
      have : [d].filter pr = [] := by simp [hp]
      rw [this, List.append_nil]
      exact hvs
  · rintro H' ⟨e, vs, hD, hvs⟩
    rw [lx, List.take_length] at hvs
    exact k D vs H' nDH e hD hvs
end
end DL

set_option maxHeartbeats 4000000
namespace K4
open PySem L2 Evl DL PJ PG TL
section
variable {P : Program} {w : World} {K : PySem.W.Frag} {mg : Str → Option Value} {base : Heap}
/-! ### programs with heads otherwise -/
def endD : PyData := (.tuple [(.tuple [(.str "give"), (.int 0)])])
def hd0 (P R : List PyData) : List PyData := [.none, (.tuple []), (.list P), (.tuple (P ++ (P.take 1))), (.tuple (P ++ [(.tuple [(.str "if"), (.tuple []), endD])])), (.tuple ((P.take 1) ++ [.none]))]
def hd1 (P R : List PyData) : List PyData := [(.tuple R), (.tuple (R ++ [(.tuple [(.str "main"), (.tuple [(.str "x"), (.str "x")]), (.tuple [(.tuple [(.str "give"), (.int 0)])])])])), (.tuple (R ++ [(.tuple [(.str "main"), (.tuple [(.str "g")]), (.tuple [(.tuple [(.str "give"), (.int 0)])])])]))]
def hd2 (P R : List PyData) : List PyData := [(.tuple (R ++ [(.tuple [(.str "main"), (.tuple []), (.tuple [])])])), (.tuple (R ++ [(.tuple [(.str "main"), (.tuple []), (.tuple [(.tuple [(.str "say"), (.int 1)])])])])), (.tuple (R ++ [(.tuple [(.str "main"), (.list [(.str "x")]), endD])]))]
def hd3 (P R : List PyData) : List PyData := [(.tuple (R ++ [(.tuple [(.str "main"), (.tuple [(.str "x1"), (.str "x2"), (.str "x3"), (.str "x4"), (.str "x5")]), endD])])), (.tuple (R ++ [(.tuple [(.str "main"), (.tuple []), (.list [(.tuple [(.str "give"), (.int 0)])])])]))]
def noMain (tops : List Top) : List Top := tops.filter fun t => decide (t.1 ≠ "main")
def headsD (tops : List Top) : List PyData := ((hd0 (tops.map tEnc) ((noMain tops).map tEnc) ++ hd1 (tops.map tEnc) ((noMain tops).map tEnc)) ++ hd2 (tops.map tEnc) ((noMain tops).map tEnc)) ++ hd3 (tops.map tEnc) ((noMain tops).map tEnc)
def spHd (K : PySem.W.Frag) : Sp := fun vs H Q _ => ∃ (v : V) (tops : List Top), vs = [v] ∧ Dp K H v (.tuple (tops.map tEnc)) ∧ tops.length ≤ 8 ∧ tops ≠ [] ∧ noMain tops ≠ [] ∧ ∀ p H', Ex H H' → LsD K H' p (headsD tops) → Q (.ref p) H'
theorem bd_hd : BindP "_law_heads" s_law_heads ["program"] := fun _ _ _ _ _ _ us hl => match us, hl with | [_], _ => rfl
theorem ok_hd (T : Txt K mg) : DefOk P w K mg base CX0 false 1 "_law_heads" s_law_heads ["program"] (spHd K) := by
  refine T.d_law_heads.ok scs_law_heads (fun vs H Q E h => ?_) (fun f cdv A outer s0 H vs Q E hr h => ?_)
  · obtain ⟨v, tops, rfl, _⟩ := h
    rfl
  · obtain ⟨v, tops, rfl, hd, hl, hne, hnr, k⟩ := h
    have nd := scs_law_heads.nd
    refine ⟨_, pss_cut (ps_set (i := 1) nd rfl (.inl rfl) (pe_tup (pa_cons (pe_tup (pa_cons pe_str (pa_cons pe_int pa_nil))) pa_nil)))
      (pss_cut (ps_set (i := 2) nd rfl (.inl rfl) (pe_lst (pa_cons pe_non (pa_cons (pe_tup pa_nil) (pa_cons (pe_callTy call_list_of (by rfl) T.b_list (by decide +kernel) (pa_cons (pv 0) pa_nil)) (pa_cons (pe_op op_catA (pv 0) (pe_slice sl_tupA (pv 0) po_none (po_some pe_int))) (pa_cons (pe_op op_catA (pv 0) (pe_tup (pa_cons (pe_tup (pa_cons pe_str (pa_cons (pe_tup pa_nil) (pa_cons (pv 1) pa_nil)))) pa_nil))) (pa_cons (pe_op op_catA (pe_slice sl_tupA (pv 0) po_none (po_some pe_int)) (pe_tup (pa_cons pe_non pa_nil))) pa_nil))))))))
      (pss_cut (ps_set (i := 3) nd rfl (.inl rfl) (pe_callTy call_tuple_of (by rfl) T.b_tuple (by decide +kernel) (pa_cons (pe_lc (own := [("own", 4)]) (g := gName 4) (tt := tTest (tOp rNe (tOp (rIxT K) (tVar 4) (tC (.int 0))) (tC (.str "main")))) (te := tVar 4) rfl nd (pi_tup (pv 0)) (blkOk_by (N := ["program", "end", "found", "rest", "own"]) (sc := defScope s_law_heads) (by decide +kernel)) (fun _ _ _ _ _ => pg_name (i := 4) nd rfl (.inl rfl))
          (fun _ _ _ _ _ => pts_one (pt_cmpR op_ne (pe_ix ix_tup (pv 4) pe_int (fun _ _ => rfl)) pe_str (nomark _))) (fun _ _ _ _ _ => pv 4)) pa_nil)))
      (pss_cut (ps_set (i := 2) nd rfl (.inl rfl) (pe_op op_cat (pv 2) (pe_lst (pa_cons (pv 3) (pa_cons (pe_op op_catA (pv 3) (pe_tup (pa_cons (pe_tup (pa_cons pe_str (pa_cons (pe_tup (pa_cons pe_str (pa_cons pe_str pa_nil))) (pa_cons (pe_tup (pa_cons (pe_tup (pa_cons pe_str (pa_cons pe_int pa_nil))) pa_nil)) pa_nil)))) pa_nil))) (pa_cons (pe_op op_catA (pv 3) (pe_tup (pa_cons (pe_tup (pa_cons pe_str (pa_cons (pe_tup (pa_cons pe_str pa_nil)) (pa_cons (pe_tup (pa_cons (pe_tup (pa_cons pe_str (pa_cons pe_int pa_nil))) pa_nil)) pa_nil)))) pa_nil))) pa_nil))))))
      (pss_cut (ps_set (i := 2) nd rfl (.inl rfl) (pe_op op_cat (pv 2) (pe_lst (pa_cons (pe_op op_catA (pv 3) (pe_tup (pa_cons (pe_tup (pa_cons pe_str (pa_cons (pe_tup pa_nil) (pa_cons (pe_tup pa_nil) pa_nil)))) pa_nil))) (pa_cons (pe_op op_catA (pv 3) (pe_tup (pa_cons (pe_tup (pa_cons pe_str (pa_cons (pe_tup pa_nil) (pa_cons (pe_tup (pa_cons (pe_tup (pa_cons pe_str (pa_cons pe_int pa_nil))) pa_nil)) pa_nil)))) pa_nil))) (pa_cons (pe_op op_catA (pv 3) (pe_tup (pa_cons (pe_tup (pa_cons pe_str (pa_cons (pe_lst (pa_cons pe_str pa_nil)) (pa_cons (pv 1) pa_nil)))) pa_nil))) pa_nil))))))
      (pss_one (ps_ret (pe_op op_cat (pv 2) (pe_lst (pa_cons (pe_op op_catA (pv 3) (pe_tup (pa_cons (pe_tup (pa_cons pe_str (pa_cons (pe_tup (pa_cons pe_str (pa_cons pe_str (pa_cons pe_str (pa_cons pe_str (pa_cons pe_str pa_nil)))))) (pa_cons (pv 1) pa_nil)))) pa_nil))) (pa_cons (pe_op op_catA (pv 3) (pe_tup (pa_cons (pe_tup (pa_cons pe_str (pa_cons (pe_tup pa_nil) (pa_cons (pe_lst (pa_cons (pe_tup (pa_cons pe_str (pa_cons pe_int pa_nil))) pa_nil)) pa_nil)))) pa_nil))) pa_nil)))))))))), ?_⟩
    have hnP : tops.map tEnc ≠ [] := by simpa using hne
    have hnR : (noMain tops).map tEnc ≠ [] := by simpa using hnr
    have hlR : (noMain tops).length ≤ 8 := Nat.le_trans (List.length_filter_le _ _) hl
    have hn1 : (tops.map tEnc).take 1 ≠ [] := by
      cases tops with
      | nil => exact absurd rfl hne
      | cons t r => exact fun z => nomatch z
    have hlP : (tops.map tEnc).length ≤ 8 := by rw [List.length_map]; exact hl
    have hlR' : ((noMain tops).map tEnc).length ≤ 8 := by rw [List.length_map]; exact hlR
    have hl1 : ((tops.map tEnc).take 1).length ≤ 1 := by rw [List.length_take]; omega
    obtain ⟨a, xs, rfl, hS, hxs⟩ := dp_tup hd
    generalize hP : tops.map tEnc = P at *
    generalize hR : (noMain tops).map tEnc = R at *
    have lx := dpa_len hxs
    -- end
    refine ⟨fun σ' H' => ∃ u, σ' = [some (.ref a), some u, none, none, none] ∧ Ex H H' ∧ Dp K H' u endD, ?_, ?_⟩
    · exact (evd_tup (evds_cons (evd_tup (evds_cons (evd_ev ev_c (.str _)) (evds_cons (evd_ev ev_c (.int _)) evds_nil)) (by simp)) evds_nil) (by simp)) H (Ex.refl H) _ fun u H1 e1 hu => ⟨u, rfl, e1, hu⟩
    rintro _ H1 ⟨u, rfl, e1, hu⟩
    -- found
    refine ⟨fun σ' H' => ∃ l, σ' = [some (.ref a), some u, some (.ref l), none, none] ∧ Ex H1 H' ∧ LsD K H' l (hd0 P R), ?_, ?_⟩
    · dsimp only [tAsg]
      have evP : EvD K (tVar 0) [some (.ref a), some u, none, none, none] H1 (.tuple P) := evd_var rfl (dp_ex e1 hd)
      have evE : EvD K (tVar 1) [some (.ref a), some u, none, none, none] H1 endD := evd_var rfl hu
      have evS : EvD K (tSl (rSlA K) (tVar 0) tNoPart (tPart (tC (.int 1)))) [some (.ref a), some u, none, none, none] H1 (.tuple (P.take 1)) := evd_slT (n := 1) evP fun _ _ => ev_c
      have evL : EvD K (tCB (fun xs H Q => ∃ p ys, xs = [.ref p] ∧ (SqL K H p ys ∨ SqT K H p ys) ∧ ∀ l, H l = none → Q (.ref l) (L2.upd H l (.lst ys))) (tCons (tVar 0) tNil)) [some (.ref a), some u, none, none, none] H1 (.list P) := evd_evl (evl_listOf evP).e
      refine (show EvLf K _ _ H1 (hd0 P R) from evl_lst (evds_cons (evd_ev ev_c .non) (evds_cons (evd_tup evds_nil (by simp)) (evds_cons evL (evds_cons (evd_catA evP evS (by simp; omega)) (evds_cons (evd_catA evP (evd_tup (evds_cons (evd_tup (evds_cons (evd_ev ev_c (.str _)) (evds_cons (evd_tup evds_nil (by simp)) (evds_cons evE evds_nil))) (by simp)) evds_nil) (by simp)) (by simp; omega)) (evds_cons (evd_catA evS (evd_tup (evds_cons (evd_ev ev_c .non) evds_nil) (by simp)) (by simp; omega)) evds_nil)))))) (by simp [hd0])) H1 (Ex.refl _) _ fun l H2 _ e2 hl2 => ?_
      exact ⟨l, rfl, e2, hl2⟩
    rintro _ H2 ⟨l, rfl, e2, hl2⟩
    -- rest
    refine ⟨fun σ' H' => ∃ r, σ' = [some (.ref a), some u, some (.ref l), some r, none] ∧ Ex H2 H' ∧ Dp K H' r (.tuple R), ?_, ?_⟩
    · dsimp only [tAsg, tCB, tCons, tNil]
      refine lc_tupF (K := K) (pr := fun d => match d with | .tuple (.str x :: _) => decide (x ≠ "main") | _ => true) (ev_var rfl) (by show 4 < 5; decide) (ex_t (e1.trans e2) hS) (dpa_ex (e1.trans e2) hxs) (by omega) (fun j x d H' hj hx e Q' q => ?_) fun p vs H' np e hp hvs => ?_
      · rw [← hP, List.getElem?_map] at hj
        obtain ⟨t, ht, rfl⟩ := Option.map_eq_some_iff.mp hj
        obtain ⟨c, cs, rfl, hc, hcs⟩ := dp_tup hx
        cases hcs with | cons g0 gr =>
        obtain rfl := dp_str g0
        refine ⟨_, rfl, c, _, 0, _, rfl, rfl, ex_t e hc, atI_nat (j := 0) rfl, rfl, _, rfl, ?_⟩
        by_cases hm : t.1 = "main"
        · rw [str_eq hm]
          simpa [tEnc, hm] using q
        · rw [str_ne hm]
          simpa [tEnc, hm] using q
      · refine ⟨p, _, rfl, .inl ⟨sq_of hp, fun l hl => ⟨.ref l, rfl, e.trans (Ex.new hl), .tup (st_of upd_same) ?_⟩⟩⟩
        rw [← hR]
        refine dpa_ex (e.trans (Ex.new hl)) ?_
        rw [← hP, List.filter_map] at hvs
        exact hvs
    rintro _ H3 ⟨r, rfl, e3, hr3⟩
    refine ⟨fun σ' H' => ∃ q, σ' = [some (.ref a), some u, some (.ref q), some r, none] ∧ Ex H3 H' ∧ LsD K H' q ((hd0 P R) ++ hd1 P R), ?_, ?_⟩
    · dsimp only [tAsg]
      have evE : EvD K (tVar 1) [some (.ref a), some u, some (.ref l), some r, none] H3 endD := evd_var rfl (dp_ex (e2.trans e3) hu)
      have evR : EvD K (tVar 3) [some (.ref a), some u, some (.ref l), some r, none] H3 (.tuple R) := evd_var rfl (dp_ex (Ex.refl _) hr3)
      have ev : EvDs K _ [some (.ref a), some u, some (.ref l), some r, none] H3 (hd1 P R) := (evds_cons evR (evds_cons (evd_catA evR (evd_tup (evds_cons (evd_tup (evds_cons (evd_ev ev_c (.str _)) (evds_cons (evd_tup (evds_cons (evd_ev ev_c (.str _)) (evds_cons (evd_ev ev_c (.str _)) evds_nil)) (by simp)) (evds_cons (evd_tup (evds_cons (evd_tup (evds_cons (evd_ev ev_c (.str _)) (evds_cons (evd_ev ev_c (.int _)) evds_nil)) (by simp)) evds_nil) (by simp)) evds_nil))) (by simp)) evds_nil) (by simp)) (by simp; omega)) (evds_cons (evd_catA evR (evd_tup (evds_cons (evd_tup (evds_cons (evd_ev ev_c (.str _)) (evds_cons (evd_tup (evds_cons (evd_ev ev_c (.str _)) evds_nil) (by simp)) (evds_cons (evd_tup (evds_cons (evd_tup (evds_cons (evd_ev ev_c (.str _)) (evds_cons (evd_ev ev_c (.int _)) evds_nil)) (by simp)) evds_nil) (by simp)) evds_nil))) (by simp)) evds_nil) (by simp)) (by simp; omega)) evds_nil)))
      refine (evl_cat (evl_var (i := 2) rfl (hl2.mono e3)) (evl_lst ev (by simp [hd1])).e (by simp [hd0, hd1, hd2])) H3 (Ex.refl _) _ fun q G _ e q2 => ?_
      exact ⟨q, rfl, e, q2⟩
    rintro _ H4 ⟨l4, rfl, e4, hl4⟩
    refine ⟨fun σ' H' => ∃ q, σ' = [some (.ref a), some u, some (.ref q), some r, none] ∧ Ex H4 H' ∧ LsD K H' q (((hd0 P R) ++ hd1 P R) ++ hd2 P R), ?_, ?_⟩
    · dsimp only [tAsg]
      have evE : EvD K (tVar 1) [some (.ref a), some u, some (.ref l4), some r, none] H4 endD := evd_var rfl (dp_ex ((e2.trans e3).trans e4) hu)
      have evR : EvD K (tVar 3) [some (.ref a), some u, some (.ref l4), some r, none] H4 (.tuple R) := evd_var rfl (dp_ex e4 hr3)
      have ev : EvDs K _ [some (.ref a), some u, some (.ref l4), some r, none] H4 (hd2 P R) := (evds_cons (evd_catA evR (evd_tup (evds_cons (evd_tup (evds_cons (evd_ev ev_c (.str _)) (evds_cons (evd_tup evds_nil (by simp)) (evds_cons (evd_tup evds_nil (by simp)) evds_nil))) (by simp)) evds_nil) (by simp)) (by simp; omega)) (evds_cons (evd_catA evR (evd_tup (evds_cons (evd_tup (evds_cons (evd_ev ev_c (.str _)) (evds_cons (evd_tup evds_nil (by simp)) (evds_cons (evd_tup (evds_cons (evd_tup (evds_cons (evd_ev ev_c (.str _)) (evds_cons (evd_ev ev_c (.int _)) evds_nil)) (by simp)) evds_nil) (by simp)) evds_nil))) (by simp)) evds_nil) (by simp)) (by simp; omega)) (evds_cons (evd_catA evR (evd_tup (evds_cons (evd_tup (evds_cons (evd_ev ev_c (.str _)) (evds_cons (evd_lst (evds_cons (evd_ev ev_c (.str _)) evds_nil) (by simp)) (evds_cons evE evds_nil))) (by simp)) evds_nil) (by simp)) (by simp; omega)) evds_nil)))
      refine (evl_cat (evl_var (i := 2) rfl hl4) (evl_lst ev (by simp [hd2])).e (by simp [hd0, hd1, hd2])) H4 (Ex.refl _) _ fun q G _ e q2 => ?_
      exact ⟨q, rfl, e, q2⟩
    rintro _ H5 ⟨l5, rfl, e5, hl5⟩
    have evE : EvD K (tVar 1) [some (.ref a), some u, some (.ref l5), some r, none] H5 endD := evd_var rfl (dp_ex (((e2.trans e3).trans e4).trans e5) hu)
    have evR : EvD K (tVar 3) [some (.ref a), some u, some (.ref l5), some r, none] H5 (.tuple R) := evd_var rfl (dp_ex (e4.trans e5) hr3)
    have ev : EvDs K _ [some (.ref a), some u, some (.ref l5), some r, none] H5 (hd3 P R) := (evds_cons (evd_catA evR (evd_tup (evds_cons (evd_tup (evds_cons (evd_ev ev_c (.str _)) (evds_cons (evd_tup (evds_cons (evd_ev ev_c (.str _)) (evds_cons (evd_ev ev_c (.str _)) (evds_cons (evd_ev ev_c (.str _)) (evds_cons (evd_ev ev_c (.str _)) (evds_cons (evd_ev ev_c (.str _)) evds_nil))))) (by simp)) (evds_cons evE evds_nil))) (by simp)) evds_nil) (by simp)) (by simp; omega)) (evds_cons (evd_catA evR (evd_tup (evds_cons (evd_tup (evds_cons (evd_ev ev_c (.str _)) (evds_cons (evd_tup evds_nil (by simp)) (evds_cons (evd_lst (evds_cons (evd_tup (evds_cons (evd_ev ev_c (.str _)) (evds_cons (evd_ev ev_c (.int _)) evds_nil)) (by simp)) evds_nil) (by simp)) evds_nil))) (by simp)) evds_nil) (by simp)) (by simp; omega)) evds_nil))
    dsimp only [tRet]
    refine (evl_cat (evl_var (i := 2) rfl hl5) (evl_lst ev (by simp [hd3])).e (by simp [hd0, hd1, hd2, hd3])) H5 (Ex.refl _) _ fun q G _ e q2 => ?_
    refine k q G ((e1.trans e2).trans ((e3.trans e4).trans (e5.trans e))) ?_
    unfold headsD
    rw [hP, hR]
    exact q2
end
end K4

set_option maxHeartbeats 4000000
namespace PK
open PySem L2 Evl DL PJ PG TL
/-! ### bodies of good form, computed -/
mutual
def gdR : Rt → Bool
  | .two w a b => (opsL.contains w || decide (w = "pair")) && (atD a.enc && atD b.enc)
  | .one w a => oneD.contains w && atD a.enc
  | .call f xs => atD f.enc && atsD (.tuple (xs.map At.enc))
  | .fn ps b => parD (.tuple (ps.map PyData.str)) && gdB b
def gdB : Bd → Bool
  | .give a => atD a.enc
  | .tail f xs => atD f.enc && atsD (.tuple (xs.map At.enc))
  | .cond a b c => atD a.enc && (gdB b && gdB c)
  | .lets x r rest => nmS x && (gdR r && gdB rest)
  | .says a rest => atD a.enc && gdB rest
end
theorem one_ops {w : Str} (h : oneD.contains w = true) : opsL.contains w = false := by
  have hw : w ∈ oneD := by simpa using h
  have all : ∀ w ∈ oneD, opsL.contains w = false := by decide +kernel
  exact all w hw
theorem gd_rs : ∀ {r : Rt}, gdR r = true → rsD r.enc = true
  | .two w a b, h => by
    simp only [gdR, Bool.and_eq_true, Bool.or_eq_true, decide_eq_true_eq] at h
    obtain ⟨hw, ha, hb⟩ := h
    rcases hw with hw | hw
    · show rsD (.tuple (.str w :: [a.enc, b.enc])) = true
      rw [rs_ops hw]
      simp [two, ha, hb]
    · subst hw
      show rsD (.tuple (.str "pair" :: [a.enc, b.enc])) = true
      rw [rs_oth (by decide +kernel), oth2, if_pos rfl, ha, hb]
      rfl
  | .one w a, h => by
    simp only [gdR, Bool.and_eq_true] at h
    show rsD (.tuple (.str w :: [a.enc])) = true
    rw [rs_oth (one_ops h.1)]
    show (oneD.contains w && atD a.enc) = true
    rw [h.1, h.2]
    rfl
  | .call f xs, h => by
    simp only [gdR, Bool.and_eq_true] at h
    show rsD (.tuple (.str "call" :: [f.enc, _])) = true
    rw [rs_oth (by decide +kernel), oth2, if_neg (by decide +kernel), if_neg (by decide +kernel), if_pos rfl, h.1, h.2]
    rfl
  | .fn ps b, h => by
    simp only [gdR, Bool.and_eq_true] at h
    show rsD (.tuple (.str "fun" :: [_, _])) = true
    rw [rs_oth (by decide +kernel), oth2, if_neg (by decide +kernel), if_pos rfl, h.1]
    rfl
theorem encs_ne (b : Bd) : ∃ d r, b.encs = d :: r := by
  have h := b.encs_len.2
  cases e : b.encs with
  | nil => rw [e] at h; exact absurd h (by decide)
  | cons d r => exact ⟨d, r, rfl⟩
theorem enD_w (w : Str) (r : List PyData) : enD (.tuple (.str w :: r)) = if w = "give" then one1 r atD else if w = "tail" then two r (fun a b => atD a && atsD b) else if w = "if" then thr r (fun a b c => atD a && (isT b && isT c)) else false := rfl
theorem gd_la : ∀ {b : Bd}, gdB b = true → laD b.encs = true
  | .give a, h => by
    simp only [gdB] at h
    show enD (.tuple [.str "give", a.enc]) = true
    simp [enD, one1, h]
  | .tail f xs, h => by
    simp only [gdB, Bool.and_eq_true] at h
    show enD (.tuple [.str "tail", f.enc, .tuple (xs.map At.enc)]) = true
    rw [enD_w, if_neg (by decide +kernel), if_pos rfl]
    show (atD f.enc && _) = true
    rw [h.1, h.2]
    rfl
  | .cond a b c, h => by
    simp only [gdB, Bool.and_eq_true] at h
    show enD (.tuple [.str "if", a.enc, .tuple b.encs, .tuple c.encs]) = true
    rw [enD_w, if_neg (by decide +kernel), if_neg (by decide +kernel), if_pos rfl]
    show (atD a.enc && _) = true
    rw [h.1]
    rfl
  | .lets x r rest, h => by
    simp only [gdB, Bool.and_eq_true] at h
    obtain ⟨d, t, e⟩ := encs_ne rest
    have ih := gd_la h.2.2
    show laD (_ :: rest.encs) = true
    rw [e] at ih ⊢
    rw [la_cons, ih, stD3, gd_rs h.2.1]
    show ((true && (nmS x && true)) && true) = true
    rw [h.1]
    rfl
  | .says a rest, h => by
    simp only [gdB, Bool.and_eq_true] at h
    obtain ⟨d, t, e⟩ := encs_ne rest
    have ih := gd_la h.2
    show laD (_ :: rest.encs) = true
    rw [e] at ih ⊢
    rw [la_cons, ih, stD2, h.1]
    rfl
def gdIn (n : Nat) (y : PyData) : Prop := ∃ b : Bd, y = .tuple b.encs ∧ gdB b = true ∧ b.deep ≤ n
theorem inn_r {x : Str} : ∀ {r : Rt}, gdR r = true → ∀ y ∈ inn (.tuple [.str "let", .str x, r.enc]), gdIn r.deep y
  | .two w a b, h, y, hy => by
    simp only [Rt.enc] at hy
    have hw : w ≠ "fun" := by
      simp only [gdR, Bool.and_eq_true, Bool.or_eq_true, decide_eq_true_eq] at h
      rintro rfl
      rcases h.1 with z | z
      · exact absurd z (by decide +kernel)
      · exact absurd z (by decide +kernel)
    rw [shp_inn (Shp.letp (r := [a.enc, b.enc]) hw)] at hy
    cases hy
  | .one w a, h, y, hy => by
    simp only [Rt.enc] at hy
    have hw : w ≠ "fun" := by
      simp only [gdR, Bool.and_eq_true] at h
      rintro rfl
      exact absurd h.1 (by decide +kernel)
    rw [shp_inn (Shp.letp (r := [a.enc]) hw)] at hy
    cases hy
  | .call f xs, h, y, hy => by
    simp only [Rt.enc] at hy
    rw [shp_inn (Shp.letp (w := "call") (r := [f.enc, .tuple (xs.map At.enc)]) (by decide +kernel))] at hy
    cases hy
  | .fn ps b, h, y, hy => by
    simp only [Rt.enc] at hy
    simp only [gdR, Bool.and_eq_true] at h
    rw [shp_inn (Shp.letf (x := .str x) (p := .tuple (ps.map PyData.str)) (b := b.encs))] at hy
    rw [List.mem_singleton.mp hy]
    exact ⟨b, rfl, h.2, Nat.le_refl _⟩
theorem gdIn.mono {n m : Nat} {y : PyData} (h : gdIn n y) (l : n ≤ m) : gdIn m y := by
  obtain ⟨b, e, g, d⟩ := h
  exact ⟨b, e, g, Nat.le_trans d l⟩
theorem gd_inn : ∀ {b : Bd} {n : Nat}, gdB b = true → b.deep ≤ n + 1 → ∀ s ∈ b.encs, ∀ y ∈ inn s, gdIn n y
  | .give a, n, h, hd, s, hs, y, hy => by
    rw [List.mem_singleton.mp hs, shp_inn (Shp.oth (w := "give") (r := [a.enc]) (by decide +kernel) (by decide +kernel))] at hy
    cases hy
  | .tail f xs, n, h, hd, s, hs, y, hy => by
    rw [List.mem_singleton.mp hs, shp_inn (Shp.oth (w := "tail") (r := [f.enc, .tuple (xs.map At.enc)]) (by decide +kernel) (by decide +kernel))] at hy
    cases hy
  | .cond a b c, n, h, hd, s, hs, y, hy => by
    simp only [gdB, Bool.and_eq_true] at h
    simp only [Bd.deep] at hd
    rw [List.mem_singleton.mp hs, shp_inn (Shp.cond (a := a.enc) (b := b.encs) (c := c.encs))] at hy
    simp only [List.mem_cons, List.not_mem_nil, or_false] at hy
    rcases hy with rfl | rfl
    · exact ⟨b, rfl, h.2.1, by omega⟩
    · exact ⟨c, rfl, h.2.2, by omega⟩
  | .lets x r rest, n, h, hd, s, hs, y, hy => by
    simp only [gdB, Bool.and_eq_true] at h
    simp only [Bd.deep] at hd
    simp only [Bd.encs, List.mem_cons] at hs
    rcases hs with rfl | hs
    · exact (inn_r h.2.1 y hy).mono (by omega)
    · exact gd_inn h.2.2 (by omega) s hs y hy
  | .says a rest, n, h, hd, s, hs, y, hy => by
    simp only [gdB, Bool.and_eq_true] at h
    simp only [Bd.deep] at hd
    simp only [Bd.encs, List.mem_cons] at hs
    rcases hs with rfl | hs
    · rw [shp_inn (Shp.oth (w := "say") (r := [a.enc]) (by decide +kernel) (by decide +kernel))] at hy
      cases hy
    · exact gd_inn h.2 hd s hs y hy
theorem gd_lays : ∀ (n : Nat) (L : List PyData), (∀ d ∈ L, gdIn n d) → laysD n L = true
  | 0, L, h => by
    cases L with
    | nil => rfl
    | cons d r =>
      obtain ⟨b, _, _, hd⟩ := h d (by simp)
      exact absurd b.deep_pos (by omega)
  | n + 1, L, h => by
    rw [lays_succ, Bool.and_eq_true]
    refine ⟨List.all_eq_true.mpr fun d hd => ?_, gd_lays n _ fun y hy => ?_⟩
    · obtain ⟨b, rfl, g, _⟩ := h d hd
      exact gd_la g
    · obtain ⟨d, hd, hy⟩ := List.mem_flatMap.mp hy
      obtain ⟨b, rfl, g, l⟩ := h d hd
      obtain ⟨s, hs, hy2⟩ := List.mem_flatMap.mp hy
      exact gd_inn g l s hs y hy2
theorem gd_bo {b : Bd} (h : gdB b = true) (hd : b.deep ≤ 10) : boD (.tuple b.encs) = true := by
  show (true && laysD 10 [.tuple b.encs]) = true
  rw [gd_lays 10 _ fun d hd' => ⟨b, List.mem_singleton.mp hd', h, hd⟩]
  rfl
theorem gd_sh {n : Nat} : (∀ r : Rt, gdR r = true → shR r) ∧ (∀ b : Bd, gdB b = true → shB b) := by
  have two_ne : ∀ w : Str, (opsL.contains w || decide (w = "pair")) = true → w ≠ "fun" ∧ w ≠ "call" := by
    intro w h
    simp only [Bool.or_eq_true, decide_eq_true_eq] at h
    constructor <;> rintro rfl <;> rcases h with z | z <;> exact absurd z (by decide +kernel)
  have one_ne : ∀ w : Str, oneD.contains w = true → w ≠ "fun" ∧ w ≠ "call" := by
    intro w h
    constructor <;> rintro rfl <;> exact absurd h (by decide +kernel)
  have main : ∀ k : Nat, (∀ r : Rt, r.size ≤ k → gdR r = true → shR r) ∧ (∀ b : Bd, b.size ≤ k → gdB b = true → shB b) := by
    intro k
    induction k with
    | zero =>
      refine ⟨fun r hr h => ?_, fun b hb h => ?_⟩
      · cases r with
        | two w a b => simp only [gdR, Bool.and_eq_true] at h; exact two_ne w h.1
        | one w a => simp only [gdR, Bool.and_eq_true] at h; exact one_ne w h.1
        | call f xs => exact True.intro
        | fn ps b => simp only [Rt.size] at hr; have := b.encs_len; omega
      · have := b.encs_len; omega
    | succ k ih =>
      have hB : ∀ b : Bd, b.size ≤ k + 1 → gdB b = true → shB b := by
        intro b hb h
        cases b with
        | give a => exact True.intro
        | tail f xs => exact True.intro
        | cond a b c =>
          simp only [gdB, Bool.and_eq_true] at h
          simp only [Bd.size] at hb
          exact ⟨ih.2 b (by omega) h.2.1, ih.2 c (by omega) h.2.2⟩
        | lets x r rest =>
          simp only [gdB, Bool.and_eq_true] at h
          simp only [Bd.size] at hb
          exact ⟨ih.1 r (by omega) h.2.1, ih.2 rest (by omega) h.2.2⟩
        | says a rest =>
          simp only [gdB, Bool.and_eq_true] at h
          simp only [Bd.size] at hb
          exact ih.2 rest (by omega) h.2
      refine ⟨fun r hr h => ?_, hB⟩
      cases r with
      | two w a b => simp only [gdR, Bool.and_eq_true] at h; exact two_ne w h.1
      | one w a => simp only [gdR, Bool.and_eq_true] at h; exact one_ne w h.1
      | call f xs => exact True.intro
      | fn ps b =>
        simp only [gdR, Bool.and_eq_true] at h
        simp only [Rt.size] at hr
        exact hB b hr h.2
  exact ⟨fun r h => (main r.size).1 r (Nat.le_refl _) h, fun b h => (main b.size).2 b (Nat.le_refl _) h⟩
end PK

set_option maxHeartbeats 4000000
namespace PK
open PySem L2 Evl DL PJ PG TL
/-! ### drawn names are names -/
theorem figs_in {c : Nat} (h : 48 ≤ c ∧ c ≤ 57) : inS c figs = true := by
  have all : ∀ c ∈ List.range 58, 48 ≤ c → inS c figs = true := by decide +kernel
  exact all c (List.mem_range.mpr (by omega)) h.1
theorem nm_dig {c k : Nat} {x : Str} (hc : inS c ltrs = true) (hx : tl x = c :: numL k) (hk : k ≤ 1000000) : nmS x = true := by
  have hl := numL_len (n := k) (k := 7) (by decide) (by omega)
  have e : x.length = 1 + (numL k).length := by rw [len_tl, hx, List.length_cons]; omega
  have hw : wordsL.contains x = false := by
    cases h : wordsL.contains x with
    | false => rfl
    | true =>
      have hm : x ∈ wordsL := by simpa using h
      have all : ∀ w ∈ wordsL, ((tl w).drop 1).all (fun c => decide (57 < c)) = true := by decide +kernel
      have h1 := all x hm
      rw [hx, List.drop_succ_cons, List.drop_zero] at h1
      cases hn : numL k with
      | nil => exact absurd hn (numL_ne k)
      | cons d r =>
        rw [hn] at h1
        simp only [List.all_cons, Bool.and_eq_true, decide_eq_true_eq] at h1
        have hd := numL_digits k d (by rw [hn]; simp)
        have := h1.1
        omega
  unfold nmS
  rw [hw, hx, decide_eq_true (show 1 ≤ x.length by omega), decide_eq_true (show x.length ≤ 8 by omega)]
  simp only [List.head?_cons, Option.any_some, hc, List.all_cons, Bool.true_or, Bool.and_true, Bool.not_false, Bool.true_and]
  exact List.all_eq_true.mpr fun d hd => by rw [figs_in (numL_digits k d hd)]; simp
theorem nm_nN {k : Nat} (h : k ≤ 1000000) : nmS (nN k) = true := nm_dig (by decide +kernel) (tl_nN k) h
theorem nm_nP {k : Nat} (h : k ≤ 1000000) : nmS (nP k) = true := nm_dig (by decide +kernel) (tl_nP k) h
theorem nPs_nd (k n : Nat) : (nPs k n).Nodup := by
  unfold nPs
  exact List.pairwise_map.mpr (List.Pairwise.imp (fun {a b} h e => h (by have := nP_inj e; omega)) List.nodup_range)
theorem nPs_mem {k n : Nat} {x : Str} (h : x ∈ nPs k n) : ∃ j, k < j ∧ j ≤ k + n ∧ x = nP j := by
  unfold nPs at h
  obtain ⟨i, hi, rfl⟩ := List.mem_map.mp h
  rw [List.mem_range] at hi
  exact ⟨_, by omega, by omega, rfl⟩
theorem nPs_len (k n : Nat) : (nPs k n).length = n := by simp [nPs]
/-! ### drawn bodies have the form -/
def NmL (sc : List Str) : Prop := ∀ x ∈ sc, nmS x = true
theorem NmL.app {a b : List Str} (ha : NmL a) (hb : NmL b) : NmL (a ++ b) := fun x h => (List.mem_append.mp h).elim (ha x) (hb x)
theorem okA_at {sc : List Str} (hs : NmL sc) : ∀ {a : At}, okA sc a → atD a.enc = true
  | .num n, h => by
    show (numD (.int n) 0 2147483647 || nmD (.int n)) = true
    simp only [okA] at h
    show (decide (0 ≤ n) && decide (n ≤ 2147483647) || nmD (.int n)) = true
    rw [decide_eq_true h.1, decide_eq_true (show n ≤ 2147483647 by omega)]
    rfl
  | .nm x, h => by
    show (numD (.str x) 0 2147483647 || nmS x) = true
    rw [hs x h, Bool.or_true]
theorem okF_at {sc : List Str} (hs : NmL sc) : ∀ {a : At}, okF sc a → atD a.enc = true
  | .num n, h => by simp only [okF] at h
  | .nm x, h => by
    show (numD (.str x) 0 2147483647 || nmS x) = true
    have : nmS x = true := by
      simp only [okF] at h
      rcases h with rfl | rfl | h
      · decide +kernel
      · decide +kernel
      · exact hs x h
    rw [this, Bool.or_true]
theorem ats_all {xs : List At} (hl : xs.length ≤ 4) (h : ∀ a ∈ xs, atD a.enc = true) : atsD (.tuple (xs.map At.enc)) = true := by
  show (decide ((xs.map At.enc).length ≤ 4) && (xs.map At.enc).all atD) = true
  rw [decide_eq_true (by rw [List.length_map]; exact hl), Bool.true_and]
  exact List.all_eq_true.mpr fun d hd => by
    obtain ⟨a, ha, rfl⟩ := List.mem_map.mp hd
    exact h a ha
theorem str_back (ps : List Str) : (ps.map PyData.str).map strOf = ps := by
  induction ps with
  | nil => rfl
  | cons p r ih => rw [List.map_cons, List.map_cons, ih]; rfl
theorem par_ok {ps : List Str} (hl : ps.length ≤ 4) (hn : NmL ps) (hd : ps.Nodup) : parD (.tuple (ps.map PyData.str)) = true := by
  show (decide ((ps.map PyData.str).length ≤ 4) && ((ps.map PyData.str).all nmD && decide ((ps.map PyData.str).map strOf).Nodup)) = true
  rw [str_back, decide_eq_true hd, decide_eq_true (by rw [List.length_map]; exact hl), Bool.true_and, Bool.and_true]
  exact List.all_eq_true.mpr fun d hd => by
    obtain ⟨x, hx, rfl⟩ := List.mem_map.mp hd
    exact hn x hx
mutual
theorem okR_gd {sc : List Str} {bx dp : Nat} : ∀ {r : Rt} {bx' : Nat}, okR sc bx dp r bx' → bx' ≤ 1000000 → NmL sc → gdR r = true
  | .two w a b, _, h, hb, hs => by
    simp only [okR] at h
    have all : ∀ w ∈ wTwo, (opsL.contains w || decide (w = "pair")) = true := by decide +kernel
    simp only [gdR, all w h.2.1, okA_at hs h.2.2.1, okA_at hs h.2.2.2, Bool.and_self]
  | .one w a, _, h, hb, hs => by
    simp only [okR] at h
    have all : ∀ w ∈ wOne, oneD.contains w = true := by decide +kernel
    simp only [gdR, all w h.2.1, okA_at hs h.2.2, Bool.and_self]
  | .call f xs, _, h, hb, hs => by
    simp only [okR] at h
    simp only [gdR, okF_at hs h.2.1, ats_all (Nat.le_trans h.2.2.1 (by decide)) fun a ha => okA_at hs (h.2.2.2 a ha), Bool.and_self]
  | .fn ps b, bx', h, hb, hs => by
    simp only [okR] at h
    obtain ⟨n, dq, hn, rfl, rfl, h⟩ := h
    have hle := okB_le h
    have hp : NmL (nPs bx n) := fun x hx => by
      obtain ⟨j, h1, h2, rfl⟩ := nPs_mem hx
      exact nm_nP (by omega)
    simp only [gdR, okB_gd h hb (hs.app hp), par_ok (by rw [nPs_len]; omega) hp (nPs_nd _ _), Bool.and_self]
theorem okB_gd {sc : List Str} {bx dp mo st : Nat} : ∀ {b : Bd} {bx' : Nat}, okB sc bx dp mo st b bx' → bx' ≤ 1000000 → NmL sc → gdB b = true
  | .give a, _, h, hb, hs => by
    simp only [okB] at h
    simp only [gdB, okA_at hs h.2]
  | .tail f xs, _, h, hb, hs => by
    simp only [okB] at h
    obtain ⟨_, hf, a, rfl, ha⟩ := h
    simp only [gdB, okF_at hs hf, ats_all (xs := [a]) (by simp) fun y hy => by rw [List.mem_singleton.mp hy]; exact okA_at hs ha, Bool.and_self]
  | .cond a b c, _, h, hb, hs => by
    simp only [okB] at h
    obtain ⟨ha, mq, b1, rfl, h1, h2⟩ := h
    have hle := okB_le h2
    simp only [gdB, okA_at hs ha, okB_gd h1 (by omega) hs, okB_gd h2 hb hs, Bool.and_self]
  | .lets x r rest, _, h, hb, hs => by
    simp only [okB] at h
    obtain ⟨sq, b1, rfl, h1, rfl, h2⟩ := h
    have hle := okB_le h2
    have hx : nmS (nN (b1 + 1)) = true := nm_nN (by omega)
    simp only [gdB, hx, okR_gd h1 (by omega) hs, okB_gd h2 hb (hs.app fun y hy => by rw [List.mem_singleton.mp hy]; exact hx), Bool.and_self]
  | .says a rest, _, h, hb, hs => by
    simp only [okB] at h
    obtain ⟨sq, rfl, ha, h2⟩ := h
    simp only [gdB, okA_at hs ha, okB_gd h2 hb hs, Bool.and_self]
end
/-! ### the names bound are all different -/
def Kd (lo hi : Nat) (x : Str) : Prop := ∃ k, lo < k ∧ k ≤ hi ∧ (x = nN k ∨ x = nP k)
theorem Kd.mono {lo hi lo' hi' : Nat} {x : Str} (h : Kd lo hi x) (h1 : lo' ≤ lo) (h2 : hi ≤ hi') : Kd lo' hi' x := by
  obtain ⟨k, a, b, c⟩ := h
  exact ⟨k, by omega, by omega, c⟩
theorem Kd.ne {lo hi lo' hi' : Nat} {x y : Str} (h : Kd lo hi x) (h' : Kd lo' hi' y) (l : hi ≤ lo') : x ≠ y := by
  obtain ⟨k, a, b, c⟩ := h
  obtain ⟨k', a', b', c'⟩ := h'
  rintro rfl
  rcases c with rfl | rfl <;> rcases c' with c' | c'
  · have := nN_inj c'; omega
  · exact nN_ne_nP c'
  · exact nN_ne_nP c'.symm
  · have := nP_inj c'; omega
theorem Kd.head {lo hi : Nat} {x : Str} (h : Kd lo hi x) : ∃ c d r, tl x = c :: d :: r ∧ (c = 110 ∨ c = 112) ∧ d ≤ 57 := by
  obtain ⟨k, _, _, c⟩ := h
  have e : ∃ d r, numL k = d :: r ∧ d ≤ 57 := by
    cases hn : numL k with
    | nil => exact absurd hn (numL_ne k)
    | cons d r => exact ⟨d, r, rfl, (numL_digits k d (by rw [hn]; simp)).2⟩
  obtain ⟨d, r, e, hd⟩ := e
  rcases c with rfl | rfl
  · exact ⟨110, d, r, by rw [tl_nN, e], .inl rfl, hd⟩
  · exact ⟨112, d, r, by rw [tl_nP, e], .inr rfl, hd⟩
def bnR (r : Rt) : List Str := bndR r ++ (psxR r).flatMap bndS
theorem bnB_give (a : At) : bnB (.give a) = [] := rfl
theorem bnB_tail (f : At) (xs : List At) : bnB (.tail f xs) = [] := rfl
theorem bnB_cond (a : At) (b c : Bd) : bnB (.cond a b c) = bnB b ++ bnB c := by simp [bnB, psxB, bndS]
theorem bnB_lets (x : Str) (r : Rt) (rest : Bd) : bnB (.lets x r rest) = x :: (bnR r ++ bnB rest) := by simp [bnB, bnR, psxB, bndS]
theorem bnB_says (a : At) (rest : Bd) : bnB (.says a rest) = bnB rest := by simp [bnB, psxB, bndS]
theorem bnR_fn (ps : List Str) (b : Bd) : bnR (.fn ps b) = ps ++ bnB b := rfl
theorem nd_app {a b : List Str} {lo mi hi : Nat} (ha : a.Nodup ∧ ∀ x ∈ a, Kd lo mi x) (hb : b.Nodup ∧ ∀ x ∈ b, Kd mi hi x) (h1 : lo ≤ mi) (h2 : mi ≤ hi) : (a ++ b).Nodup ∧ ∀ x ∈ a ++ b, Kd lo hi x :=
  ⟨List.nodup_append.mpr ⟨ha.1, hb.1, fun x hx y hy => (ha.2 x hx).ne (hb.2 y hy) (Nat.le_refl _)⟩, fun x hx => (List.mem_append.mp hx).elim (fun h => (ha.2 x h).mono (Nat.le_refl _) h2) fun h => (hb.2 x h).mono h1 (Nat.le_refl _)⟩
mutual
theorem okR_kd {sc : List Str} {bx dp : Nat} : ∀ {r : Rt} {bx' : Nat}, okR sc bx dp r bx' → (bnR r).Nodup ∧ ∀ x ∈ bnR r, Kd bx bx' x
  | .two w a b, _, h => ⟨List.nodup_nil, fun _ h => nomatch h⟩
  | .one w a, _, h => ⟨List.nodup_nil, fun _ h => nomatch h⟩
  | .call f xs, _, h => ⟨List.nodup_nil, fun _ h => nomatch h⟩
  | .fn ps b, bx', h => by
    simp only [okR] at h
    obtain ⟨n, dq, hn, rfl, rfl, h⟩ := h
    have hle := okB_le h
    rw [bnR_fn]
    exact nd_app (lo := bx) (mi := bx + n) ⟨nPs_nd _ _, fun x hx => by
      obtain ⟨j, h1, h2, rfl⟩ := nPs_mem hx
      exact ⟨j, h1, h2, .inr rfl⟩⟩ (okB_kd h) (by omega) (by omega)
theorem okB_kd {sc : List Str} {bx dp mo st : Nat} : ∀ {b : Bd} {bx' : Nat}, okB sc bx dp mo st b bx' → (bnB b).Nodup ∧ ∀ x ∈ bnB b, Kd bx bx' x
  | .give a, _, h => ⟨List.nodup_nil, fun _ h => nomatch h⟩
  | .tail f xs, _, h => ⟨List.nodup_nil, fun _ h => nomatch h⟩
  | .cond a b c, _, h => by
    simp only [okB] at h
    obtain ⟨ha, mq, b1, rfl, h1, h2⟩ := h
    rw [bnB_cond]
    exact nd_app (okB_kd h1) (okB_kd h2) (okB_le h1).1 (okB_le h2).1
  | .lets x r rest, _, h => by
    simp only [okB] at h
    obtain ⟨sq, b1, rfl, h1, rfl, h2⟩ := h
    have hr := okR_kd h1
    have hle := okR_le h1
    have hle2 := okB_le h2
    rw [bnB_lets]
    have hx : ([nN (b1 + 1)] : List Str).Nodup ∧ ∀ x ∈ ([nN (b1 + 1)] : List Str), Kd b1 (b1 + 1) x := ⟨by simp, fun x hx => by rw [List.mem_singleton.mp hx]; exact ⟨b1 + 1, by omega, Nat.le_refl _, .inl rfl⟩⟩
    have t := nd_app hr (nd_app hx (okB_kd h2) (by omega) (by omega)) hle.1 (by omega)
    have pm : List.Perm (nN (b1 + 1) :: (bnR r ++ bnB rest)) (bnR r ++ ([nN (b1 + 1)] ++ bnB rest)) := by
      have := (List.perm_append_comm (l₁ := bnR r) (l₂ := [nN (b1 + 1)])).append_right (bnB rest)
      simpa using this.symm
    exact ⟨pm.nodup_iff.mpr t.1, fun x hx => t.2 x (pm.mem_iff.mp hx)⟩
  | .says a rest, _, h => by
    simp only [okB] at h
    obtain ⟨sq, rfl, ha, h2⟩ := h
    rw [bnB_says]
    exact okB_kd h2
end
/-! ### drawn bodies see what they name -/
theorem seeA_ok {tops sc held : List Str} (hs : ∀ x ∈ sc, x ∈ held) : ∀ {a : At}, okA sc a → seeA tops held a = true
  | .num n, h => rfl
  | .nm x, h => by
    show (held.contains x || tops.contains x) = true
    rw [List.contains_iff_mem.mpr (hs x h), Bool.true_or]
theorem seeF_ok {tops sc held : List Str} (hg : (Str.ofString "g") ∈ tops) (hh : (Str.ofString "h") ∈ tops) (hs : ∀ x ∈ sc, x ∈ held) : ∀ {a : At}, okF sc a → seeA tops held a = true
  | .num n, h => rfl
  | .nm x, h => by
    show (held.contains x || tops.contains x) = true
    simp only [okF] at h
    rcases h with rfl | rfl | h
    · rw [List.contains_iff_mem.mpr hg, Bool.or_true]
    · rw [List.contains_iff_mem.mpr hh, Bool.or_true]
    · rw [List.contains_iff_mem.mpr (hs x h), Bool.true_or]
theorem okN_ok {f i : Nat} (hf : f ≤ 3) (hi : i ≤ 6) : okN f i = true := by
  unfold okN
  rw [decide_eq_true hf, decide_eq_true hi]
  rfl
section
variable {tops : List Str} (hg : (Str.ofString "g") ∈ tops) (hh : (Str.ofString "h") ∈ tops)
include hg hh
mutual
theorem okR_sc {sc held : List Str} {bx dp funs ifs : Nat} : ∀ {r : Rt} {bx' : Nat}, okR sc bx dp r bx' → (∀ x ∈ sc, x ∈ held) → funs + dp ≤ 3 → ifs + dp ≤ 6 → seeL tops held (atsR r) = true ∧ scR tops held funs ifs r = true
  | .two w a b, _, h, hs, hf, hi => by
    simp only [okR] at h
    exact ⟨by simp only [seeL, atsR, List.all_cons, List.all_nil, seeA_ok hs h.2.2.1, seeA_ok hs h.2.2.2, Bool.and_self], rfl⟩
  | .one w a, _, h, hs, hf, hi => by
    simp only [okR] at h
    exact ⟨by simp only [seeL, atsR, List.all_cons, List.all_nil, seeA_ok hs h.2.2, Bool.and_self], rfl⟩
  | .call f xs, _, h, hs, hf, hi => by
    simp only [okR] at h
    refine ⟨?_, rfl⟩
    simp only [seeL, atsR, List.all_cons, seeF_ok hg hh hs h.2.1, Bool.true_and]
    exact List.all_eq_true.mpr fun a ha => seeA_ok (tops := tops) hs (h.2.2.2 a ha)
  | .fn ps b, _, h, hs, hf, hi => by
    simp only [okR] at h
    obtain ⟨n, dq, hn, rfl, rfl, h⟩ := h
    refine ⟨rfl, ?_⟩
    have := okB_sc (held := held ++ nPs bx n) (funs := funs + 1) (ifs := ifs) h (fun x hx => List.mem_append.mpr ((List.mem_append.mp hx).imp (hs x) id)) (by omega) (by omega)
    simp only [scR, okN_ok (show funs + 1 ≤ 3 by omega) (show ifs ≤ 6 by omega), this, Bool.and_self]
theorem okB_sc {sc held : List Str} {bx dp mo st funs ifs : Nat} : ∀ {b : Bd} {bx' : Nat}, okB sc bx dp mo st b bx' → (∀ x ∈ sc, x ∈ held) → funs + dp ≤ 3 → ifs + mo + dp ≤ 6 → scG tops held funs ifs b = true
  | .give a, _, h, hs, hf, hi => by
    simp only [okB] at h
    simp only [scG, seeL, List.all_cons, List.all_nil, seeA_ok hs h.2, Bool.and_self]
  | .tail f xs, _, h, hs, hf, hi => by
    simp only [okB] at h
    obtain ⟨_, hf, a, rfl, ha⟩ := h
    simp only [scG, seeL, List.all_cons, List.all_nil, seeF_ok hg hh hs hf, seeA_ok hs ha, Bool.and_self]
  | .cond a b c, _, h, hs, hf, hi => by
    simp only [okB] at h
    obtain ⟨ha, mq, b1, rfl, h1, h2⟩ := h
    simp only [scG, seeL, List.all_cons, List.all_nil, seeA_ok hs ha, okN_ok (show funs ≤ 3 by omega) (show ifs + 1 ≤ 6 by omega), okB_sc (ifs := ifs + 1) h1 hs hf (by omega), okB_sc (ifs := ifs + 1) h2 hs hf (by omega), Bool.and_self]
  | .lets x r rest, _, h, hs, hf, hi => by
    simp only [okB] at h
    obtain ⟨sq, b1, rfl, h1, rfl, h2⟩ := h
    obtain ⟨q1, q2⟩ := okR_sc h1 hs hf (show ifs + dp ≤ 6 by omega)
    simp only [scG, q1, q2, okB_sc (held := held ++ [nN (b1 + 1)]) h2 (fun y hy => List.mem_append.mpr ((List.mem_append.mp hy).imp (hs y) id)) hf hi, Bool.and_self]
  | .says a rest, _, h, hs, hf, hi => by
    simp only [okB] at h
    obtain ⟨sq, rfl, ha, h2⟩ := h
    simp only [scG, seeL, List.all_cons, List.all_nil, seeA_ok hs ha, okB_sc h2 hs hf hi, Bool.and_self]
end
end
end PK

set_option maxHeartbeats 4000000
namespace PK
open PySem L2 Evl DL PJ PG TL
/-! ### sizes of data of good form -/
theorem nmS_len {x : Str} (h : nmS x = true) : x.length ≤ 8 := by
  unfold nmS at h
  simp only [Bool.and_eq_true, decide_eq_true_eq] at h
  exact h.1.1.1.2
theorem nmS_chars {x : Str} (h : nmS x = true) : ∀ c ∈ tl x, c ≤ 122 := by
  unfold nmS at h
  simp only [Bool.and_eq_true] at h
  intro c hc
  have h1 := List.all_eq_true.mp h.2 c hc
  simp only [Bool.or_eq_true, inS, decide_eq_true_eq] at h1
  have a1 : ∀ c ∈ ltrs.cps.toList, c ≤ 122 := by decide +kernel
  have a2 : ∀ c ∈ figs.cps.toList, c ≤ 122 := by decide +kernel
  rcases h1 with h1 | h1
  · exact a1 c h1
  · exact a2 c h1
theorem nmS_ok {x : Str} (h : nmS x = true) : PyData.strOk x = true := by
  unfold PyData.strOk
  rw [← Array.all_toList]
  exact List.all_eq_true.mpr fun c hc => decide_eq_true (by have := nmS_chars h c hc; omega)
/-- small: layable, so deep, so heavy -/
structure Sm3 (n k : Nat) (d : PyData) : Prop where
  lay : d.canLay0 = true
  dep : d.depth ≤ n
  wt : wt d ≤ k
structure SmL (n k : Nat) (l : List PyData) : Prop where
  lay : PyData.canLayAll0 l = true
  dep : PyData.depthAll l ≤ n
  wt : wts l ≤ k
theorem Sm3.mono {n k n' k' : Nat} {d : PyData} (h : Sm3 n k d) (h1 : n ≤ n') (h2 : k ≤ k') : Sm3 n' k' d := ⟨h.lay, Nat.le_trans h.dep h1, Nat.le_trans h.wt h2⟩
theorem SmL.mono {n k n' k' : Nat} {d : List PyData} (h : SmL n k d) (h1 : n ≤ n') (h2 : k ≤ k') : SmL n' k' d := ⟨h.lay, Nat.le_trans h.dep h1, Nat.le_trans h.wt h2⟩
theorem sml_nil {n : Nat} : SmL n 0 [] := ⟨rfl, Nat.zero_le _, Nat.le_refl _⟩
theorem sml_cons {n k m : Nat} {d : PyData} {l : List PyData} (h : Sm3 n k d) (hl : SmL n m l) : SmL n (k + m) (d :: l) := by
  refine ⟨?_, ?_, ?_⟩
  · simp only [PyData.canLayAll0, h.lay, hl.lay, Bool.and_self]
  · simp only [PyData.depthAll]
    exact Nat.max_le.mpr ⟨h.dep, hl.dep⟩
  · have := h.wt
    have := hl.wt
    simp only [wts]
    omega
theorem sml_app {n k m : Nat} : ∀ {a l : List PyData}, SmL n k a → SmL n m l → SmL n (k + m) (a ++ l)
  | [], l, h, hl => hl.mono (Nat.le_refl _) (by omega)
  | d :: r, l, h, hl => by
    have hd : d.canLay0 = true ∧ PyData.canLayAll0 r = true := by simpa [PyData.canLayAll0] using h.lay
    have hp := h.dep
    have hw := h.wt
    simp only [PyData.depthAll] at hp
    simp only [wts] at hw
    have h1 : Sm3 n (wt d) d := ⟨hd.1, by omega, Nat.le_refl _⟩
    have h2 : SmL n (k - wt d) r := ⟨hd.2, by omega, by omega⟩
    exact (sml_cons h1 (sml_app h2 hl)).mono (Nat.le_refl _) (by omega)
theorem SmL.mem {n k : Nat} {l : List PyData} (h : SmL n k l) {d : PyData} (hd : d ∈ l) : Sm3 n k d := ⟨lay_mem h.lay hd, Nat.le_trans (dep_mem hd) h.dep, Nat.le_trans (wts_mem hd) h.wt⟩
theorem SmL.sub {n k : Nat} {l l' : List PyData} (h : SmL n k l) (s : l'.Sublist l) : SmL n k l' := by
  induction s generalizing k with
  | slnil => exact h
  | cons d s ih =>
    refine ih ⟨?_, ?_, ?_⟩
    · have := h.lay
      simp only [PyData.canLayAll0, Bool.and_eq_true] at this
      exact this.2
    · have := h.dep
      simp only [PyData.depthAll] at this
      omega
    · have := h.wt
      simp only [wts] at this
      omega
  | cons_cons d s ih =>
    have hl := h.lay
    have hp := h.dep
    have hw := h.wt
    simp only [PyData.canLayAll0, Bool.and_eq_true] at hl
    simp only [PyData.depthAll] at hp
    simp only [wts] at hw
    have h2 := ih (k := k - PJ.wt d) ⟨hl.2, by omega, by omega⟩
    exact (sml_cons (k := PJ.wt d) ⟨hl.1, by omega, Nat.le_refl _⟩ h2).mono (Nat.le_refl _) (by omega)
theorem sm_tup {n k : Nat} {l : List PyData} (h : SmL n k l) : Sm3 (n + 1) (k + 1) (.tuple l) := ⟨h.lay, Nat.succ_le_succ h.dep, Nat.succ_le_succ h.wt⟩
theorem sm_lst {n k : Nat} {l : List PyData} (h : SmL n k l) : Sm3 (n + 1) (k + 1) (.list l) := ⟨h.lay, Nat.succ_le_succ h.dep, Nat.succ_le_succ h.wt⟩
theorem sm_nm {n : Nat} {x : Str} (h : nmS x = true) : Sm3 n 9 (.str x) := ⟨nmS_ok h, Nat.zero_le _, by have := nmS_len h; simp only [PJ.wt]; omega⟩
theorem sm_int {n : Nat} (i : Int) : Sm3 n 1 (.int i) := ⟨rfl, Nat.zero_le _, Nat.le_refl _⟩
theorem sm_at {n : Nat} : ∀ {a : At}, atD a.enc = true → Sm3 n 9 a.enc
  | .num i, _ => (sm_int i).mono (Nat.le_refl _) (by decide)
  | .nm x, h => by
    have : nmS x = true := by
      have h' : (numD (.str x) 0 2147483647 || nmS x) = true := h
      simpa [numD] using h'
    exact sm_nm this
theorem sm_ats {n : Nat} : ∀ {xs : List At}, xs.length ≤ 4 → (∀ a ∈ xs, atD a.enc = true) → SmL n (9 * xs.length) (xs.map At.enc)
  | [], _, _ => sml_nil
  | a :: r, h, ha => by
    have := sml_cons (sm_at (n := n) (ha a (by simp))) (sm_ats (n := n) (xs := r) (by simp at h; omega) fun y hy => ha y (List.mem_cons_of_mem _ hy))
    exact this.mono (Nat.le_refl _) (by simp only [List.length_cons]; omega)
theorem ats_of {xs : List At} (h : atsD (.tuple (xs.map At.enc)) = true) : xs.length ≤ 4 ∧ ∀ a ∈ xs, atD a.enc = true := by
  have h' : (decide ((xs.map At.enc).length ≤ 4) && (xs.map At.enc).all atD) = true := h
  simp only [Bool.and_eq_true, decide_eq_true_eq, List.length_map] at h'
  exact ⟨h'.1, fun a ha => List.all_eq_true.mp h'.2 _ (List.mem_map.mpr ⟨a, ha, rfl⟩)⟩
theorem par_of {ps : List Str} (h : parD (.tuple (ps.map PyData.str)) = true) : ps.length ≤ 4 ∧ NmL ps ∧ ps.Nodup := by
  have h' : (decide ((ps.map PyData.str).length ≤ 4) && ((ps.map PyData.str).all nmD && decide ((ps.map PyData.str).map strOf).Nodup)) = true := h
  rw [str_back] at h'
  simp only [Bool.and_eq_true, decide_eq_true_eq, List.length_map] at h'
  exact ⟨h'.1, fun x hx => List.all_eq_true.mp h'.2.1 _ (List.mem_map.mpr ⟨x, hx, rfl⟩), h'.2.2⟩
theorem sm_pars {n : Nat} : ∀ {ps : List Str}, NmL ps → SmL n (9 * ps.length) (ps.map PyData.str)
  | [], _ => sml_nil
  | p :: r, h => by
    have := sml_cons (sm_nm (n := n) (h p (by simp))) (sm_pars (n := n) (ps := r) fun y hy => h y (List.mem_cons_of_mem _ hy))
    exact this.mono (Nat.le_refl _) (by simp only [List.length_cons]; omega)
theorem sm_word {n : Nat} {w : Str} (h : (PyData.strOk w && decide (w.length ≤ 6)) = true) : Sm3 n 7 (.str w) := by
  simp only [Bool.and_eq_true, decide_eq_true_eq] at h
  exact ⟨h.1, Nat.zero_le _, by simp only [PJ.wt]; omega⟩
theorem two_word {w : Str} (h : (opsL.contains w || decide (w = "pair")) = true) : (PyData.strOk w && decide (w.length ≤ 6)) = true := by
  have all : ∀ w ∈ opsL ++ [("pair" : Str)], (PyData.strOk w && decide (w.length ≤ 6)) = true := by decide +kernel
  refine all w ?_
  simpa using h
theorem one_word {w : Str} (h : oneD.contains w = true) : (PyData.strOk w && decide (w.length ≤ 6)) = true := by
  have all : ∀ w ∈ oneD, (PyData.strOk w && decide (w.length ≤ 6)) = true := by decide +kernel
  exact all w (by simpa using h)
mutual
theorem gdR_sm : ∀ {r : Rt}, gdR r = true → Sm3 (2 + 3 * r.deep) (60 + 100 * r.size) r.enc
  | .two w a b, h => by
    simp only [gdR, Bool.and_eq_true] at h
    exact (sm_tup (n := 0) (sml_cons (sm_word (two_word h.1)) (sml_cons (sm_at h.2.1) (sml_cons (sm_at h.2.2) sml_nil)))).mono (by omega) (by omega)
  | .one w a, h => by
    simp only [gdR, Bool.and_eq_true] at h
    exact (sm_tup (n := 0) (sml_cons (sm_word (one_word h.1)) (sml_cons (sm_at h.2) sml_nil))).mono (by omega) (by omega)
  | .call f xs, h => by
    simp only [gdR, Bool.and_eq_true] at h
    obtain ⟨hl, ha⟩ := ats_of h.2
    exact (sm_tup (n := 1) (sml_cons (sm_word (by decide +kernel)) (sml_cons (sm_at h.1) (sml_cons (sm_tup (n := 0) (sm_ats hl ha)) sml_nil)))).mono (by omega) (by omega)
  | .fn ps b, h => by
    simp only [gdR, Bool.and_eq_true] at h
    obtain ⟨hl, hn, _⟩ := par_of h.1
    have hb := gdB_sm h.2
    simp only [Rt.deep, Rt.size]
    have hp := b.deep_pos
    exact (sm_tup (n := 3 * b.deep + 1) (sml_cons (sm_word (by decide +kernel)) (sml_cons ((sm_tup (n := 0) (sm_pars hn)).mono (by omega) (Nat.le_refl _)) (sml_cons (sm_tup hb) sml_nil)))).mono (by omega) (by omega)
theorem gdB_sm : ∀ {b : Bd}, gdB b = true → SmL (3 * b.deep) (100 * b.size) b.encs
  | .give a, h => by
    simp only [gdB] at h
    simp only [Bd.deep, Bd.size]
    exact (sml_cons ((sm_tup (n := 0) (sml_cons (sm_word (by decide +kernel)) (sml_cons (sm_at h) sml_nil))).mono (by omega) (Nat.le_refl _)) sml_nil).mono (Nat.le_refl _) (by omega)
  | .tail f xs, h => by
    simp only [gdB, Bool.and_eq_true] at h
    obtain ⟨hl, ha⟩ := ats_of h.2
    simp only [Bd.deep, Bd.size]
    exact (sml_cons ((sm_tup (n := 1) (sml_cons (sm_word (by decide +kernel)) (sml_cons (sm_at h.1) (sml_cons (sm_tup (n := 0) (sm_ats hl ha)) sml_nil)))).mono (by omega) (Nat.le_refl _)) sml_nil).mono (Nat.le_refl _) (by omega)
  | .cond a b c, h => by
    simp only [gdB, Bool.and_eq_true] at h
    have h1 := gdB_sm h.2.1
    have h2 := gdB_sm h.2.2
    simp only [Bd.deep, Bd.size]
    exact (sml_cons ((sm_tup (n := 3 * max b.deep c.deep + 1) (sml_cons (sm_word (by decide +kernel)) (sml_cons (sm_at h.1) (sml_cons ((sm_tup h1).mono (by omega) (Nat.le_refl _)) (sml_cons ((sm_tup h2).mono (by omega) (Nat.le_refl _)) sml_nil))))).mono (by omega) (Nat.le_refl _)) sml_nil).mono (Nat.le_refl _) (by omega)
  | .lets x r rest, h => by
    simp only [gdB, Bool.and_eq_true] at h
    have h1 := gdR_sm h.2.1
    have h2 := gdB_sm h.2.2
    simp only [Bd.deep, Bd.size]
    exact (sml_cons ((sm_tup (n := 2 + 3 * r.deep) (sml_cons (sm_word (by decide +kernel)) (sml_cons (sm_nm h.1) (sml_cons h1 sml_nil)))).mono (by omega) (Nat.le_refl _)) (h2.mono (by omega) (Nat.le_refl _))).mono (Nat.le_refl _) (by omega)
  | .says a rest, h => by
    simp only [gdB, Bool.and_eq_true] at h
    have h2 := gdB_sm h.2
    have hp := rest.deep_pos
    simp only [Bd.deep, Bd.size]
    exact (sml_cons ((sm_tup (n := 0) (sml_cons (sm_word (by decide +kernel)) (sml_cons (sm_at h.1) sml_nil))).mono (by omega) (Nat.le_refl _)) h2).mono (Nat.le_refl _) (by omega)
end
theorem okd_of {l : List PyData} (h : SmL 63 999999 l) : okd (.tuple l) = true := okd_iff.mpr ⟨h.lay, Nat.succ_le_succ h.dep, Nat.succ_le_succ h.wt⟩
theorem okd_sm {d : PyData} (h : Sm3 64 1000000 d) : okd d = true := okd_iff.mpr ⟨h.lay, h.dep, h.wt⟩
/-! ### what is drawn is right -/
theorem scG_mono {t1 t2 : List Str} (ht : ∀ x ∈ t1, x ∈ t2) : ∀ k : Nat, (∀ (b : Bd) held funs ifs, b.size ≤ k → scG t1 held funs ifs b = true → scG t2 held funs ifs b = true) := by
  have sA : ∀ held a, seeA t1 held a = true → seeA t2 held a = true := by
    intro held a h
    cases a with
    | num n => rfl
    | nm x =>
      have h' : (held.contains x || t1.contains x) = true := h
      show (held.contains x || t2.contains x) = true
      simp only [Bool.or_eq_true, List.contains_iff_mem] at h' ⊢
      exact h'.imp id (ht x)
  have sL : ∀ held as, seeL t1 held as = true → seeL t2 held as = true := fun held as h => List.all_eq_true.mpr fun a ha => sA held a (List.all_eq_true.mp h a ha)
  intro k
  induction k with
  | zero => intro b _ _ _ hb; have := b.encs_len; omega
  | succ k ih =>
    intro b held funs ifs hb h
    cases b with
    | give a => exact sL _ _ h
    | tail f xs => exact sL _ _ h
    | cond a b c =>
      simp only [Bd.size] at hb
      simp only [scG, Bool.and_eq_true] at h ⊢
      exact ⟨sL _ _ h.1, ⟨h.2.1.1, ih b _ _ _ (by omega) h.2.1.2⟩, h.2.2.1, ih c _ _ _ (by omega) h.2.2.2⟩
    | lets x r rest =>
      simp only [Bd.size] at hb
      simp only [scG, Bool.and_eq_true] at h ⊢
      refine ⟨sL _ _ h.1, ?_, ih rest _ _ _ (by omega) h.2.2⟩
      cases r with
      | fn ps b =>
        simp only [Rt.size] at hb
        have h2 := h.2.1
        simp only [scR, Bool.and_eq_true] at h2 ⊢
        exact ⟨h2.1, ih b _ _ _ (by omega) h2.2⟩
      | _ => rfl
    | says a rest =>
      simp only [Bd.size] at hb
      simp only [scG, Bool.and_eq_true] at h ⊢
      exact ⟨sL _ _ h.1, ih rest _ _ _ (by omega) h.2⟩
/-- names that are none of a body's -/
def farL : List Str := ["g", "h", "main", "zz", "a9"]
structure BodyOk (ps : List Str) (b : Bd) : Prop where
  gd : gdB b = true
  dp : b.deep ≤ 7
  nd : (ps ++ bnB b).Nodup
  nt : ∀ x ∈ ps ++ bnB b, x ∉ farL
  sc : ∀ tops, (Str.ofString "g") ∈ tops → (Str.ofString "h") ∈ tops → scB tops ps 0 0 b = true
def plainNm (x : Str) : Bool := match tl x with
  | c :: d :: _ => !((c == 110 || c == 112) && decide (d ≤ 57))
  | _ => true
theorem Kd.not {lo hi : Nat} {x : Str} (h : Kd lo hi x) : plainNm x = false := by
  obtain ⟨c, d, r, e, hc, hd⟩ := h.head
  unfold plainNm
  rw [e]
  rcases hc with rfl | rfl <;> simp [hd]
theorem body_const {ps : List Str} {b : Bd} (h : (gdB b && (decide (b.deep ≤ 7) && (decide (ps ++ bnB b).Nodup && ((ps ++ bnB b).all (fun x => !farL.contains x) && scB [Str.ofString "g", Str.ofString "h"] ps 0 0 b)))) = true) : BodyOk ps b := by
  simp only [Bool.and_eq_true, decide_eq_true_eq] at h
  obtain ⟨h1, h2, h3, h4, h5⟩ := h
  refine ⟨h1, h2, h3, fun x hx => ?_, fun tops hg hh => ?_⟩
  · have := List.all_eq_true.mp h4 x hx
    simpa using this
  · unfold scB at h5 ⊢
    rw [Bool.and_eq_true] at h5 ⊢
    exact ⟨h5.1, scG_mono (fun x hx => by
      simp only [List.mem_cons, List.not_mem_nil, or_false] at hx
      rcases hx with rfl | rfl
      · exact hg
      · exact hh) b.size b _ _ _ (Nat.le_refl _) h5.2⟩
theorem body_drawn {ps : List Str} {b : Bd} {n n' mo : Nat} (hp : NmL ps) (hd : ps.Nodup) (hpp : ∀ x ∈ ps, plainNm x = true ∧ x ∉ farL) (hm : mo ≤ 2) (h : okB ps n 2 mo 4 b n') (hn : n' ≤ 1000000) : BodyOk ps b := by
  obtain ⟨k1, k2⟩ := okB_kd h
  refine ⟨okB_gd h hn hp, by have := okB_deep h; omega, List.nodup_append.mpr ⟨hd, k1, fun x hx y hy e => ?_⟩, fun x hx => ?_, fun tops hg hh => ?_⟩
  · have h1 := (hpp x hx).1
    have h2 := (k2 y hy).not
    rw [e, h2] at h1
    cases h1
  · rcases List.mem_append.mp hx with hx | hx
    · exact (hpp x hx).2
    · intro hf
      have all : ∀ y ∈ farL, plainNm y = true := by decide +kernel
      have h1 := all x hf
      rw [(k2 x hx).not] at h1
      cases h1
  · unfold scB
    rw [Bool.and_eq_true]
    exact ⟨okN_ok (by decide) (by decide), okB_sc hg hh h (fun x hx => hx) (by decide) (by omega)⟩
theorem okT_body {ps : List Str} {b : Bd} (h : okT ps b) (hp : ps = [Str.ofString "a"] ∨ ps = [Str.ofString "b", Str.ofString "c"] ∨ ps = [Str.ofString "m"]) : BodyOk ps b := by
  cases h with
  | drawn hm h hn =>
    have pc : ∀ q : List Str, (q.all nmS && (decide q.Nodup && q.all fun x => plainNm x && !farL.contains x)) = true → NmL q ∧ q.Nodup ∧ ∀ x ∈ q, plainNm x = true ∧ x ∉ farL := by
      intro q hq
      simp only [Bool.and_eq_true, decide_eq_true_eq, List.all_eq_true] at hq
      exact ⟨hq.1, hq.2.1, fun x hx => ⟨(hq.2.2 x hx).1, by simpa using (hq.2.2 x hx).2⟩⟩
    have h3 : NmL ps ∧ ps.Nodup ∧ ∀ x ∈ ps, plainNm x = true ∧ x ∉ farL := by
      rcases hp with rfl | rfl | rfl
      · exact pc _ (by decide +kernel)
      · exact pc _ (by decide +kernel)
      · exact pc _ (by decide +kernel)
    exact body_drawn h3.1 h3.2.1 h3.2.2 hm h hn
  | loop => exact body_const (by decide +kernel)
  | m => exact body_const (by decide +kernel)
  | g => exact body_const (by decide +kernel)
  | h => exact body_const (by decide +kernel)
end PK

set_option maxHeartbeats 4000000
namespace PK
open PySem L2 Evl DL PJ PG TL
theorem le_sum : ∀ {l : List Nat} {n : Nat}, n ∈ l → n ≤ l.sum
  | m :: r, n, h => by
    rw [List.sum_cons]
    rcases List.mem_cons.mp h with rfl | h
    · omega
    · have := le_sum h
      omega
def topsN : List Str := ["g", "h", "main"]
structure ProgOk (tops : List Tp3) : Prop where
  nm : List.Perm (tops.map (·.1)) topsN
  ps : ∀ t ∈ tops, t.2.1.length ≤ 4 ∧ NmL t.2.1
  bd : ∀ t ∈ tops, BodyOk t.2.1 t.2.2
  sz : (tops.map fun t => t.2.2.size).sum ≤ 90
theorem prog_ok {tops : List Top} (h : okProg tops) : ProgOk tops := by
  obtain ⟨g, h0, m, pm, og, oh, om, hz⟩ := h
  have all : ∀ t ∈ tops, t = (Str.ofString "g", [Str.ofString "a"], g) ∨ t = (Str.ofString "h", [Str.ofString "b", Str.ofString "c"], h0) ∨ t = (Str.ofString "main", [Str.ofString "m"], m) := fun t ht => by
    have := pm.mem_iff.mp ht
    simpa using this
  refine ⟨pm.map (·.1), fun t ht => ?_, fun t ht => ?_, ?_⟩
  · have pc : ∀ q : List Str, (decide (q.length ≤ 4) && q.all nmS) = true → q.length ≤ 4 ∧ NmL q := fun q hq => by
      simp only [Bool.and_eq_true, decide_eq_true_eq, List.all_eq_true] at hq
      exact hq
    rcases all t ht with rfl | rfl | rfl
    · exact pc [Str.ofString "a"] (by decide +kernel)
    · exact pc [Str.ofString "b", Str.ofString "c"] (by decide +kernel)
    · exact pc [Str.ofString "m"] (by decide +kernel)
  · rcases all t ht with rfl | rfl | rfl
    · exact okT_body og (.inl rfl)
    · exact okT_body oh (.inr (.inl rfl))
    · exact okT_body om (.inr (.inr rfl))
  · have := (pm.map fun t => t.2.2.size).sum_nat
    rw [this]
    simp only [List.map_cons, List.map_nil, List.sum_cons, List.sum_nil]
    omega
section
variable {tops : List Tp3} (h : ProgOk tops)
include h
theorem ProgOk.len : tops.length = 3 := by
  have := h.nm.length_eq
  rw [List.length_map] at this
  exact this
theorem ProgOk.names {t : Tp3} (ht : t ∈ tops) : t.1 ∈ topsN := h.nm.mem_iff.mp (List.mem_map.mpr ⟨t, ht, rfl⟩)
theorem ProgOk.has {x : Str} (hx : x ∈ topsN) : x ∈ tops.map (·.1) := h.nm.mem_iff.mpr hx
theorem ProgOk.nmOk {t : Tp3} (ht : t ∈ tops) : nmS t.1 = true := by
  have all : ∀ x ∈ topsN, nmS x = true := by decide +kernel
  exact all _ (h.names ht)
theorem ProgOk.top {t : Tp3} (ht : t ∈ tops) : topD (pEnc t) = true := by
  have B := h.bd t ht
  have hp := h.ps t ht
  unfold pEnc
  rw [top3, gd_bo B.gd (by have := B.dp; omega), par_ok hp.1 hp.2 (List.nodup_append.mp B.nd).1]
  show (nmS t.1 && _) = true
  rw [h.nmOk ht]
  rfl
theorem ProgOk.form : formD (.tuple (tops.map pEnc)) = true := by
  show (decide (1 ≤ (tops.map pEnc).length) && (decide ((tops.map pEnc).length ≤ 8) && (tops.map pEnc).all topD)) = true
  rw [List.length_map, h.len]
  show ((tops.map pEnc).all topD) = true
  exact List.all_eq_true.mpr fun d hd => by
    obtain ⟨t, ht, rfl⟩ := List.mem_map.mp hd
    exact h.top ht
theorem ProgOk.size {t : Tp3} (ht : t ∈ tops) : t.2.2.size ≤ 90 := Nat.le_trans (le_sum (List.mem_map.mpr ⟨t, ht, rfl⟩)) h.sz
theorem ProgOk.sm {t : Tp3} (ht : t ∈ tops) : Sm3 24 10000 (pEnc t) := by
  have B := h.bd t ht
  have hp := h.ps t ht
  have hz := h.size ht
  have hd := B.dp
  have hb := (gdB_sm B.gd).mono (n' := 21) (k' := 9000) (by omega) (by omega)
  exact (sm_tup (n := 22) (sml_cons (sm_nm (h.nmOk ht)) (sml_cons ((sm_tup (n := 0) (sm_pars hp.2)).mono (by omega) (Nat.le_refl _)) (sml_cons (sm_tup hb) sml_nil)))).mono (by omega) (by omega)
theorem ProgOk.okTp {t : Tp3} (ht : t ∈ tops) : okTp t := ⟨(gd_sh (n := 0)).2 _ (h.bd t ht).gd, by have := (h.bd t ht).dp; omega⟩
theorem ProgOk.rightT {t : Tp3} (ht : t ∈ tops) : PJ.rightT (tops.map (·.1)) t = true := by
  have B := h.bd t ht
  unfold PJ.rightT namesT
  rw [decide_eq_true B.nd, B.sc _ (h.has (by decide +kernel)) (h.has (by decide +kernel))]
  have : ((t.2.1 ++ bnB t.2.2).any (tops.map (·.1)).contains) = false := by
    rw [List.any_eq_false]
    intro x hx hc
    have hm : x ∈ tops.map (·.1) := by simpa using hc
    have hm := h.nm.mem_iff.mp hm
    have hn := B.nt x hx
    have all : ∀ y ∈ topsN, y ∈ farL := by decide +kernel
    exact hn (all x hm)
  rw [this]
  rfl
theorem ProgOk.right : rightP tops = true := by
  have nd : topsN.Nodup := by decide +kernel
  have hz := h.sz
  unfold rightP
  rw [decide_eq_true (h.nm.nodup_iff.mpr nd), decide_eq_true (show (tops.map fun t => t.2.2.size).sum ≤ 120 by omega), List.contains_iff_mem.mpr (h.has (by decide +kernel))]
  show (tops.all _) = true
  exact List.all_eq_true.mpr fun t ht => h.rightT ht
end
theorem sml_all {n k : Nat} : ∀ {l : List PyData}, (∀ d ∈ l, Sm3 n k d) → SmL n (k * l.length) l
  | [], _ => by simpa using sml_nil
  | d :: r, h => by
    have := sml_cons (h d (by simp)) (sml_all (l := r) fun x hx => h x (List.mem_cons_of_mem _ hx))
    rw [List.length_cons, Nat.mul_succ, Nat.add_comm]
    exact this
theorem okd_all {l : List PyData} (h : ∀ d ∈ l, Sm3 50 20000 d) (hl : l.length ≤ 20) : okd (.tuple l) = true :=
  okd_of ((sml_all h).mono (by decide) (by omega))
theorem ProgOk.okd {tops : List Tp3} (h : ProgOk tops) : PJ.okd (.tuple (tops.map pEnc)) = true := okd_all (fun d hd => by
  obtain ⟨t, ht, rfl⟩ := List.mem_map.mp hd
  exact (h.sm ht).mono (by decide) (by decide)) (by rw [List.length_map, h.len]; decide)
/-! ### what is not right -/
def NR (d : PyData) : Prop := ∀ ts : List Tp3, d = .tuple (ts.map pEnc) → formD d = true → rightP ts = false
def nameD : PyData → Str
  | .tuple (.str x :: _) => x
  | _ => ""
theorem names_of {ts : List Tp3} {l : List PyData} (e : (.tuple l : PyData) = .tuple (ts.map pEnc)) : ts.map (·.1) = l.map nameD := by
  injection e with e
  subst e
  rw [List.map_map]
  rfl
theorem nr_top {l : List PyData} {d : PyData} (hd : d ∈ l) (h : topD d = false) : NR (.tuple l) := fun ts e hf => by
  have hf' : (decide (1 ≤ l.length) && (decide (l.length ≤ 8) && l.all topD)) = true := hf
  simp only [Bool.and_eq_true] at hf'
  have := List.all_eq_true.mp hf'.2.2 d hd
  rw [h] at this
  cases this
theorem topD_of {l : List PyData} {d : PyData} (hd : d ∈ l) (hf : formD (.tuple l) = true) : topD d = true := by
  have hf' : (decide (1 ≤ l.length) && (decide (l.length ≤ 8) && l.all topD)) = true := hf
  simp only [Bool.and_eq_true] at hf'
  exact List.all_eq_true.mp hf'.2.2 d hd
theorem nr_names {l : List PyData} (h : ¬ (l.map nameD).Nodup) : NR (.tuple l) := fun ts e hf => by
  unfold rightP
  rw [names_of e, decide_eq_false h]
  rfl
theorem nr_main {l : List PyData} (h : (Str.ofString "main") ∉ l.map nameD) : NR (.tuple l) := fun ts e hf => by
  have hc : (l.map nameD).contains (Str.ofString "main") = false := by
    cases q : (l.map nameD).contains (Str.ofString "main") with
    | false => rfl
    | true => exact absurd (List.contains_iff_mem.mp q) h
  unfold rightP
  rw [names_of e, hc]
  simp
theorem nr_T {l : List PyData} {d : PyData} (hd : d ∈ l) (h : ∀ t : Tp3, pEnc t = d → formD (.tuple l) = true → rightT (l.map nameD) t = false) : NR (.tuple l) := fun ts e hf => by
  have en := names_of e
  injection e with e'
  rw [e'] at hd
  obtain ⟨t, ht, he⟩ := List.mem_map.mp hd
  have h1 := h t he hf
  have h2 : ts.all (rightT (ts.map (·.1))) = false := by
    rw [List.all_eq_false]
    refine ⟨t, ht, ?_⟩
    rw [en, h1]
    decide
  unfold rightP
  rw [h2]
  simp
end PK

set_option maxHeartbeats 4000000
namespace PK
open PySem L2 Evl DL PJ PG TL K4
theorem nr_right {d : PyData} (h : NR d) : RightV d false := by
  cases hf : formD d with
  | false => exact .inl ⟨hf, rfl⟩
  | true =>
    cases d with
    | tuple l =>
      have hf' : (decide (1 ≤ l.length) && (decide (l.length ≤ 8) && l.all topD)) = true := hf
      simp only [Bool.and_eq_true] at hf'
      obtain ⟨ts, rfl, hok⟩ := tops_typed hf'.2.2
      exact .inr ⟨ts, rfl, hf, hok, (h ts rfl hf).symm⟩
    | _ => cases hf
theorem ProgOk.rightV {tops : List Tp3} (h : ProgOk tops) : RightV (.tuple (tops.map pEnc)) true := .inr ⟨tops, rfl, h.form, fun t ht => h.okTp ht, h.right.symm⟩
/-! ### a wrong statement in a body -/
def topW (t : Tp3) (i : Nat) (w : PyData) : PyData := .tuple [.str t.1, .tuple (t.2.1.map PyData.str), .tuple ((t.2.2.encs.take i ++ [w]) ++ t.2.2.encs.drop i)]
def othW (tops : List Tp3) (n : Nat) (t : Tp3) (i : Nat) (w : PyData) : List PyData := (((tops.map pEnc).take n) ++ [topW t i w]) ++ (tops.map pEnc).drop (n + 1)
theorem la_midw : ∀ {a : List PyData} {w c : PyData} {r : List PyData}, laD (a ++ w :: c :: r) = true → stD w = true
  | [], w, c, r, h => by
    rw [List.nil_append, la_cons, Bool.and_eq_true] at h
    exact h.1
  | [s], w, c, r, h => by
    rw [List.singleton_append, la_cons, Bool.and_eq_true] at h
    exact la_midw (a := []) h.2
  | s :: t :: a, w, c, r, h => by
    rw [List.cons_append, List.cons_append, la_cons, Bool.and_eq_true] at h
    exact la_midw (a := t :: a) h.2
def ownD : PyData → List Str
  | .tuple [.str w, .str x, _] => if w = "let" then [x] else []
  | _ => []
theorem ownD_enc (s : Sx) : ownD s.enc = ownS s := by
  cases s with
  | lets x r => rfl
  | says a => cases a <;> rfl
  | give a => cases a <;> rfl
  | tail f xs => cases f <;> rfl
  | cond a b c => cases a <;> rfl
theorem own_sub : ∀ (b : Bd) (x : Str), x ∈ (smsB b).flatMap ownS → x ∈ bnB b
  | .give a, x, h => by simp [smsB, ownS] at h
  | .tail f xs, x, h => by simp [smsB, ownS] at h
  | .cond a b c, x, h => by simp [smsB, ownS] at h
  | .lets y r rest, x, h => by
    rw [bnB_lets]
    simp only [smsB, List.flatMap_cons, ownS, List.mem_append, List.mem_singleton] at h
    rcases h with rfl | h
    · simp
    · have := own_sub rest x h
      simp [this]
  | .says a rest, x, h => by
    rw [bnB_says]
    simp only [smsB, List.flatMap_cons, ownS, List.nil_append] at h
    exact own_sub rest x h
theorem scF_mid {tops : List Str} {f i : Nat} : ∀ {S1 : List Sx} {held : List Str} {s : Sx} {S2 : List Sx}, scF tops f i held (S1 ++ s :: S2) = true → seeL tops (held ++ S1.flatMap ownS) (atsS s) = true ∧ subS tops (held ++ S1.flatMap ownS) f i s = true
  | [], held, s, S2, h => by
    simp only [List.nil_append, scF, Bool.and_eq_true] at h
    simp only [List.flatMap_nil, List.append_nil]
    exact ⟨h.1, h.2.1⟩
  | u :: S1, held, s, S2, h => by
    simp only [List.cons_append, scF, Bool.and_eq_true] at h
    have := scF_mid (held := held ++ ownS u) h.2.2
    simpa [List.flatMap_cons, List.append_assoc] using this
theorem bnd_in : ∀ {b : Bd} {s : Sx}, s ∈ smsB b → ∀ x ∈ bndS s, x ∈ bnB b
  | .give a, s, h, x, hx => by rw [List.mem_singleton.mp h] at hx; cases hx
  | .tail f xs, s, h, x, hx => by rw [List.mem_singleton.mp h] at hx; cases hx
  | .cond a b c, s, h, x, hx => by rw [List.mem_singleton.mp h] at hx; cases hx
  | .lets y r rest, s, h, x, hx => by
    rw [bnB_lets]
    simp only [smsB, List.mem_cons] at h
    rcases h with rfl | h
    · simp only [bndS, List.mem_cons] at hx
      rcases hx with rfl | hx
      · simp
      · simp [bnR, hx]
    · have := bnd_in h x hx
      simp [this]
  | .says a rest, s, h, x, hx => by
    rw [bnB_says]
    simp only [smsB, List.mem_cons] at h
    rcases h with rfl | h
    · cases hx
    · exact bnd_in h x hx
/-- why a statement is wrong: its form, the form of a body in it, what it names or binds -/
def BadS (w : PyData) : Prop := ∀ s : Sx, s.enc = w → (∃ x ∈ bndS s, x ∈ topsN) ∨ (∃ a ∈ atsS s, a = .nm "zz" ∨ a = .nm "a9") ∨ ∀ tops held f i, (Str.ofString "zz") ∉ tops → (Str.ofString "zz") ∉ held → subS tops held f i s = false
def Bad (w : PyData) : Prop := stD w = false ∨ ((inn w).any fun y => !laD (lisT y)) = true ∨ BadS w
theorem la_parts {t : Tp3} {i : Nat} {w : PyData} (hi : i < t.2.2.encs.length) : ∃ c r, (t.2.2.encs.take i ++ [w]) ++ t.2.2.encs.drop i = t.2.2.encs.take i ++ w :: c :: r := by
  cases e : t.2.2.encs.drop i with
  | nil =>
    have := congrArg List.length e
    rw [List.length_drop] at this
    simp only [List.length_nil] at this
    omega
  | cons c r => exact ⟨c, r, by simp⟩
theorem wrong_nr {tops : List Tp3} (h : ProgOk tops) {n i : Nat} {t : Tp3} {w : PyData} (ht : tops[n]? = some t) (hi : i < t.2.2.encs.length) (hw : Bad w) : NR (.tuple (othW tops n t i w)) := by
  have hm : topW t i w ∈ othW tops n t i w := by unfold othW; simp
  have htm : t ∈ tops := List.mem_of_getElem? ht
  have B := h.bd t htm
  have en : (othW tops n t i w).map nameD = tops.map (·.1) := by
    have hlt := (List.getElem?_eq_some_iff.mp ht).1
    have e1 : (tops.map pEnc).map nameD = tops.map (·.1) := by rw [List.map_map]; rfl
    unfold othW
    rw [List.map_append, List.map_append, List.map_take, List.map_drop, e1]
    show ((tops.map (·.1)).take n ++ [t.1]) ++ (tops.map (·.1)).drop (n + 1) = _
    have e2 : (tops.map (·.1))[n]? = some t.1 := by rw [List.getElem?_map, ht]; rfl
    obtain ⟨hl2, e2⟩ := List.getElem?_eq_some_iff.mp e2
    rw [← e2, ← List.take_succ_eq_append_getElem, List.take_append_drop]
  refine nr_T hm fun t' he hf => ?_
  rw [en]
  -- the form of the top
  have hT := topD_of hm hf
  unfold topW at hT
  rw [top3] at hT
  simp only [Bool.and_eq_true] at hT
  have hbo := hT.2.2
  have hla : laD ((t.2.2.encs.take i ++ [w]) ++ t.2.2.encs.drop i) = true ∧ ∀ y ∈ inn w, laD (lisT y) = true := by
    have h1 : (true && laysD 10 [.tuple ((t.2.2.encs.take i ++ [w]) ++ t.2.2.encs.drop i)]) = true := hbo
    rw [Bool.true_and, lays_succ, Bool.and_eq_true] at h1
    refine ⟨by simpa [lisT] using h1.1, fun y hy => ?_⟩
    have h2 := h1.2
    rw [lays_succ, Bool.and_eq_true] at h2
    refine List.all_eq_true.mp h2.1 y ?_
    unfold nextL
    simp only [List.flatMap_cons, List.flatMap_nil, List.append_nil, lisT, List.flatMap_append, List.mem_append]
    exact .inl (.inr hy)
  rcases hw with hw | hw | hw
  · obtain ⟨c, r, e⟩ := la_parts (w := w) hi
    rw [e] at hla
    rw [la_midw hla.1] at hw
    cases hw
  · obtain ⟨y, hy, hn⟩ := List.any_eq_true.mp hw
    rw [hla.2 y hy] at hn
    cases hn
  · -- what it names or binds
    unfold pEnc topW at he
    injection he with he
    injection he with e1 he
    injection he with e2 he
    injection he with e3 _
    injection e1 with e1
    injection e2 with e2
    injection e3 with e3
    have eps : t'.2.1 = t.2.1 := by
      have := congrArg (List.map strOf) e2
      rwa [str_back, str_back] at this
    rw [← smsB_encs] at e3
    obtain ⟨S12, S2', hs, h12, h2'⟩ := List.map_eq_append_iff.mp e3
    obtain ⟨S1, Sw, rfl, h1, hsw⟩ := List.map_eq_append_iff.mp h12
    obtain ⟨s, S0, rfl, hs1, hs0⟩ := List.map_eq_cons_iff.mp hsw
    obtain rfl := List.map_eq_nil_iff.mp hs0
    have hs' : smsB t'.2.2 = S1 ++ s :: S2' := by rw [hs]; simp
    have own1 : ∀ x ∈ S1.flatMap ownS, x ∈ bnB t.2.2 := fun x hx => by
      refine own_sub _ x ?_
      obtain ⟨u, hu, hx⟩ := List.mem_flatMap.mp hx
      have hu2 : u.enc ∈ t.2.2.encs := List.mem_of_mem_take (by rw [← h1]; exact List.mem_map.mpr ⟨u, hu, rfl⟩)
      rw [← smsB_encs] at hu2
      obtain ⟨u', hu', eu⟩ := List.mem_map.mp hu2
      rw [← ownD_enc, ← eu, ownD_enc] at hx
      exact List.mem_flatMap.mpr ⟨u', hu', hx⟩
    have far : ∀ x ∈ t'.2.1 ++ S1.flatMap ownS, x ∉ farL := fun x hx => B.nt x (by
      rw [eps] at hx
      exact List.mem_append.mpr ((List.mem_append.mp hx).imp id (own1 x)))
    have nin : ∀ x, x ∈ farL → x ∉ topsN → x ∉ t'.2.1 ++ S1.flatMap ownS ∧ x ∉ tops.map (·.1) := fun x hx hn => ⟨fun z => far x z hx, fun z => hn (h.nm.mem_iff.mp z)⟩
    cases hr : PJ.rightT (tops.map (·.1)) t' with
    | false => rfl
    | true =>
      exfalso
      unfold PJ.rightT at hr
      simp only [Bool.and_eq_true] at hr
      obtain ⟨_, hc, hsc⟩ := hr
      unfold scB at hsc
      rw [Bool.and_eq_true, ← scF_eq, hs'] at hsc
      obtain ⟨see, sub⟩ := scF_mid hsc.2
      rcases hw s hs1 with ⟨x, hx, hxt⟩ | ⟨a, ha, hz⟩ | hsub
      · have hmem : x ∈ namesT t' := List.mem_append.mpr (.inr (bnd_in (by rw [hs']; simp) x hx))
        have : (namesT t').any (tops.map (·.1)).contains = true := List.any_eq_true.mpr ⟨x, hmem, by simpa using h.has hxt⟩
        rw [this] at hc
        cases hc
      · have h1 := List.all_eq_true.mp see a ha
        have key : ∀ x, x ∈ farL → x ∉ topsN → a = .nm x → False := fun x hx hn e => by
          subst e
          obtain ⟨n1, n2⟩ := nin x hx hn
          have h1' : ((t'.2.1 ++ S1.flatMap ownS).contains x || (tops.map (·.1)).contains x) = true := h1
          simp only [Bool.or_eq_true, List.contains_iff_mem] at h1'
          exact h1'.elim n1 n2
        rcases hz with hz | hz
        · exact key _ (by decide +kernel) (by decide +kernel) hz
        · exact key _ (by decide +kernel) (by decide +kernel) hz
      · obtain ⟨n1, n2⟩ := nin "zz" (by decide +kernel) (by decide +kernel)
        rw [hsub _ _ _ _ n2 n1] at sub
        cases sub
end PK

set_option maxHeartbeats 4000000
namespace PK
open PySem L2 Evl DL PJ PG TL K4
/-! ### the wrong statements of the law are wrong -/
theorem at_str {a : At} {x : Str} (h : a.enc = .str x) : a = .nm x := by
  cases a with
  | num n => cases h
  | nm y => injection h with h; rw [h]
theorem at_tup {a : At} {l : List PyData} (h : a.enc = .tuple l) : False := by cases a <;> cases h
theorem enc_say {s : Sx} {d : PyData} (h : s.enc = .tuple [.str "say", d]) : ∃ a : At, s = .says a ∧ a.enc = d := by
  cases s with
  | says a => injection h with h; injection h with _ h; injection h with h _; exact ⟨a, rfl, h⟩
  | lets x r => injection h with h; injection h with _ h; injection h with _ h; cases h
  | give a => injection h with h; injection h with h _; injection h with h; exact absurd h (by decide +kernel)
  | tail f xs => injection h with h; injection h with _ h; injection h with _ h; cases h
  | cond a b c => injection h with h; injection h with _ h; injection h with _ h; cases h
theorem enc_let {s : Sx} {x d : PyData} (h : s.enc = .tuple [.str "let", x, d]) : ∃ (y : Str) (r : Rt), s = .lets y r ∧ x = .str y ∧ r.enc = d := by
  cases s with
  | says a => injection h with h; injection h with _ h; injection h with _ h; cases h
  | lets y r => injection h with h; injection h with _ h; injection h with h1 h; injection h with h2 _; exact ⟨y, r, rfl, h1.symm, h2⟩
  | give a => injection h with h; injection h with _ h; injection h with _ h; cases h
  | tail f xs => injection h with h; injection h with h _; injection h with h; exact absurd h (by decide +kernel)
  | cond a b c => injection h with h; injection h with _ h; injection h with _ h; injection h with _ h; cases h
theorem enc_one {r : Rt} {w : Str} {d : PyData} (h : r.enc = .tuple [.str w, d]) : ∃ a : At, r = .one w a ∧ a.enc = d := by
  cases r with
  | one v a => injection h with h; injection h with h1 h; injection h with h2 _; injection h1 with h1; exact ⟨a, by rw [h1], h2⟩
  | two v a b => injection h with h; injection h with _ h; injection h with _ h; cases h
  | call f xs => injection h with h; injection h with _ h; injection h with _ h; cases h
  | fn ps b => injection h with h; injection h with _ h; injection h with _ h; cases h
theorem enc_three {r : Rt} {w : Str} {d : PyData} {l : List PyData} (h : r.enc = .tuple [.str w, d, .tuple l]) : (∃ (f : At) (xs : List At), r = .call f xs ∧ f.enc = d) ∨ ∃ (ps : List Str) (b : Bd), r = .fn ps b ∧ (.tuple (ps.map PyData.str) : PyData) = d ∧ b.encs = l := by
  cases r with
  | one v a => injection h with h; injection h with _ h; injection h with _ h; cases h
  | two v a b => injection h with h; injection h with _ h; injection h with _ h; injection h with h _; exact (at_tup h).elim
  | call f xs => injection h with h; injection h with _ h; injection h with h _; exact .inl ⟨f, xs, rfl, h⟩
  | fn ps b => injection h with h; injection h with _ h; injection h with h1 h; injection h with h2 _; injection h2 with h2; exact .inr ⟨ps, b, rfl, h1, h2⟩
theorem par_one {ps : List Str} {x : Str} (h : (.tuple (ps.map PyData.str) : PyData) = .tuple [.str x]) : ps = [x] := by
  injection h with h
  have := congrArg (List.map strOf) h
  rw [str_back] at this
  exact this
theorem enc_giv {b : Bd} {x : Str} (h : b.encs = [.tuple [.str "give", .str x]]) : b = .give (.nm x) := by
  cases b with
  | give a => injection h with h _; injection h with h; injection h with _ h; injection h with h _; rw [at_str h]
  | tail f xs => injection h with h _; injection h with h; injection h with h _; injection h with h; exact absurd h (by decide +kernel)
  | cond a b c => injection h with h _; injection h with h; injection h with h _; injection h with h; exact absurd h (by decide +kernel)
  | lets y r rest => injection h with h _; injection h with h; injection h with h _; injection h with h; exact absurd h (by decide +kernel)
  | says a rest => injection h with h _; injection h with h; injection h with h _; injection h with h; exact absurd h (by decide +kernel)
theorem bad_say : BadS (.tuple [.str "say", .str "zz"]) := fun s h => by
  obtain ⟨a, rfl, ha⟩ := enc_say h
  exact .inr (.inl ⟨a, by simp [atsS], .inl (at_str ha)⟩)
theorem bad_one {w x : Str} (hx : x = "zz" ∨ x = "a9") : BadS (.tuple [.str "let", .str "a9", .tuple [.str w, .str x]]) := fun s h => by
  obtain ⟨y, r, rfl, _, hr⟩ := enc_let h
  obtain ⟨a, rfl, ha⟩ := enc_one hr
  exact .inr (.inl ⟨a, by simp [atsS, atsR], hx.imp (fun e => by rw [at_str ha, e]) fun e => by rw [at_str ha, e]⟩)
theorem bad_call {l : List PyData} : BadS (.tuple [.str "let", .str "a9", .tuple [.str "call", .str "zz", .tuple l]]) := fun s h => by
  obtain ⟨y, r, rfl, _, hr⟩ := enc_let h
  rcases enc_three hr with ⟨f, xs, rfl, hf⟩ | ⟨ps, b, rfl, hp, _⟩
  · exact .inr (.inl ⟨f, by simp [atsS, atsR], .inl (at_str hf)⟩)
  · cases hp
theorem bad_fun {l : List PyData} : BadS (.tuple [.str "let", .str "a9", .tuple [.str "fun", .tuple [.str "g"], .tuple l]]) := fun s h => by
  obtain ⟨y, r, rfl, _, hr⟩ := enc_let h
  rcases enc_three hr with ⟨f, xs, rfl, hf⟩ | ⟨ps, b, rfl, hp, _⟩
  · exact (at_tup hf).elim
  · rw [par_one hp]
    exact .inl ⟨"g", by simp [bndS, bndR], by decide +kernel⟩
theorem bad_nest : BadS (.tuple [.str "let", .str "a9", .tuple [.str "fun", .tuple [.str "x"], .tuple [.tuple [.str "give", .str "zz"]]]]) := fun s h => by
  obtain ⟨y, r, rfl, _, hr⟩ := enc_let h
  rcases enc_three hr with ⟨f, xs, rfl, hf⟩ | ⟨ps, b, rfl, hp, hb⟩
  · exact (at_tup hf).elim
  · rw [par_one hp, enc_giv hb]
    refine .inr (.inr fun tops held f i h1 h2 => ?_)
    show (okN (f + 1) i && seeL tops (held ++ [Str.ofString "x"]) [.nm (Str.ofString "zz")]) = false
    have : seeL tops (held ++ [Str.ofString "x"]) [.nm (Str.ofString "zz")] = false := by
      have h3 : (Str.ofString "zz") ∉ held ++ [Str.ofString "x"] := fun z => (List.mem_append.mp z).elim h2 fun z => absurd (List.mem_singleton.mp z) (by decide +kernel)
      cases q : seeL tops (held ++ [Str.ofString "x"]) [.nm (Str.ofString "zz")] with
      | false => rfl
      | true =>
        have q' : (((held ++ [Str.ofString "x"]).contains (Str.ofString "zz") || tops.contains (Str.ofString "zz")) && true) = true := q
        simp only [Bool.and_true, Bool.or_eq_true, List.contains_iff_mem] at q'
        exact absurd q' fun z => z.elim h3 h1
    rw [this, Bool.and_false]
theorem bad_bind {x : Str} {d : PyData} (hx : x ∈ topsN) : BadS (.tuple [.str "let", .str x, d]) := fun s h => by
  obtain ⟨y, r, rfl, hy, hr⟩ := enc_let h
  injection hy with hy
  exact .inl ⟨y, by simp [bndS], hy ▸ hx⟩
def badF (w : PyData) : Bool := !stD w || (inn w).any fun y => !laD (lisT y)
def badM : List PyData := [.tuple [.str "say", .str "zz"], .tuple [.str "let", .str "a9", .tuple [.str "atom", .str "zz"]], .tuple [.str "let", .str "a9", .tuple [.str "call", .str "zz", .tuple []]],
  .tuple [.str "let", .str "a9", .tuple [.str "fun", .tuple [.str "g"], .tuple [giveD]]], .tuple [.str "let", .str "a9", .tuple [.str "fun", .tuple [.str "x"], .tuple [.tuple [.str "give", .str "zz"]]]],
  .tuple [.str "let", .str "g", .tuple [.str "atom", .int 1]], .tuple [.str "let", .str "main", .tuple [.str "atom", .int 1]], .tuple [.str "let", .str "a9", .tuple [.str "atom", .str "a9"]]]
theorem badM_ok : ∀ w ∈ badM, BadS w := fun w hw => by
  simp only [badM, List.mem_cons, List.not_mem_nil, or_false] at hw
  rcases hw with rfl | rfl | rfl | rfl | rfl | rfl | rfl | rfl
  · exact bad_say
  · exact bad_one (.inl rfl)
  · exact bad_call
  · exact bad_fun
  · exact bad_nest
  · exact bad_bind (by decide +kernel)
  · exact bad_bind (by decide +kernel)
  · exact bad_one (.inr rfl)
def BadF (w : PyData) : Prop := badF w = true ∨ w ∈ badM
theorem al_nil {p : PyData → Prop} : ∀ w ∈ ([] : List PyData), p w := fun _ h => nomatch h
theorem al_cons {p : PyData → Prop} {d : PyData} {l : List PyData} (h : p d) (hl : ∀ w ∈ l, p w) : ∀ w ∈ d :: l, p w := fun w hw => (List.mem_cons.mp hw).elim (fun e => e ▸ h) (hl w)
theorem al_app {p : PyData → Prop} {a l : List PyData} (h : ∀ w ∈ a, p w) (hl : ∀ w ∈ l, p w) : ∀ w ∈ a ++ l, p w := fun w hw => (List.mem_append.mp hw).elim (h w) (hl w)
theorem al_map {p : PyData → Prop} {f : PyData → PyData} {l : List PyData} (h : ∀ r ∈ l, p (f r)) : ∀ w ∈ l.map f, p w := fun w hw => by
  obtain ⟨r, hr, rfl⟩ := List.mem_map.mp hw
  exact h r hr
theorem bf_some : ∀ w ∈ some0D, BadF w := (al_cons (.inl (by decide +kernel)) (al_cons (.inl (by decide +kernel)) (al_cons (.inl (by decide +kernel)) (al_cons (.inl (by decide +kernel)) (al_cons (.inr (List.mem_of_getElem? (i := 0) rfl)) (al_cons (.inl (by decide +kernel)) (al_cons (.inl (by decide +kernel)) al_nil)))))))
theorem bf_r0 : ∀ w ∈ rt0D, BadF (letA w) := (al_cons (.inr (List.mem_of_getElem? (i := 1) rfl)) (al_cons (.inl (by decide +kernel)) (al_cons (.inl (by decide +kernel)) (al_cons (.inl (by decide +kernel)) (al_cons (.inl (by decide +kernel)) (al_cons (.inl (by decide +kernel)) (al_cons (.inr (List.mem_of_getElem? (i := 2) rfl)) al_nil)))))))
theorem bf_r1 : ∀ w ∈ rt1D, BadF (letA w) := (al_cons (.inl (by decide +kernel)) (al_cons (.inl (by decide +kernel)) (al_cons (.inr (List.mem_of_getElem? (i := 3) rfl)) al_nil)))
theorem bf_r2 : ∀ w ∈ rt2D, BadF (letA w) := (al_cons (.inl (by decide +kernel)) (al_cons (.inl (by decide +kernel)) al_nil))
theorem bf_r3 : ∀ w ∈ rt3D, BadF (letA w) := (al_cons (.inl (by decide +kernel)) (al_cons (.inr (List.mem_of_getElem? (i := 4) rfl)) al_nil))
theorem bf_rA : ∀ w ∈ [rtAD], BadF (letA w) := (al_cons (.inl (by decide +kernel)) al_nil)
theorem bf_r5 : ∀ w ∈ rt5D, BadF (letA w) := (al_cons (.inl (by decide +kernel)) (al_cons (.inl (by decide +kernel)) (al_cons (.inl (by decide +kernel)) (al_cons (.inl (by decide +kernel)) (al_cons (.inl (by decide +kernel)) al_nil)))))
theorem bf_s7 : ∀ w ∈ s7D, BadF w := (al_cons (.inl (by decide +kernel)) al_nil)
theorem bf_nam : ∀ w ∈ namD, BadF (letN w) := (al_cons (.inr (List.mem_of_getElem? (i := 5) rfl)) (al_cons (.inr (List.mem_of_getElem? (i := 6) rfl)) (al_cons (.inl (by decide +kernel)) (al_cons (.inl (by decide +kernel)) (al_cons (.inl (by decide +kernel)) (al_cons (.inl (by decide +kernel)) (al_cons (.inl (by decide +kernel)) (al_cons (.inl (by decide +kernel)) (al_cons (.inl (by decide +kernel)) al_nil)))))))))
theorem bf_last : ∀ w ∈ lastD, BadF w := (al_cons (.inr (List.mem_of_getElem? (i := 7) rfl)) (al_cons (.inl (by decide +kernel)) (al_cons (.inl (by decide +kernel)) (al_cons (.inl (by decide +kernel)) al_nil))))
theorem bads_all : ∀ w ∈ wrongsD, BadF w := al_app (al_app (al_app (al_app bf_some (al_map (al_app (al_app (al_app (al_app (al_app bf_r0 bf_r1) bf_r2) bf_r3) bf_rA) bf_r5))) bf_s7) (al_map bf_nam)) bf_last
theorem wrong_bad {w : PyData} (hw : w ∈ wrongsD) : Bad w := by
  rcases bads_all w hw with h | h
  · simp only [badF, Bool.or_eq_true, Bool.not_eq_true'] at h
    exact h.imp id .inl
  · exact .inr (.inr (badM_ok w h))
end PK

set_option maxHeartbeats 4000000
namespace PK
open PySem L2 Evl DL PJ PG TL K4
def smB (n k : Nat) (d : PyData) : Bool := d.canLay0 && (decide (d.depth ≤ n) && decide (wt d ≤ k))
theorem smB_ok {n k : Nat} {d : PyData} (h : smB n k d = true) : Sm3 n k d := by
  unfold smB at h
  simp only [Bool.and_eq_true, decide_eq_true_eq] at h
  exact ⟨h.1, h.2.1, h.2.2⟩
theorem wrong_sm {w : PyData} (hw : w ∈ wrongsD) : Sm3 10 200 w := by
  have h : wrongsD.all (smB 10 200) = true := by decide +kernel
  exact smB_ok (List.all_eq_true.mp h w hw)
theorem oth_okd {tops : List Tp3} (h : ProgOk tops) {n i : Nat} {t : Tp3} {w : PyData} (ht : t ∈ tops) (hw : Sm3 10 200 w) : okd (.tuple (othW tops n t i w)) = true := by
  have B := h.bd t ht
  have hp := h.ps t ht
  have hz := h.size ht
  have hd := B.dp
  have hb := (gdB_sm B.gd).mono (n' := 21) (k' := 9000) (by omega) (by omega)
  have hT : Sm3 50 20000 (topW t i w) := (sm_tup (n := 22) (sml_cons (sm_nm (h.nmOk ht)) (sml_cons ((sm_tup (n := 0) (sm_pars hp.2)).mono (by omega) (Nat.le_refl _)) (sml_cons (sm_tup (sml_app (sml_app (hb.sub (List.take_sublist _ _)) (sml_cons (hw.mono (by decide) (Nat.le_refl _)) sml_nil)) (hb.sub (List.drop_sublist _ _)))) sml_nil)))).mono (by omega) (by omega)
  have hP : ∀ d ∈ tops.map pEnc, Sm3 50 20000 d := fun d hd => by
    obtain ⟨t, ht, rfl⟩ := List.mem_map.mp hd
    exact (h.sm ht).mono (by decide) (by decide)
  refine okd_all (fun d hd => ?_) ?_
  · unfold othW at hd
    rcases List.mem_append.mp hd with hd | hd
    · rcases List.mem_append.mp hd with hd | hd
      · exact hP d (List.mem_of_mem_take hd)
      · rw [List.mem_singleton.mp hd]; exact hT
    · exact hP d (List.mem_of_mem_drop hd)
  · have := h.len
    unfold othW
    simp only [List.length_append, List.length_take, List.length_drop, List.length_map, List.length_singleton]
    omega
/-! ### heads -/
theorem nr_nil : NR (.tuple []) := fun ts e hf => by cases hf
def NRO (d : PyData) : Prop := okd d = true ∧ NR d
theorem heads_nr {tops : List Tp3} (h : ProgOk tops) : ∀ d ∈ headsD tops, NRO d := by
  have hl := h.len
  have hP : ∀ d ∈ tops.map tEnc, Sm3 50 20000 d := fun d hd => by
    obtain ⟨t, ht, rfl⟩ := List.mem_map.mp hd
    exact (h.sm ht).mono (by decide) (by decide)
  have hsub : ∀ t ∈ noMain tops, t ∈ tops := fun t ht => (List.mem_filter.mp ht).1
  have hR : ∀ d ∈ (noMain tops).map tEnc, Sm3 50 20000 d := fun d hd => by
    obtain ⟨t, ht, rfl⟩ := List.mem_map.mp hd
    exact (h.sm (hsub t ht)).mono (by decide) (by decide)
  have hlR : (noMain tops).length ≤ 3 := Nat.le_trans (List.length_filter_le _ _) (by omega)
  have nR : ((noMain tops).map tEnc).map nameD = (noMain tops).map (·.1) := by rw [List.map_map]; rfl
  have nP : (tops.map tEnc).map nameD = tops.map (·.1) := by rw [List.map_map]; rfl
  have okP : ∀ l : List PyData, (∀ d ∈ l, Sm3 50 20000 d) → l.length ≤ 2 → okd (.tuple (tops.map tEnc ++ l)) = true := fun l hs hl2 => okd_all (fun d hd => (List.mem_append.mp hd).elim (hP d) (hs d)) (by rw [List.length_append, List.length_map]; omega)
  have okR : ∀ l : List PyData, (∀ d ∈ l, Sm3 50 20000 d) → l.length ≤ 2 → okd (.tuple ((noMain tops).map tEnc ++ l)) = true := fun l hs hl2 => okd_all (fun d hd => (List.mem_append.mp hd).elim (hR d) (hs d)) (by rw [List.length_append, List.length_map]; omega)
  have one : ∀ {d x : PyData}, smB 50 20000 x = true → d ∈ [x] → Sm3 50 20000 d := fun hx hd => by rw [List.mem_singleton.mp hd]; exact smB_ok hx
  -- with a main that is none
  have badm : ∀ x : PyData, smB 50 20000 x = true → topD x = false → NRO (.tuple ((noMain tops).map tEnc ++ [x])) := fun x hx hT => ⟨okR [x] (fun d hd => one hx hd) (by simp), nr_top (d := x) (by simp) hT⟩
  have hg : ("g" : Str) ∈ (noMain tops).map (·.1) := by
    obtain ⟨t, ht, e⟩ := List.mem_map.mp (h.has (x := "g") (by decide +kernel))
    refine List.mem_map.mpr ⟨t, List.mem_filter.mpr ⟨ht, ?_⟩, e⟩
    have e' : t.1 = Str.ofString "g" := e
    rw [e']
    decide +kernel
  obtain ⟨t0, r0, et⟩ : ∃ t0 r0, tops = t0 :: r0 := by
    cases tops with
    | nil => simp at hl
    | cons a b => exact ⟨a, b, rfl⟩
  have take1 : (tops.map tEnc).take 1 = [tEnc t0] := by rw [et]; rfl
  have sm0 : Sm3 50 20000 (tEnc t0) := hP _ (by rw [et]; simp)
  unfold headsD hd0 hd1 hd2 hd3
  refine al_app (al_app (al_app ?_ ?_) ?_) ?_
  · refine al_cons ⟨by decide +kernel, fun ts e => nomatch e⟩ (al_cons ⟨by decide +kernel, nr_nil⟩ (al_cons ⟨?_, fun ts e => nomatch e⟩ (al_cons ⟨?_, nr_names ?_⟩ (al_cons ⟨?_, ?_⟩ (al_cons ⟨?_, ?_⟩ al_nil)))))
    · exact okd_sm ((sm_lst ((sml_all hP).mono (n' := 50) (k' := 999999) (by decide) (by rw [List.length_map]; omega))).mono (by decide) (by decide))
    · rw [take1]
      exact okP _ (fun d hd => by rw [List.mem_singleton.mp hd]; exact sm0) (by simp)
    · rw [take1, List.map_append, nP, et]
      intro hn
      exact (List.nodup_append.mp hn).2.2 t0.1 (by simp) t0.1 (by simp [nameD, tEnc]) rfl
    · exact okP _ (fun d hd => one (by decide +kernel) hd) (by simp)
    · exact nr_top (d := .tuple [.str "if", .tuple [], endD]) (by simp) (by decide +kernel)
    · rw [take1]
      exact okd_all (fun d hd => by
        simp only [List.mem_append, List.mem_singleton] at hd
        rcases hd with rfl | rfl
        · exact sm0
        · exact smB_ok (by decide +kernel)) (by simp)
    · exact nr_top (d := .none) (by simp) rfl
  · refine al_cons ⟨?_, nr_main ?_⟩ (al_cons (badm _ (by decide +kernel) (by decide +kernel)) (al_cons ⟨?_, ?_⟩ al_nil))
    · have := okR [] (fun _ h => nomatch h) (by simp)
      rwa [List.append_nil] at this
    · rw [nR]
      intro hm
      obtain ⟨t, ht, e⟩ := List.mem_map.mp hm
      have h2 := (List.mem_filter.mp ht).2
      rw [decide_eq_true_eq] at h2
      exact h2 e
    · exact okR _ (fun d hd => one (by decide +kernel) hd) (by simp)
    · refine nr_T (d := .tuple [.str "main", .tuple [.str "g"], .tuple [.tuple [.str "give", .int 0]]]) (by simp) fun t' he hf => ?_
      rw [List.map_append, nR]
      unfold pEnc at he
      injection he with he
      injection he with _ he
      injection he with e2 _
      have : t'.2.1 = [Str.ofString "g"] := par_one e2
      unfold PJ.rightT
      have ha : (namesT t').any ((noMain tops).map (·.1) ++ [PyData.tuple [.str "main", .tuple [.str "g"], .tuple [.tuple [.str "give", .int 0]]]].map nameD).contains = true := by
        refine List.any_eq_true.mpr ⟨Str.ofString "g", ?_, ?_⟩
        · unfold namesT
          rw [this]
          simp
        · rw [List.contains_iff_mem]
          exact List.mem_append.mpr (.inl hg)
      rw [ha]
      simp
  · exact al_cons (badm _ (by decide +kernel) (by decide +kernel)) (al_cons (badm _ (by decide +kernel) (by decide +kernel)) (al_cons (badm _ (by decide +kernel) (by decide +kernel)) al_nil))
  · exact al_cons (badm _ (by decide +kernel) (by decide +kernel)) (al_cons (badm _ (by decide +kernel) (by decide +kernel)) al_nil)
end PK

set_option maxHeartbeats 4000000
namespace PK
open PySem L2 Evl DL PJ PG TL K4
def mainD (own : List PyData) : PyData := .tuple [.tuple [.str "main", .tuple [], .tuple own]]
theorem case_ok {b : Bd} {r : Bool} (g : gdB b = true) (hd : b.deep ≤ 10) (hz : b.size ≤ 150) (hr : rightP [("main", [], b)] = r) : okd (mainD b.encs) = true ∧ RightV (mainD b.encs) r := by
  have hb := (gdB_sm g).mono (n' := 30) (k' := 15000) (by omega) (by omega)
  refine ⟨?_, .inr ⟨[("main", [], b)], rfl, ?_, ?_, hr.symm⟩⟩
  · refine okd_all (fun d hd => ?_) (by simp)
    rw [List.mem_singleton.mp hd]
    exact (sm_tup (n := 31) (sml_cons (sm_word (by decide +kernel)) (sml_cons ((sm_tup (n := 0) sml_nil).mono (by omega) (Nat.le_refl _)) (sml_cons (sm_tup hb) sml_nil)))).mono (by omega) (by omega)
  · show (true && (true && [pEnc (("main", [], b) : Tp3)].all topD)) = true
    rw [Bool.true_and, Bool.true_and, List.all_cons, List.all_nil, Bool.and_true]
    unfold pEnc
    rw [top3, gd_bo g hd]
    have h : (nmD (.str "main") && (parD (.tuple []) && true)) = true := by decide +kernel
    exact h
  · intro t ht
    rw [List.mem_singleton.mp ht]
    exact ⟨(gd_sh (n := 0)).2 _ g, hd⟩
/-! ### many lets -/
def nV (k : Nat) : Str := nmK "v" k
def vB : Nat → Nat → Bd
  | _, 0 => .give (.num 0)
  | i, n + 1 => .lets (nV i) (.one "atom" (.num 1)) (vB (i + 1) n)
def letV (k : Nat) : PyData := .tuple [.str "let", .str (nV k), .tuple [.str "atom", .int 1]]
theorem vB_encs : ∀ n i : Nat, (vB i n).encs = (List.range' i n).map letV ++ [.tuple [.str "give", .int 0]]
  | 0, i => rfl
  | n + 1, i => by
    simp only [vB, Bd.encs, vB_encs n (i + 1), List.range'_succ, List.map_cons, List.cons_append]
    rfl
theorem vB_deep : ∀ n i : Nat, (vB i n).deep = 1
  | 0, i => rfl
  | n + 1, i => by simp [vB, Bd.deep, Rt.deep, vB_deep n (i + 1)]
theorem vB_size : ∀ n i : Nat, (vB i n).size = n + 1
  | 0, i => rfl
  | n + 1, i => by simp only [vB, Bd.size, Rt.size, vB_size n (i + 1)]; omega
theorem vB_bn : ∀ n i : Nat, bnB (vB i n) = (List.range' i n).map nV
  | 0, i => rfl
  | n + 1, i => by
    rw [vB, bnB_lets, vB_bn n (i + 1), List.range'_succ, List.map_cons]
    rfl
theorem tl_nV (k : Nat) : tl (nV k) = 118 :: numL k := tl_nmK "v" k
theorem nV_inj {a b : Nat} (h : nV a = nV b) : a = b := by
  have e := congrArg tl h
  rw [tl_nV, tl_nV] at e
  exact numL_inj (List.cons.inj e).2
theorem nm_nV {k : Nat} (h : k ≤ 1000000) : nmS (nV k) = true := nm_dig (by decide +kernel) (tl_nV k) h
theorem vB_gd : ∀ n i : Nat, i + n ≤ 1000 → gdB (vB i n) = true
  | 0, i, _ => by
    have h : gdB (.give (.num 0)) = true := by decide +kernel
    exact h
  | n + 1, i, h => by
    have h1 : gdR (.one "atom" (.num 1)) = true := by decide +kernel
    simp only [vB, gdB, nm_nV (show i ≤ 1000000 by omega), h1, vB_gd n (i + 1) (by omega), Bool.and_self]
theorem vB_sc (tops : List Str) : ∀ (n i : Nat) (held : List Str), scG tops held 0 0 (vB i n) = true
  | 0, i, held => rfl
  | n + 1, i, held => by
    simp only [vB, scG, vB_sc tops n (i + 1), scR, Bool.and_self, atsR, seeL, List.all_cons, List.all_nil, seeA]
theorem nV_main (k : Nat) : nV k ≠ Str.ofString "main" := fun h => by
  have e := congrArg tl h
  rw [tl_nV] at e
  exact absurd (List.cons.inj (e.trans (show tl (Str.ofString "main") = [109, 97, 105, 110] by decide +kernel))).1 (by decide)
theorem vB_right {n : Nat} (h : n ≤ 119) : rightP [("main", [], vB 0 n)] = true := by
  have hn : (namesT (("main", [], vB 0 n) : Tp3)).Nodup := by
    show (bnB (vB 0 n)).Nodup
    rw [vB_bn]
    exact List.pairwise_map.mpr (List.Pairwise.imp (fun {a b} h e => h (nV_inj e)) List.nodup_range')
  have ha : (namesT (("main", [], vB 0 n) : Tp3)).any ([Str.ofString "main"]).contains = false := by
    rw [List.any_eq_false]
    intro x hx hc
    have hx' : x ∈ bnB (vB 0 n) := hx
    rw [vB_bn] at hx'
    obtain ⟨k, _, rfl⟩ := List.mem_map.mp hx'
    have : nV k ∈ [Str.ofString "main"] := by simpa using hc
    exact nV_main k (List.mem_singleton.mp this)
  have hs : scB [Str.ofString "main"] [] 0 0 (vB 0 n) = true := by
    unfold scB
    rw [vB_sc]
    rfl
  have hT : PJ.rightT [Str.ofString "main"] ("main", [], vB 0 n) = true := by
    unfold PJ.rightT
    rw [decide_eq_true hn, ha, hs]
    rfl
  unfold rightP
  show (decide _ && (_ && (decide (((vB 0 n).size + 0 : Nat) ≤ 120) && (PJ.rightT [Str.ofString "main"] ("main", [], vB 0 n) && true)))) = true
  rw [hT, vB_size, decide_eq_true (show n + 1 + 0 ≤ 120 by omega)]
  have h : (decide [Str.ofString "main"].Nodup && ([Str.ofString "main"].contains (Str.ofString "main") && (true && (true && true)))) = true := by decide +kernel
  exact h
def letsD : List PyData := (List.range 120).map letV
def endL : List PyData := [.tuple [.str "give", .int 0]]
theorem lets_119 : letsD.take 119 ++ endL = (vB 0 119).encs := by
  rw [vB_encs]
  unfold letsD endL
  rw [← List.map_take, List.take_range, List.range_eq_range']
  rfl
theorem lets_120 : letsD ++ endL = (vB 0 120).encs := by
  rw [vB_encs]
  unfold letsD endL
  rw [List.range_eq_range']
theorem vB_120 : rightP [("main", [], vB 0 120)] = false := by
  unfold rightP
  show (decide _ && (_ && (decide (((vB 0 120).size + 0 : Nat) ≤ 120) && _))) = false
  rw [vB_size, decide_eq_false (show ¬ (120 + 1 + 0 ≤ 120) by decide)]
  simp
def dupB : Bd := .lets (nV 0) (.one "atom" (.num 1)) (.lets (nV 1) (.one "atom" (.num 1)) (.lets (nV 0) (.one "atom" (.num 1)) (.give (.num 0))))
theorem lets_dup : (letsD.take 2 ++ letsD.take 1) ++ endL = dupB.encs := by
  unfold letsD endL
  rw [← List.map_take, ← List.map_take, List.take_range, List.take_range]
  rfl
/-- the cases of the law -/
def casesD : List (List PyData × Bool) := [((deepB true 6).encs, true), ((deepB true 7).encs, false), ((deepB false 3).encs, true), ((deepB false 4).encs, false), (letsD.take 119 ++ endL, true), (letsD ++ endL, false), ((letsD.take 2 ++ letsD.take 1) ++ endL, false)]
theorem cases_ok : ∀ c ∈ casesD, okd (mainD c.1) = true ∧ RightV (mainD c.1) c.2 := by
  intro c hc
  simp only [casesD, List.mem_cons, List.not_mem_nil, or_false] at hc
  rcases hc with rfl | rfl | rfl | rfl | rfl | rfl | rfl
  · exact case_ok (by decide +kernel) (by decide +kernel) (by decide +kernel) (by decide +kernel)
  · exact case_ok (by decide +kernel) (by decide +kernel) (by decide +kernel) (by decide +kernel)
  · exact case_ok (by decide +kernel) (by decide +kernel) (by decide +kernel) (by decide +kernel)
  · exact case_ok (by decide +kernel) (by decide +kernel) (by decide +kernel) (by decide +kernel)
  · show okd (mainD (letsD.take 119 ++ endL)) = true ∧ RightV (mainD (letsD.take 119 ++ endL)) true
    rw [lets_119]
    exact case_ok (vB_gd _ _ (by decide)) (by rw [vB_deep]; decide) (by rw [vB_size]; decide) (vB_right (by decide))
  · show okd (mainD (letsD ++ endL)) = true ∧ RightV (mainD (letsD ++ endL)) false
    rw [lets_120]
    exact case_ok (vB_gd _ _ (by decide)) (by rw [vB_deep]; decide) (by rw [vB_size]; decide) vB_120
  · show okd (mainD ((letsD.take 2 ++ letsD.take 1) ++ endL)) = true ∧ RightV (mainD ((letsD.take 2 ++ letsD.take 1) ++ endL)) false
    rw [lets_dup]
    exact case_ok (by decide +kernel) (by decide +kernel) (by decide +kernel) (by decide +kernel)
end PK

set_option maxHeartbeats 4000000
namespace DL
open PySem L2 Evl TL PySem.Spec PyProof.Rows PJ
/-! ### data that repr shows whole, by size -/
structure Sw (n dp : Nat) (d : PyData) : Prop where
  ok : d.showable = true
  deep : d.depth ≤ dp
  leaf : d.leavesShort 8 = true
  wt : d.weight ≤ n
theorem Sw.shows {n dp : Nat} {d : PyData} (h : Sw n dp d) (hn : n ≤ 1000000) (hd : dp ≤ 40) : Shows d := by
  refine ⟨h.ok, Nat.le_trans h.deep hd, ?_⟩
  have h1 := PyData.shown_le 8 (by decide) d h.leaf
  have h2 : (8 + 2) * d.weight + 8 ≤ 10000008 := by
    have := h.wt
    omega
  exact Nat.le_trans h1 (Nat.le_trans h2 (by decide))
theorem sw_str {x : Str} (h : ∀ c ∈ tl x, c < 4294967296) : Sw x.length 0 (.str x) := by
  refine ⟨rfl, Nat.le_refl _, ?_, Nat.le_refl _⟩
  simp only [PyData.leavesShort]
  exact List.all_eq_true.mpr fun c hc => decide_eq_true (h c hc)
theorem sw_non : Sw 0 0 .none := ⟨rfl, Nat.le_refl _, rfl, Nat.le_refl _⟩
theorem sw_bl (b : Bool) : Sw 0 0 (.bool b) := ⟨rfl, Nat.le_refl _, rfl, Nat.le_refl _⟩
theorem Sw.mono {n m dp dq : Nat} {d : PyData} (h : Sw n dp d) (h1 : n ≤ m) (h2 : dp ≤ dq) : Sw m dq d := ⟨h.ok, Nat.le_trans h.deep h2, h.leaf, Nat.le_trans h.wt h1⟩
theorem sw_nat {n : Nat} (h : n ≤ 200) : Sw 8 0 (.int (n : Int)) := by
  have all : ∀ n ∈ List.range 201, (PyData.showable (.int (n : Int)) && (PyData.leavesShort 8 (.int (n : Int)) && decide (PyData.weight (.int (n : Int)) ≤ 8))) = true := by decide +kernel
  have h1 := all n (List.mem_range.mpr (by omega))
  simp only [Bool.and_eq_true, decide_eq_true_eq] at h1
  exact ⟨h1.1, Nat.le_refl _, h1.2.1, h1.2.2⟩
structure Sws (n dp : Nat) (ds : List PyData) : Prop where
  ok : PyData.showableAll ds = true
  deep : PyData.depthAll ds ≤ dp
  leaf : PyData.leavesShortAll 8 ds = true
  wt : PyData.weightAll ds ≤ n
theorem sws_nil {dp : Nat} : Sws 0 dp [] := ⟨rfl, by simp [PyData.depthAll], rfl, Nat.le_refl _⟩
theorem sws_cons {n m dp : Nat} {d : PyData} {ds : List PyData} (h : Sw n dp d) (hs : Sws m dp ds) : Sws (n + 1 + m) dp (d :: ds) := by
  refine ⟨?_, ?_, ?_, ?_⟩
  · simp only [PyData.showableAll, h.ok, hs.ok, Bool.and_self]
  · simp only [PyData.depthAll]
    exact Nat.max_le.mpr ⟨h.deep, hs.deep⟩
  · simp only [PyData.leavesShortAll, h.leaf, hs.leaf, Bool.and_self]
  · have := h.wt
    have := hs.wt
    simp only [PyData.weightAll]
    omega
theorem sws_all {n dp : Nat} : ∀ {ds : List PyData}, (∀ d ∈ ds, Sw n dp d) → Sws ((n + 1) * ds.length) dp ds
  | [], _ => by simpa using sws_nil
  | d :: r, h => by
    have := sws_cons (h d (by simp)) (sws_all (ds := r) fun x hx => h x (List.mem_cons_of_mem _ hx))
    rw [List.length_cons, Nat.mul_succ, Nat.add_comm]
    exact this
theorem sw_lst {n dp : Nat} {ds : List PyData} (h : Sws n dp ds) : Sw n (dp + 1) (.list ds) := ⟨h.ok, Nat.succ_le_succ h.deep, h.leaf, h.wt⟩
theorem sw_tup {n dp : Nat} {ds : List PyData} (h : Sws n dp ds) : Sw n (dp + 1) (.tuple ds) := ⟨h.ok, Nat.succ_le_succ h.deep, h.leaf, h.wt⟩
theorem shows_bls {bs : List Bool} (h : bs.length ≤ 1000) : Shows (.list (bs.map PyData.bool)) :=
  (sw_lst (sws_all (n := 0) (dp := 0) fun d hd => by obtain ⟨b, _, rfl⟩ := List.mem_map.mp hd; exact sw_bl b)).shows (by rw [List.length_map]; omega) (by decide)
theorem shows_bl (b : Bool) : Shows (.bool b) := (sw_bl b).shows (by decide) (by decide)
/-! ### data without a list of three ints does not stand on the pail -/
mutual
def no3 : PyData → Bool
  | .list l => (match l with | [.int _, .int _, .int _] => false | _ => true) && no3s l
  | .tuple l => no3s l
  | _ => true
def no3s : List PyData → Bool
  | [] => true
  | d :: r => no3 d && no3s r
end
section
variable {K : PySem.W.Frag} {H : Hp} {p : Addr} {a b c : Int}
theorem ints3 {vs : List V} {ds : List PyData} (h : DpAll K H vs ds) (e : vs = [.int a, .int b, .int c]) : ∃ x y z, ds = [.int x, .int y, .int z] := by
  subst e
  cases h with | cons h1 h => cases h with | cons h2 h => cases h with | cons h3 h => cases h with | nil =>
  cases h1
  cases h2
  cases h3
  exact ⟨_, _, _, rfl⟩
mutual
theorem dp_no3 (hp : H p = some (.lst [.int a, .int b, .int c])) : ∀ {v : V} {d : PyData}, Dp K H v d → no3 d = true → Dp K (hid [p] H) v d
  | _, _, .non, _ => .non
  | _, _, .bl _, _ => .bl _
  | _, _, .int _, _ => .int _
  | _, _, .str _, _ => .str _
  | _, _, .tup h r, hn => by
    simp only [no3] at hn
    refine .tup ?_ (dpa_no3 hp r hn)
    rcases h with (h | ⟨o, h⟩) | h
    · exact .inl (.inl (hid_of h (by simp; rintro rfl; rw [hp] at h; cases h)))
    · exact .inl (.inr ⟨o, hid_of h (by simp; rintro rfl; rw [hp] at h; cases h)⟩)
    · exact .inr h
  | _, _, .lst h r, hn => by
    simp only [no3, Bool.and_eq_true] at hn
    refine .lst ?_ (dpa_no3 hp r hn.2)
    rcases h with (h | ⟨o, h⟩) | h
    · refine .inl (.inl (hid_of h ?_))
      simp only [List.mem_singleton]
      rintro rfl
      rw [hp] at h
      injection h with h
      injection h with h
      obtain ⟨x, y, z, e⟩ := ints3 r h.symm
      rw [e] at hn
      have hf : false = true := hn.1
      cases hf
    · exact .inl (.inr ⟨o, hid_of h (by simp; rintro rfl; rw [hp] at h; cases h)⟩)
    · exact .inr h
theorem dpa_no3 (hp : H p = some (.lst [.int a, .int b, .int c])) : ∀ {vs : List V} {ds : List PyData}, DpAll K H vs ds → no3s ds = true → DpAll K (hid [p] H) vs ds
  | _, _, .nil, _ => .nil
  | _, _, .cons h r, hn => by
    simp only [no3s, Bool.and_eq_true] at hn
    exact .cons (dp_no3 hp h hn.1) (dpa_no3 hp r hn.2)
end
end
/-! ### [e for (x, y, z) in t] -/
theorem wipe_in {vs : List Nat} : ∀ {i : Nat}, i ∈ vs → ∀ (σ : L2.St) (v : Option V), wipe (σ.set i v) vs = wipe σ vs := by
  intro i hi σ v
  refine List.ext_getElem? fun m => ?_
  induction vs generalizing σ with
  | nil => cases hi
  | cons j r ih =>
    show ((wipe (σ.set i v) r).set j none)[m]? = ((wipe σ r).set j none)[m]?
    rw [List.getElem?_set, List.getElem?_set, wipe_length, wipe_length, List.length_set]
    by_cases hj : j = m
    · simp [hj]
    · rw [if_neg hj, if_neg hj]
      rcases List.mem_cons.mp hi with rfl | hi
      · by_cases hr : i ∈ r
        · exact ih hr σ
        · have e : ∀ (r : List Nat), i ∉ r → ∀ σ : L2.St, wipe (σ.set i v) r = (wipe σ r).set i v := by
            intro r
            induction r with
            | nil => intro _ _; rfl
            | cons q r ih2 =>
              intro hq σ
              show (wipe (σ.set i v) r).set q none = ((wipe σ r).set q none).set i v
              rw [ih2 (fun z => hq (List.mem_cons_of_mem _ z)), List.set_comm]
              rintro rfl
              exact hq (by simp)
          rw [e r hr σ, List.getElem?_set_ne hj]
      · exact ih hi σ
theorem wipe_wipe (vs : List Nat) (σ : L2.St) : wipe (wipe σ vs) vs = wipe σ vs := by
  have : ∀ us : List Nat, (∀ i ∈ us, i ∈ vs) → ∀ σ : L2.St, wipe (wipe σ us) vs = wipe σ vs := by
    intro us
    induction us with
    | nil => intro _ _; rfl
    | cons j r ih =>
      intro h σ
      show wipe ((wipe σ r).set j none) vs = _
      rw [wipe_in (h j (by simp)), ih fun i hi => h i (List.mem_cons_of_mem _ hi)]
  exact this vs (fun _ h => h) σ
section
variable {K : PySem.W.Frag} {σ : L2.St} {H : Hp} {Q : VK} {te ts : TE} {xs : List V} {a : Addr} {R : Nat → V → Prop} {ds : List PyData}
theorem lc_tup3 {i j k : Nat} (hs : Ev ts σ H (.ref a)) (hS : SqT K H a xs) (hd : DpAll K H xs ds) (h3 : ∀ d ∈ ds, ∃ x y z, d = .tuple [x, y, z]) (hl : xs.length ≤ 1000000)
    (step : ∀ m x y z v1 v2 v3 H', ds[m]? = some (.tuple [x, y, z]) → Dp K H v1 x → Dp K H v2 y → Dp K H v3 z → Ex H H' → ∀ Q' : VK, (∀ v H'', Ex H' H'' → R m v → Q' v H'') → te ((((wipe σ [i, j, k]).set i (some v1)).set j (some v2)).set k (some v3)) H' Q')
    (kk : ∀ p vs H', H p = none → Ex H H' → H' p = some (.lst vs) → vs.length = ds.length → (∀ j v, vs[j]? = some v → R j v) → Q (.ref p) H') : tLc (iTup K ts) (gTup K 3 (gCons (gName i) (gCons (gName j) (gCons (gName k) gNil)))) tYes te [i, j, k] σ H Q := by
  refine hs H (Ex.refl H) _ fun H1 e1 => ⟨a, rfl, ⟨xs, ex_t e1 hS⟩, fun D nD => ?_⟩
  have nDH : H D = none := fresh_back e1 nD
  have lx := dpa_len hd
  refine lc_tup (K := K) (a := a) (xs := xs) (fun m H' => Grown H D R m H') ⟨e1.trans (Ex.new nD), [], upd_same, rfl, fun j v h => by simp at h⟩ (fun m H' _ z => ex_t z.1 hS) ?_ ?_
  · rintro m x H' hx g
    have hml := (List.getElem?_eq_some_iff.mp hx).1
    obtain ⟨d, hdm, hxd⟩ := dpa_getV hd hx
    obtain ⟨d1, d2, d3, rfl⟩ := h3 d (List.mem_of_getElem? hdm)
    obtain ⟨c, cs, rfl, hc, hcs⟩ := dp_tup hxd
    cases hcs with | cons g0 gr => cases gr with | cons g1 gr => cases gr with | cons g2 gr => cases gr with | nil =>
    refine ⟨c, _, rfl, ex_t g.1 hc, rfl, _, _, rfl, _, _, rfl, _, _, rfl, rfl, ?_, lc_yes (step m d1 d2 d3 _ _ _ H' hdm g0 g1 g2 g.1 _ fun v H'' e2 r => g.next nDH hml hl e2 r)⟩
    rw [wipe_in (by simp), wipe_in (by simp), wipe_in (by simp), wipe_wipe]
  · rintro H' ⟨e, vs, hD, hvl, hR⟩
    exact kk D vs H' nDH e hD (hvl.trans lx) hR
theorem lc_list2 {i j : Nat} (hs : Ev ts σ H (.ref a)) (hS : SqL K H a xs) (hd : DpAll K H xs ds) (h2 : ∀ d ∈ ds, ∃ x y, d = .tuple [x, y]) (hl : xs.length ≤ 1000000)
    (step : ∀ m x y v1 v2 H', ds[m]? = some (.tuple [x, y]) → Dp K H v1 x → Dp K H v2 y → Ex H H' → ∀ Q' : VK, (∀ v H'', Ex H' H'' → R m v → Q' v H'') → te (((wipe σ [i, j]).set i (some v1)).set j (some v2)) H' Q')
    (kk : ∀ p vs H', H p = none → Ex H H' → H' p = some (.lst vs) → vs.length = ds.length → (∀ j v, vs[j]? = some v → R j v) → Q (.ref p) H') : tLc (iList K ts) (gTup K 2 (gCons (gName i) (gCons (gName j) gNil))) tYes te [i, j] σ H Q := by
  refine hs H (Ex.refl H) _ fun H1 e1 => ⟨a, rfl, ⟨xs, ex_l e1 hS⟩, fun D nD => ?_⟩
  have nDH : H D = none := fresh_back e1 nD
  have lx := dpa_len hd
  refine lc_list (K := K) (a := a) (xs := xs) (fun m H' => Grown H D R m H') ⟨e1.trans (Ex.new nD), [], upd_same, rfl, fun j v h => by simp at h⟩ (fun m H' _ z => ex_l z.1 hS) ?_ ?_
  · rintro m x H' hx g
    have hml := (List.getElem?_eq_some_iff.mp hx).1
    obtain ⟨d, hdm, hxd⟩ := dpa_getV hd hx
    obtain ⟨d1, d2, rfl⟩ := h2 d (List.mem_of_getElem? hdm)
    obtain ⟨c, cs, rfl, hc, hcs⟩ := dp_tup hxd
    cases hcs with | cons g0 gr => cases gr with | cons g1 gr => cases gr with | nil =>
    refine ⟨c, _, rfl, ex_t g.1 hc, rfl, _, _, rfl, _, _, rfl, rfl, ?_, lc_yes (step m d1 d2 _ _ H' hdm g0 g1 g.1 _ fun v H'' e2 r => g.next nDH hml hl e2 r)⟩
    rw [wipe_in (by simp), wipe_in (by simp), wipe_wipe]
  · rintro H' ⟨e, vs, hD, hvl, hR⟩
    exact kk D vs H' nDH e hD (hvl.trans lx) hR
/-- a list told item by item -/
theorem vals_of {α : Type} {vs : List V} {xs : List α} {f : α → V} (hl : vs.length = xs.length) (h : ∀ (j : Nat) (v : V), vs[j]? = some v → ∃ x, xs[j]? = some x ∧ v = f x) : vs = xs.map f := by
  refine List.ext_getElem? fun j => ?_
  rw [List.getElem?_map]
  rcases Nat.lt_or_ge j vs.length with hj | hj
  · obtain ⟨x, hx, e⟩ := h j _ (List.getElem?_eq_getElem hj)
    rw [List.getElem?_eq_getElem hj, hx, e]
    rfl
  · rw [List.getElem?_eq_none hj, List.getElem?_eq_none (by omega)]
    rfl
end
end DL

set_option maxHeartbeats 4000000
namespace K4
open PySem L2 Evl DL PJ PG TL
section
variable {P : Program} {w : World} {K : PySem.W.Frag} {mg : Str → Option Value} {base : Heap}
/-! ### the law about one program -/
theorem sum_cast : ∀ l : List Nat, ((l.sum : Nat) : Int) = (l.map fun n : Nat => (n : Int)).sum
  | [] => rfl
  | n :: r => by rw [List.sum_cons, List.map_cons, List.sum_cons, ← sum_cast r, Int.natCast_add]
theorem ev_add1 {σ : L2.St} {H : Hp} {i n : Nat} (h : σ[i]? = some (some (.int (n : Int)))) : Ev (tOp (rI0 fun i j => .int (i + j)) (tVar i) (tC (.int 1))) σ H (.int ((n + 1 : Nat) : Int)) := fun H1 e Q q => ⟨_, h, _, _, rfl, rfl, q H1 (Ex.refl _)⟩
mutual
def nol : PyData → Bool
  | .list _ => false
  | .tuple l => nols l
  | _ => true
def nols : List PyData → Bool
  | [] => true
  | d :: r => nol d && nols r
end
mutual
theorem dp_nol {H : Hp} {q : Addr} {ws : List V} (hq : H q = some (.lst ws)) : ∀ {v : V} {d : PyData}, Dp K H v d → nol d = true → Dp K (hid [q] H) v d
  | _, _, .non, _ => .non
  | _, _, .bl _, _ => .bl _
  | _, _, .int _, _ => .int _
  | _, _, .str _, _ => .str _
  | _, _, .lst h r, hn => by simp [nol] at hn
  | _, _, .tup h r, hn => by
    simp only [nol] at hn
    refine .tup ?_ (dpa_nol hq r hn)
    rcases h with (h | ⟨o, h⟩) | h
    · exact .inl (.inl (hid_of h (by simp; rintro rfl; rw [hq] at h; cases h)))
    · exact .inl (.inr ⟨o, hid_of h (by simp; rintro rfl; rw [hq] at h; cases h)⟩)
    · exact .inr h
theorem dpa_nol {H : Hp} {q : Addr} {ws : List V} (hq : H q = some (.lst ws)) : ∀ {vs : List V} {ds : List PyData}, DpAll K H vs ds → nols ds = true → DpAll K (hid [q] H) vs ds
  | _, _, .nil, _ => .nil
  | _, _, .cons h r, hn => by
    simp only [nols, Bool.and_eq_true] at hn
    exact .cons (dp_nol hq h hn.1) (dpa_nol hq r hn.2)
end
theorem evd_deepc {σ : L2.St} {H : Hp} {E : XK} {n : Nat} {w : Str} {b : Bool} (hn : n ≤ 7) (hb : decide (w = "if") = b) : EvD K (tCall (spDeep K) [] E (tCons (tC (.int (n : Int))) (tCons (tC (.str w)) tNil))) σ H (.tuple (deepB b n).encs) := fun H1 e Q q =>
  ⟨n, w, rfl, hn, fun v H' e' hv => q v H' e' (by rw [hb] at hv; exact hv)⟩
theorem lsd_app {H : Hp} {l : Addr} {ds : List PyData} {v : V} {d : PyData} (h : LsD K H l ds) (hv : Dp K H v d) (hn : nol d = true) : ∃ vs, H l = some (.lst vs) ∧ vs.length = ds.length ∧ LsD K (L2.upd H l (.lst (vs ++ [v]))) l (ds ++ [d]) := by
  obtain ⟨vs, hl, hd⟩ := h.ex
  refine ⟨vs, hl, dpa_len hd, ⟨_, upd_same, ?_⟩⟩
  have eh : hid [l] (L2.upd H l (.lst (vs ++ [v]))) = hid [l] H := by
    funext b
    unfold hid
    by_cases hb : b ∈ ([l] : List Addr)
    · rw [if_pos hb, if_pos hb]
    · rw [if_neg hb, if_neg hb, upd_ne (by simpa using hb)]
  rw [eh]
  exact dpa_app hd (dpa_one (dp_nol hl hv hn))
theorem use_evb {te : TE} {σ : L2.St} {Hb H' : Hp} {d : PyData} {D : Addr} {Q : VK} (h : EvB K te σ Hb d) (nD : H' D ≠ none) (e : Ex Hb (hid [D] H')) (k : ∀ v H'', Ex H' H'' → Dp K (hid [D] H'') v d → Q v H'') : te σ H' Q := h H' D nD e Q k
theorem use_evd {te : TE} {σ : L2.St} {H : Hp} {d : PyData} {Q : VK} (h : EvD K te σ H d) (k : ∀ v H2, Ex H H2 → Dp K H2 v d → Q v H2) : te σ H Q := h H (Ex.refl H) Q k
theorem use_arg {te : TE} {σ : L2.St} {H : Hp} {d : PyData} {Q : List V → Hp → Prop} (h : EvD K te σ H d) (k : ∀ v H2, Ex H H2 → Dp K H2 v d → Q [v] H2) : tCons te tNil σ H Q := h H (Ex.refl H) _ k

def spRgt : Sp := fun vs H Q _ => ∃ p, vs = [.ref p] ∧ Pail H p ∧ ∀ H', Kp [p] H H' → Q (.bl true) H'
theorem bd_rgt : BindP "_law_right" s_law_right ["pail"] := fun _ _ _ _ _ _ us hl => match us, hl with | [_], _ => rfl
theorem ok_rgt (T : Txt K mg) : DefOk P w K mg base CX0 true 18 "_law_right" s_law_right ["pail"] spRgt := by
  refine T.d_law_right.okG scs_law_right (fun vs H Q E h => ?_) (fun f cdv A outer s0 H vs Q E hg hr h => ?_)
  · obtain ⟨p, rfl, _⟩ := h
    rfl
  · obtain ⟨p, rfl, hp, kk⟩ := h
    have nd := scs_law_right.nd
    have hr1 : Room 1 _ := hr.mono (by decide)
    have hr8 : Room 8 _ := hr.mono (by decide)
    have hr13 : Room 13 _ := hr.mono (by decide)
    have hr16 : Room 16 _ := hr.mono (by decide)
    have hr17 : Room 17 _ := hr.mono (by decide)
    refine ⟨_, (pss_cut (ps_set (i := 1) nd rfl (.inl rfl) (pe_callD (ok_prog T) hr13 (.inl rfl) bd_prog pass0 (pa_cons (pv 0) pa_nil)))
      (pss_cut (ps_set (i := 2) nd rfl (.inl rfl) (pe_callB (cr_sum rfl) (by rfl) T.b_sum (by decide +kernel) (pa_cons (pe_lc (own := [("name", 5), ("params", 6), ("body", 7)]) (g := gTup K 3 (gCons (gName 5) (gCons (gName 6) (gCons (gName 7) gNil)))) (tt := tYes) (te := tCB (fun xs H Q => ∃ p ys, xs = [.ref p] ∧ (SqL K H p ys ∨ SqT K H p ys) ∧ Q (.int ys.length) H) (tCons (tCall (spPts K 7) [] _ (tCons (tVar 7) tNil)) tNil)) rfl nd (pi_tup (pv 1)) (blkOk_by (N := ["pail", "program", "some", "had", "spot", "name", "params", "body", "wrong", "at", "other", "lets", "end", "cases", "own", "k", "due"]) (sc := defScope s_law_right) (by decide +kernel)) (fun _ _ _ _ _ => pg_tup (by rfl) (pgs_cons (pg_name (i := 5) nd rfl (Or.inl rfl)) (pgs_cons (pg_name (i := 6) nd rfl (Or.inl rfl)) (pgs_cons (pg_name (i := 7) nd rfl (Or.inl rfl)) pgs_nil)))) (fun _ _ _ _ _ => pts_nil) (fun _ _ _ _ _ => pe_callB call_len_seq (by rfl) T.b_len PySem.boot_len (pa_cons (pe_callD (ok_pts T 7) hr8 (.inl rfl) bd_pts pass0 (pa_cons (pv 7) pa_nil)) pa_nil))) pa_nil)))
      (pss_cut (ps_set (i := 3) nd rfl (.inl rfl) (pe_lst (pa_cons (pe_callD (ok_isprog T) hr16 (.inl rfl) bd_isprog pass0 (pa_cons (pv 1) pa_nil)) (pa_cons (pe_callDK (ok_isprog T) hr16 (.inl rfl) bk_isprog (fun r => r) pass0 (pk_cons (pv 1) pk_nil)) (pa_cons (pe_callD (ok_ptn T) hr17 (.inl rfl) bd_ptn pass0 (pa_cons (pv 1) pa_nil)) (pa_cons (pe_callDK (ok_tops T) hr17 (.inl rfl) bk_tops (fun r => r) pass0 (pk_cons (pv 1) pk_nil)) pa_nil))))))
      (pss_cut (ps_if (pt_not (pt_val (pe_callD (ok_is T) hr1 (.inr hg) bd_is pass0 (pa_cons (pv 3) (pa_cons (pe_lst (pa_cons pe_bl (pa_cons pe_bl (pa_cons (pv 2) (pa_cons (pe_callTy call_tuple_of (by rfl) T.b_tuple (by decide +kernel) (pa_cons (pe_lc (own := [("own", 14)]) (g := gName 14) (tt := tYes) (te := tOp (rIxT K) (tVar 14) (tC (.int 0))) rfl nd (pi_tup (pv 1)) (blkOk_by (N := ["pail", "program", "some", "had", "spot", "name", "params", "body", "wrong", "at", "other", "lets", "end", "cases", "own", "k", "due"]) (sc := defScope s_law_right) (by decide +kernel)) (fun _ _ _ _ _ => (pg_name (i := 14) nd rfl (Or.inl rfl))) (fun _ _ _ _ _ => pts_nil) (fun _ _ _ _ _ => (pe_ix ix_tup (pv 14) pe_int (fun _ _ => rfl)))) pa_nil)) pa_nil))))) pa_nil))))) (pss_one (ps_ret pe_bl)) pss_nil)
      (pss_cut (ps_set (i := 4) nd rfl (.inl rfl) (pe_callD (ok_deal T) hr1 (.inl rfl) bd_deal pass0 (pa_cons (pv 0) (pa_cons pe_int pa_nil))))
      (pss_cut (ps_asg (pe_ix ix_tup (pv 1) (pv 4) (fun _ _ => rfl)) (pg_tup (by rfl) (pgs_cons (pg_name (i := 5) nd rfl (.inl rfl)) (pgs_cons (pg_name (i := 6) nd rfl (.inl rfl)) (pgs_cons (pg_name (i := 7) nd rfl (.inl rfl)) pgs_nil)))))
      (pss_cut (ps_for PassesOwn.never rfl (pi_list (pe_callD0 (ok_wr T) hr1 (.inl rfl) bd_wr pass0)) (pg_name (i := 8) nd rfl (.inl rfl)) (pss_cut (ps_set (i := 9) nd rfl (.inl rfl) (pe_callD (ok_deal T) hr1 (.inl rfl) bd_deal pass0 (pa_cons (pv 0) (pa_cons (pe_callB call_len_seq (by rfl) T.b_len PySem.boot_len (pa_cons (pv 7) pa_nil)) pa_nil)))) (pss_cut (ps_set (i := 10) nd rfl (.inl rfl) (pe_op op_catA (pe_op op_catA (pe_slice sl_tupA (pv 1) po_none (po_some (pv 4))) (pe_tup (pa_cons (pe_tup (pa_cons (pv 5) (pa_cons (pv 6) (pa_cons (pe_op op_catA (pe_op op_catA (pe_slice sl_tupA (pv 7) po_none (po_some (pv 9))) (pe_tup (pa_cons (pv 8) pa_nil))) (pe_slice sl_tupA (pv 7) (po_some (pv 9)) po_none)) pa_nil)))) pa_nil))) (pe_slice sl_tupA (pv 1) (po_some (pe_op op_add (pv 4) pe_int)) po_none))) (pss_one (ps_if (pt_not (pt_val (pe_callD (ok_is T) hr1 (.inr hg) bd_is pass0 (pa_cons (pe_lst (pa_cons (pe_callD (ok_isprog T) hr16 (.inl rfl) bd_isprog pass0 (pa_cons (pv 10) pa_nil)) (pa_cons (pe_callDK (ok_isprog T) hr16 (.inl rfl) bk_isprog (fun r => r) pass0 (pk_cons (pv 10) pk_nil)) pa_nil))) (pa_cons (pe_lst (pa_cons pe_bl (pa_cons pe_bl pa_nil))) pa_nil))))) (pss_one (ps_ret pe_bl)) pss_nil)))))
      (pss_cut (ps_for PassesOwn.never rfl (pi_list (pe_callD (ok_hd T) hr1 (.inl rfl) bd_hd pass0 (pa_cons (pv 1) pa_nil))) (pg_name (i := 10) nd rfl (.inl rfl)) (pss_one (ps_if (pt_not (pt_val (pe_callD (ok_is T) hr1 (.inr hg) bd_is pass0 (pa_cons (pe_callD (ok_isprog T) hr16 (.inl rfl) bd_isprog pass0 (pa_cons (pv 10) pa_nil)) (pa_cons pe_bl pa_nil))))) (pss_one (ps_ret pe_bl)) pss_nil)))
      (pss_cut (ps_set (i := 11) nd rfl (.inl rfl) (pe_callTy call_tuple_of (by rfl) T.b_tuple (by decide +kernel) (pa_cons (pe_lc (own := [("k", 15)]) (g := gName 15) (tt := tYes)  rfl nd (pi_range1 (by rfl) T.b_range (pa_cons pe_int pa_nil)) (blkOk_by (N := ["pail", "program", "some", "had", "spot", "name", "params", "body", "wrong", "at", "other", "lets", "end", "cases", "own", "k", "due"]) (sc := defScope s_law_right) (by decide +kernel)) (fun _ _ _ _ _ => (pg_name (i := 15) nd rfl (Or.inl rfl))) (fun _ _ _ _ _ => pts_nil) (fun _ _ _ _ _ => (pe_tup (pa_cons pe_str (pa_cons (pe_op op_add_str pe_str (pe_callTy call_str_int (by rfl) T.b_str (by decide +kernel) (pa_cons (pv 15) pa_nil))) (pa_cons (pe_tup (pa_cons pe_str (pa_cons pe_int pa_nil))) pa_nil)))))) pa_nil)))
      (pss_cut (ps_set (i := 12) nd rfl (.inl rfl) (pe_tup (pa_cons (pe_tup (pa_cons pe_str (pa_cons pe_int pa_nil))) pa_nil)))
      (pss_cut (ps_set (i := 13) nd rfl (.inl rfl) (pe_lst (pa_cons (pe_tup (pa_cons (pe_callD (ok_deep T) hr1 (.inl rfl) bd_deep pass0 (pa_cons pe_int (pa_cons pe_str pa_nil))) (pa_cons pe_bl pa_nil))) (pa_cons (pe_tup (pa_cons (pe_callD (ok_deep T) hr1 (.inl rfl) bd_deep pass0 (pa_cons pe_int (pa_cons pe_str pa_nil))) (pa_cons pe_bl pa_nil))) (pa_cons (pe_tup (pa_cons (pe_callD (ok_deep T) hr1 (.inl rfl) bd_deep pass0 (pa_cons pe_int (pa_cons pe_str pa_nil))) (pa_cons pe_bl pa_nil))) pa_nil)))))
      (pss_cut (ps_set (i := 13) nd rfl (.inl rfl) (pe_op op_cat (pv 13) (pe_lst (pa_cons (pe_tup (pa_cons (pe_callD (ok_deep T) hr1 (.inl rfl) bd_deep pass0 (pa_cons pe_int (pa_cons pe_str pa_nil))) (pa_cons pe_bl pa_nil))) (pa_cons (pe_tup (pa_cons (pe_op op_catA (pe_slice sl_tupA (pv 11) po_none (po_some pe_int)) (pv 12)) (pa_cons pe_bl pa_nil))) (pa_cons (pe_tup (pa_cons (pe_op op_catA (pv 11) (pv 12)) (pa_cons pe_bl pa_nil))) pa_nil))))))
      (pss_cut (ps_expr (pe_bm PySem.F.plainAttrs_list PySem.F.slot_list_append PySem.F.type_list_append mt_append (pv 13) (pa_cons (pe_tup (pa_cons (pe_op op_catA (pe_op op_catA (pe_slice sl_tupA (pv 11) po_none (po_some pe_int)) (pe_slice sl_tupA (pv 11) po_none (po_some pe_int))) (pv 12)) (pa_cons pe_bl pa_nil))) pa_nil)))
      (pss_cut (ps_setLc (i := 3) (own := [("own", 14), ("due", 16)]) (g := gTup K 2 (gCons (gName 14) (gCons (gName 16) gNil))) (tt := tYes) (by rfl) nd rfl rfl (sw_true rfl rfl rfl (by decide +kernel)) (pi_list (pv 13)) (blkOk_by (N := ["pail", "program", "some", "had", "spot", "name", "params", "body", "wrong", "at", "other", "lets", "end", "cases", "own", "k", "due"]) (sc := defScope s_law_right) (by decide +kernel)) (fun _ _ _ _ _ => pg_tup (by rfl) (pgs_cons (pg_name (i := 14) nd rfl (Or.inl rfl)) (pgs_cons (pg_name (i := 16) nd rfl (Or.inl rfl)) pgs_nil))) (fun _ _ _ _ _ => pts_nil) (fun _ _ _ _ _ => (pe_callD (ok_isprog T) hr16 (.inl rfl) bd_isprog pass0 (pa_cons (pe_tup (pa_cons (pe_tup (pa_cons pe_str (pa_cons (pe_tup pa_nil) (pa_cons (pv 14) pa_nil)))) pa_nil)) pa_nil))))
      (pss_one (ps_ret (pe_callD (ok_is T) hr1 (.inr hg) bd_is pass0 (pa_cons (pv 3) (pa_cons (pe_lc (own := [("own", 14), ("due", 16)]) (g := gTup K 2 (gCons (gName 14) (gCons (gName 16) gNil))) (tt := tYes) (te := tVar 16) rfl nd (pi_list (pv 13)) (blkOk_by (N := ["pail", "program", "some", "had", "spot", "name", "params", "body", "wrong", "at", "other", "lets", "end", "cases", "own", "k", "due"]) (sc := defScope s_law_right) (by decide +kernel)) (fun _ _ _ _ _ => pg_tup (by rfl) (pgs_cons (pg_name (i := 14) nd rfl (Or.inl rfl)) (pgs_cons (pg_name (i := 16) nd rfl (Or.inl rfl)) pgs_nil))) (fun _ _ _ _ _ => pts_nil) (fun _ _ _ _ _ => (pv 16))) pa_nil))))))))))))))))))), ?_⟩
    obtain ⟨qa, qb, qc, hp0⟩ := id hp
    -- the program
    refine ⟨fun σ' H' => ∃ (tops : List Top) (v : V), σ' = [some (.ref p), some v, none, none, none, none, none, none, none, none, none, none, none, none, none, none, none] ∧ okProg tops ∧ Kp [p] H H' ∧ Pail H' p ∧ Dp K (tp H') v (.tuple (tops.map tEnc)), ?_, ?_⟩
    · exact ⟨_, rfl, p, rfl, hp, fun tops v H1 ok k1 P1 d1 => ⟨tops, v, rfl, ok, k1, P1, d1⟩⟩
    rintro _ H1 ⟨tops, v, rfl, ok, k1, P1, hv1⟩
    have PO := PK.prog_ok ok
    have R : ∀ {H' : Hp}, Tp H1 H' → RightP K H' v tops := fun t => ⟨dp_tp (dp_ex t.ex hv1), PO.okd, PO.rightV, fun t ht => PO.okTp ht, by rw [PO.len]; decide⟩
    obtain ⟨pa, ts, rfl, hS1, hts⟩ := dp_tup hv1
    have lts := dpa_len hts
    rw [List.length_map, PO.len] at lts
    -- how many points
    refine ⟨fun σ' H' => σ' = [some (.ref p), some (.ref pa), some (.int (((tops.map fun t => t.2.2.size).sum : Nat) : Int)), none, none, none, none, none, none, none, none, none, none, none, none, none, none] ∧ Ex H1 H', ?_, ?_⟩
    · dsimp only [tAsg, tCB, tCons, tNil]
      refine lc_tup3 (K := K) (R := fun m v => ∃ t : Top, tops[m]? = some t ∧ v = .int ((t.2.2.size : Nat) : Int)) (ev_var rfl) (ex_t tp_sub hS1) (dpa_tp hts) (fun d hd => ?_) (by omega) (fun m x y z v1 v2 v3 H' hm h1 h2 h3 e Q' q => ?_) fun l vs H' nl e hl hvl hR => ?_
      · obtain ⟨t, _, rfl⟩ := List.mem_map.mp hd
        exact ⟨_, _, _, rfl⟩
      · rw [List.getElem?_map] at hm
        obtain ⟨t, ht, et⟩ := Option.map_eq_some_iff.mp hm
        cases et
        have htm := List.mem_of_getElem? ht
        have B := PO.bd t htm
        have hz := PO.size htm
        exact ⟨_, rfl, H1, v3, t.2.2, rfl, e, h3, (PK.gd_sh (n := 0)).2 _ B.gd, B.dp, by omega, fun l G ys nl e2 hl hlen => ⟨l, ys, rfl, .inl (sq_of hl), by rw [hlen]; exact q _ G e2 ⟨t, ht, rfl⟩⟩⟩
      · have ev := vals_of (xs := tops) (f := fun t : Top => V.int ((t.2.2.size : Nat) : Int)) (by rw [hvl, List.length_map]) hR
        refine ⟨l, (tops.map fun t => t.2.2.size).map fun n => ((n : Nat) : Int), rfl, ?_, ?_⟩
        · rw [ev] at hl
          rw [List.map_map, List.map_map]
          exact sq_of hl
        · rw [← sum_cast]
          exact ⟨rfl, e⟩
    rintro _ H2 ⟨rfl, e2⟩
    have len3 := PO.len
    have t2 : Tp H1 H2 := Tp.of e2
    have z90 := PO.sz
    generalize hN : (tops.map fun t => t.2.2.size).sum = N at *
    -- had
    refine ⟨fun σ' H' => ∃ l, σ' = [some (.ref p), some (.ref pa), some (.int (N : Int)), some (.ref l), none, none, none, none, none, none, none, none, none, none, none, none, none] ∧ Ex H2 H' ∧ Dp K H' (.ref l) (.list [.bool true, .bool true, .int (N : Int), .tuple ((tops.map (·.1)).map PyData.str)]), ?_, ?_⟩
    · refine ⟨_, rfl, .ref pa, _, true, rfl, (R t2).dp, PO.okd, PO.rightV, fun H3 e3 => ⟨_, rfl, rfl, .ref pa, _, true, rfl, (R (t2.trans (Tp.of e3))).dp, PO.okd, PO.rightV, fun H4 e4 => ⟨_, rfl, .ref pa, tops, rfl, R (t2.trans (Tp.of (e3.trans e4))), fun H5 e5 => ⟨_, rfl, rfl, .ref pa, tops, rfl, R (t2.trans (Tp.of ((e3.trans e4).trans e5))), fun u H6 e6 hu => ⟨sz_of (by simp), fun l hl => ⟨l, ?_, ((e3.trans e4).trans (e5.trans e6)).trans (Ex.new hl), .lst (sq_of upd_same) (.cons (.bl _) (.cons (.bl _) (.cons ?_ (.cons (dp_ex (Ex.new hl) hu) .nil))))⟩⟩⟩⟩⟩⟩
      · rfl
      · rw [hN]
        exact .int _
    rintro _ H3 ⟨l, rfl, e3, hl3⟩
    have e13 := e2.trans e3
    -- as due
    refine ⟨fun σ' H' => σ' = [some (.ref p), some (.ref pa), some (.int (N : Int)), some (.ref l), none, none, none, none, none, none, none, none, none, none, none, none, none] ∧ Ex H3 H', ?_, ?_⟩
    · refine ⟨_, rfl, _, rfl, ?_⟩
      dsimp only [tCB, tCons, tNil]
      refine lc_tupV (K := K) (R := fun m v => ∃ t : Top, tops[m]? = some t ∧ v = .str t.1) (ev_var rfl) (ex_t (tp_sub.trans e13) hS1) (by omega) (fun m x H' hm e Q' q => ?_) fun l2 vs H' nl e hl2 hvl hR => ?_
      · obtain ⟨d, hd, hx⟩ := dpa_getV hts hm
        rw [List.getElem?_map] at hd
        obtain ⟨t, ht, rfl⟩ := Option.map_eq_some_iff.mp hd
        obtain ⟨c, cs, rfl, hc, hcs⟩ := dp_tup hx
        cases hcs with | cons g0 gr =>
        obtain rfl := dp_str g0
        exact ⟨_, rfl, c, _, 0, _, rfl, rfl, ex_t ((tp_sub.trans e13).trans e) hc, atI_nat (j := 0) rfl, q _ _ (Ex.refl _) ⟨t, ht, rfl⟩⟩
      · have ev := vals_of (xs := tops) (f := fun t : Top => V.str t.1) (by rw [hvl, PO.len]; omega) hR
        refine ⟨l2, vs, rfl, .inl ⟨sq_of hl2, fun t ht => ⟨sz_of (by simp), fun l4 hl4 => ⟨_, _, _, rfl, dp_ex ((e.trans (Ex.new ht)).trans (Ex.new hl4)) hl3, .lst (sq_of upd_same) (.cons (.bl _) (.cons (.bl _) (.cons (.int _) (.cons (.tup (ex_t (Ex.new hl4) (st_of upd_same)) ?_) .nil)))), ?_, true, rfl, itF rfl ⟨rfl, (e.trans (Ex.new ht)).trans (Ex.new hl4)⟩⟩⟩⟩⟩
        · rw [ev]
          have : tops.map (fun t : Top => V.str t.1) = (tops.map (·.1)).map V.str := by rw [List.map_map]; rfl
          rw [this]
          exact dpa_strs _
        · have sn : Sws ((8 + 1) * ((tops.map (·.1)).map PyData.str).length) 0 ((tops.map (·.1)).map PyData.str) := sws_all fun d hd => by
            obtain ⟨x, hx, rfl⟩ := List.mem_map.mp hd
            obtain ⟨t, ht, rfl⟩ := List.mem_map.mp hx
            have h1 := PO.nmOk ht
            exact (sw_str fun c hc => by have := PK.nmS_chars h1 c hc; omega).mono (PK.nmS_len h1) (Nat.le_refl _)
          have hl3 := PO.len
          exact (sw_lst (sws_cons ((sw_bl _).mono (Nat.le_refl _) (Nat.zero_le _)) (sws_cons ((sw_bl _).mono (Nat.le_refl _) (Nat.zero_le _)) (sws_cons ((sw_nat (by omega)).mono (Nat.le_refl _) (Nat.zero_le _)) (sws_cons (sw_tup sn) sws_nil))))).shows (by simp only [List.length_map]; omega) (by decide)
    rintro _ H4 ⟨rfl, e4⟩
    have e14 := e13.trans e4
    have P4 : Pail H4 p := by
      obtain ⟨x, y, z, h⟩ := P1
      exact ⟨x, y, z, e14 _ _ h⟩
    -- a def
    refine ⟨fun σ' H' => ∃ n : Nat, σ' = [some (.ref p), some (.ref pa), some (.int (N : Int)), some (.ref l), some (.int (n : Int)), none, none, none, none, none, none, none, none, none, none, none, none] ∧ n < 3 ∧ Kp [p] H4 H' ∧ Pail H' p, ?_, ?_⟩
    · refine ⟨_, rfl, p, 3, rfl, P4, by decide, by decide, fun j H5 j0 j1 k5 P5 => ⟨j.toNat, ?_, by omega, k5, P5⟩⟩
      rw [Int.toNat_of_nonneg j0]
      rfl
    rintro _ H5 ⟨n, rfl, hn3, k5, P5⟩
    have t15 : Tp H1 H5 := (Tp.of e14).trans (k5.tp fun a ha => by
      rw [List.mem_singleton.mp ha]
      obtain ⟨x, y, z, h⟩ := P4
      exact ⟨_, h⟩)
    obtain ⟨t, ht⟩ : ∃ t : Top, tops[n]? = some t := ⟨_, List.getElem?_eq_getElem (by rw [PO.len]; exact hn3)⟩
    have htm := List.mem_of_getElem? ht
    have B := PO.bd t htm
    have B90 := PO.size htm
    obtain ⟨x0, hx0, hd0⟩ := dpa_get hts (i := n) (d := tEnc t) (by rw [List.getElem?_map, ht]; rfl)
    obtain ⟨c, cs, rfl, hc, hcs⟩ := dp_tup hd0
    cases hcs with | cons g0 gr => cases gr with | cons g1 gr => cases gr with | cons g2 gr => cases gr with | nil =>
    obtain rfl := dp_str g0
    rename_i u2 u3
    obtain ⟨c3, bs, rfl, hS3, hbs⟩ := dp_tup g2
    have lbs := dpa_len hbs
    have lenc := t.2.2.encs_len
    refine ⟨fun σ' H' => σ' = [some (.ref p), some (.ref pa), some (.int (N : Int)), some (.ref l), some (.int (n : Int)), some (.str t.1), some u2, some (.ref c3), none, none, none, none, none, none, none, none, none] ∧ H5 = H', ?_, ?_⟩
    · exact ⟨_, rfl, _, rfl, pa, ts, (n : Int), .ref c, rfl, rfl, ex_t tp_sub (ex_t t15.ex hS1), atI_nat hx0, c, _, rfl, ex_t tp_sub (ex_t t15.ex hc), rfl, _, _, rfl, _, _, rfl, _, _, rfl, rfl, rfl, rfl⟩
    rintro _ _ ⟨rfl, rfl⟩
    -- the wrong ones
    refine ⟨fun σ' H' => ∃ y8 y9 y10 : Option V, σ' = [some (.ref p), some (.ref pa), some (.int (N : Int)), some (.ref l), some (.int (n : Int)), some (.str t.1), some u2, some (.ref c3), y8, y9, y10, none, none, none, none, none, none] ∧ Kp [p] H5 H' ∧ Pail H' p, ?_, ?_⟩
    · refine ⟨rfl, fun lw H6 e6 hlw => ?_⟩
      obtain ⟨ws, hws, dws⟩ := hlw.ex
      have P6 : Pail H6 p := by
        obtain ⟨x, y, z, h⟩ := P5
        exact ⟨x, y, z, e6 _ _ h⟩
      have nlp : lw ≠ p := by
        obtain ⟨x, y, z, h⟩ := P6
        rintro rfl
        rw [h] at hws
        have e := (Option.some.inj hws)
        injection e with e
        have := dpa_len dws
        rw [← e] at this
        have h3 : (3 : Nat) = wrongsD.length := this
        have h41 : wrongsD.length = 41 := by decide +kernel
        omega
      have dws6 : DpAll K (hid [p] H6) ws wrongsD := by
        obtain ⟨x, y, z, h⟩ := P6
        exact dpa_no3 h (dpa_ex hid_ex dws) (by decide +kernel)
      refine ⟨lw, rfl, ⟨ws, sq_of hws⟩, ?_⟩
      refine for_list (K := K) (a := lw) (xs := ws) (fun i σ' H' => ∃ y8 y9 y10 : Option V, σ' = [some (.ref p), some (.ref pa), some (.int (N : Int)), some (.ref l), some (.int (n : Int)), some (.str t.1), some u2, some (.ref c3), y8, y9, y10, none, none, none, none, none, none] ∧ Kp [p] H6 H' ∧ Pail H' p) ⟨none, none, none, rfl, Kp.refl _, P6⟩ (fun i σ' H' _ z => ?_) ?_ (fun σ' H' z => ?_)
      · obtain ⟨_, _, _, _, k, _⟩ := z
        exact kp_l k (by simpa using nlp) (sq_of hws)
      · rintro i x σ' H7 hx ⟨y8, y9, y10, rfl, k7, P7⟩
        obtain ⟨w, hw, hxw⟩ := dpa_getV dws6 hx
        have hwm := List.mem_of_getElem? hw
        have t17 : Tp H1 H7 := (t15.trans (Tp.of e6)).trans (k7.tp fun a ha => by
          rw [List.mem_singleton.mp ha]
          obtain ⟨x, y, z, h⟩ := P6
          exact ⟨_, h⟩)
        -- where
        refine ⟨fun σ' H' => ∃ k : Nat, σ' = [some (.ref p), some (.ref pa), some (.int (N : Int)), some (.ref l), some (.int (n : Int)), some (.str t.1), some u2, some (.ref c3), some x, some (.int (k : Int)), y10, none, none, none, none, none, none] ∧ k < t.2.2.encs.length ∧ Kp [p] H6 H' ∧ Tp H1 H' ∧ Pail H' p, ?_, ?_⟩
        · refine ⟨_, rfl, _, rfl, c3, bs, rfl, .inr (ex_t tp_sub (ex_t t17.ex hS3)), p, (bs.length : Int), rfl, P7, by omega, by omega, fun j H8 j0 j1 k8 P8 => ⟨j.toNat, ?_, by omega, k7.trans k8, t17.trans (k8.tp fun a ha => ?_), P8⟩⟩
          · rw [Int.toNat_of_nonneg j0]
            rfl
          · rw [List.mem_singleton.mp ha]
            obtain ⟨x, y, z, h⟩ := P7
            exact ⟨_, h⟩
        rintro _ H8 ⟨k, rfl, hk, k8, t8, P8⟩
        have hx8 : Dp K H8 x w := dp_ex (k8.ex.trans hid_ex) hxw
        -- the other program
        refine ⟨fun σ' H' => ∃ o, σ' = [some (.ref p), some (.ref pa), some (.int (N : Int)), some (.ref l), some (.int (n : Int)), some (.str t.1), some u2, some (.ref c3), some x, some (.int (k : Int)), some o, none, none, none, none, none, none] ∧ Ex H8 H' ∧ Dp K H' o (.tuple (PK.othW tops n t k w)), ?_, ?_⟩
        · have d1 : Dp K H8 (.ref pa) (.tuple (tops.map tEnc)) := (R t8).dp
          have d5 : Dp K H8 u2 (.tuple (t.2.1.map PyData.str)) := dp_tp (dp_ex t8.ex g1)
          have d7 : Dp K H8 (.ref c3) (.tuple t.2.2.encs) := dp_tp (dp_ex t8.ex (.tup hS3 hbs))
          have evS : EvD K _ [some (.ref p), some (.ref pa), some (.int (N : Int)), some (.ref l), some (.int (n : Int)), some (.str t.1), some u2, some (.ref c3), some x, some (.int (k : Int)), y10, none, none, none, none, none, none] H8 (.tuple (PK.othW tops n t k w)) :=
            evd_catA (evd_catA (evd_slT (evd_var (i := 1) rfl d1) fun _ _ => ev_var (i := 4) rfl)
              (evd_tup (evds_cons (evd_tup (evds_cons (evd_var (i := 5) rfl (.str _)) (evds_cons (evd_var (i := 6) rfl d5) (evds_cons (evd_catA (evd_catA (evd_slT (evd_var (i := 7) rfl d7) fun _ _ => ev_var (i := 9) rfl) (evd_tup (evds_cons (evd_var (i := 8) rfl hx8) evds_nil) (by simp)) (by simp; omega)) (evd_slD (evd_var (i := 7) rfl d7) fun _ _ => ev_var (i := 9) rfl) (by simp; omega)) evds_nil))) (by simp)) evds_nil) (by simp)) (by simp; omega))
              (evd_slD (n := n + 1) (evd_var (i := 1) rfl d1) fun H' _ => ev_add1 (i := 4) rfl) (by simp; omega)
          exact evS H8 (Ex.refl _) _ fun o H9 e9 ho => ⟨o, rfl, e9, ho⟩
        rintro _ H9 ⟨o, rfl, e9, ho⟩
        have okO := PK.oth_okd PO (n := n) (i := k) htm (PK.wrong_sm hwm)
        have rvO := PK.nr_right (PK.wrong_nr PO ht hk (PK.wrong_bad hwm))
        refine ⟨_, rfl, o, _, false, rfl, ho, okO, rvO, fun HA eA => ⟨_, rfl, rfl, o, _, false, rfl, dp_ex eA ho, okO, rvO, fun HB eB => ⟨sz_of (by simp), fun l3 hl3 => ⟨sz_of (by simp), fun l4 hl4 => ⟨_, _, .list ([false, false].map PyData.bool), rfl, dp_ex (Ex.new hl4) (.lst (sq_of upd_same) (dpa_bls [false, false])), .lst (sq_of upd_same) (dpa_bls [false, false]), shows_bls (by simp), true, rfl, itF rfl ⟨_, _, _, rfl, k8.trans (Kp.of ((e9.trans (eA.trans eB)).trans ((Ex.new hl3).trans (Ex.new hl4)))), ?_⟩⟩⟩⟩⟩⟩
        obtain ⟨x, y, z, h⟩ := P8
        exact ⟨x, y, z, ((e9.trans (eA.trans eB)).trans ((Ex.new hl3).trans (Ex.new hl4))) _ _ h⟩
      · obtain ⟨y8, y9, y10, rfl, k7, P7⟩ := z
        exact ⟨_, _, _, rfl, (Kp.of e6).trans k7, P7⟩
    rintro _ H6 ⟨y8, y9, y10, rfl, k6, P6⟩
    have t16 : Tp H1 H6 := t15.trans (k6.tp fun a ha => by
      rw [List.mem_singleton.mp ha]
      obtain ⟨x, y, z, h⟩ := P5
      exact ⟨_, h⟩)
    -- the heads
    refine ⟨fun σ' H' => ∃ y10 : Option V, σ' = [some (.ref p), some (.ref pa), some (.int (N : Int)), some (.ref l), some (.int (n : Int)), some (.str t.1), some u2, some (.ref c3), y8, y9, y10, none, none, none, none, none, none] ∧ Ex H6 H', ?_, ?_⟩
    · have HN := PK.heads_nr PO
      have hne : tops ≠ [] := fun z => by have := PO.len; rw [z] at this; cases this
      have hnm : noMain tops ≠ [] := fun z => by
        obtain ⟨u, hu, e⟩ := List.mem_map.mp (PO.has (x := "g") (by decide +kernel))
        have hm : u ∈ noMain tops := List.mem_filter.mpr ⟨hu, by rw [show u.1 = Str.ofString "g" from e]; decide +kernel⟩
        rw [z] at hm
        cases hm
      refine ⟨_, rfl, .ref pa, tops, rfl, (R t16).dp, by rw [PO.len]; decide, hne, hnm, fun lh H7 e7 hlh => ?_⟩
      obtain ⟨ws, hws, dws⟩ := hlh.ex
      have dws := dpa_ex hid_ex dws
      refine ⟨lh, rfl, ⟨ws, sq_of hws⟩, ?_⟩
      refine for_list (K := K) (a := lh) (xs := ws) (fun i σ' H' => ∃ y10 : Option V, σ' = [some (.ref p), some (.ref pa), some (.int (N : Int)), some (.ref l), some (.int (n : Int)), some (.str t.1), some u2, some (.ref c3), y8, y9, y10, none, none, none, none, none, none] ∧ Ex H7 H') ⟨y10, rfl, Ex.refl _⟩ (fun i σ' H' _ z => ?_) ?_ (fun σ' H' z => ?_)
      · obtain ⟨_, _, e⟩ := z
        exact ex_l e (sq_of hws)
      · rintro i x σ' H8 hx ⟨y10, rfl, e8⟩
        obtain ⟨d, hd, hxd⟩ := dpa_getV dws hx
        obtain ⟨okd1, nr⟩ := HN d (List.mem_of_getElem? hd)
        exact ⟨_, rfl, x, d, false, rfl, dp_ex e8 hxd, okd1, PK.nr_right nr, fun H9 e9 => ⟨_, _, .bool false, rfl, .bl _, .bl _, shows_bl _, true, rfl, itF rfl ⟨_, rfl, e8.trans e9⟩⟩⟩
      · obtain ⟨y10, rfl, e⟩ := z
        exact ⟨_, rfl, e7.trans e⟩
    clear y10
    rintro _ H7 ⟨y10, rfl, e7⟩
    -- many lets
    refine ⟨fun σ' H' => ∃ c11, σ' = [some (.ref p), some (.ref pa), some (.int (N : Int)), some (.ref l), some (.int (n : Int)), some (.str t.1), some u2, some (.ref c3), y8, y9, y10, some c11, none, none, none, none, none] ∧ Ex H7 H' ∧ Dp K H' c11 (.tuple PK.letsD), ?_, ?_⟩
    · dsimp only [tAsg, tCB, tCons, tNil]
      refine ⟨120, rfl, by decide, by decide, fun D nD => ?_⟩
      refine lc_range (lo := 0) (n := (120 : Int).toNat) (fun i H' => GrownD K H7 D ((List.range i).map PK.letV) H') ⟨Ex.new nD, [], upd_same, .nil⟩ ?_ ?_
      · intro i H' hi g
        rw [Int.zero_add]
        have hi2 : i < 120 := hi
        have small : ((i : Nat) : Int).natAbs.log2 < 1920 := by
          have h : ∀ i ∈ List.range 120, decide (((i : Nat) : Int).natAbs.log2 < 1920) = true := by decide +kernel
          exact of_decide_eq_true (h i (List.mem_range.mpr hi2))
        have lsm : (Str.ofString "v").length + (Str.ofString (toString ((i : Nat) : Int))).length ≤ sizeLine := by
          have h : ∀ i ∈ List.range 120, decide ((Str.ofString "v").length + (Str.ofString (toString ((i : Nat) : Int))).length ≤ 100) = true := by decide +kernel
          exact Nat.le_trans (of_decide_eq_true (h i (List.mem_range.mpr hi2))) (by decide)
        have nDH : H' D ≠ none := by
          obtain ⟨_, vs, hD, _⟩ := g
          rw [hD]
          exact fun z => nomatch z
        refine ⟨rfl, lc_yes (use_evb (K := K) (Hb := fun _ => none) (d := PK.letV i) ?_ nDH (fun a o z => nomatch z) fun v H'' e2 r => ?_)⟩
        · exact evb_tup (evbs_cons (evb_c (.str "let")) (evbs_cons (d := .str (PK.nV i)) (fun H' D nD e Q q => ⟨_, rfl, (i : Int), rfl, small, _, _, rfl, rfl, lsm, q _ H' (Ex.refl _) (.str _)⟩) (evbs_cons (evb_tup (evbs_cons (evb_c (.str "atom")) (evbs_cons (evb_c (.int 1)) evbs_nil)) (by simp)) evbs_nil))) (by simp)
        rw [range_succ_map]
        exact g.next nD (by simp; omega) e2 r
      · rintro H' ⟨e, vs, hD, hvs⟩
        refine ⟨D, vs, rfl, .inl ⟨sq_of hD, fun q hq => ⟨.ref q, rfl, e.trans (Ex.new hq), .tup (st_of upd_same) (dpa_ex (hid_ex.trans (Ex.new hq)) hvs)⟩⟩⟩
    rintro _ H8 ⟨c11, rfl, e8, h11⟩
    -- an end
    refine ⟨fun σ' H' => ∃ c12, σ' = [some (.ref p), some (.ref pa), some (.int (N : Int)), some (.ref l), some (.int (n : Int)), some (.str t.1), some u2, some (.ref c3), y8, y9, y10, some c11, some c12, none, none, none, none] ∧ Ex H8 H' ∧ Dp K H' c12 (.tuple PK.endL), ?_, ?_⟩
    · exact (evd_tup (evds_cons (evd_tup (evds_cons (evd_ev ev_c (.str _)) (evds_cons (evd_ev ev_c (.int _)) evds_nil)) (by simp)) evds_nil) (by simp)) H8 (Ex.refl _) _ fun u H9 e9 hu => ⟨u, rfl, e9, hu⟩
    rintro _ H9 ⟨c12, rfl, e9, h12⟩
    -- the cases
    refine ⟨fun σ' H' => ∃ q, σ' = [some (.ref p), some (.ref pa), some (.int (N : Int)), some (.ref l), some (.int (n : Int)), some (.str t.1), some u2, some (.ref c3), y8, y9, y10, some c11, some c12, some (.ref q), none, none, none] ∧ Ex H9 H' ∧ LsD K H' q ((PK.casesD.take 3).map fun c : List PyData × Bool => (.tuple [.tuple c.1, .bool c.2] : PyData)), ?_, ?_⟩
    · dsimp only [tAsg]
      have ev : EvDs K _ [some (.ref p), some (.ref pa), some (.int (N : Int)), some (.ref l), some (.int (n : Int)), some (.str t.1), some u2, some (.ref c3), y8, y9, y10, some c11, some c12, none, none, none, none] H9 ((PK.casesD.take 3).map fun c : List PyData × Bool => (.tuple [.tuple c.1, .bool c.2] : PyData)) := evds_cons (evd_tup (evds_cons (evd_deepc (E := E0) (n := 6) (w := "if") (by decide) (by decide +kernel)) (evds_cons (evd_ev ev_c (.bl _)) evds_nil)) (by simp)) (evds_cons (evd_tup (evds_cons (evd_deepc (E := E0) (n := 7) (w := "if") (by decide) (by decide +kernel)) (evds_cons (evd_ev ev_c (.bl _)) evds_nil)) (by simp)) (evds_cons (evd_tup (evds_cons (evd_deepc (E := E0) (n := 3) (w := "fun") (by decide) (by decide +kernel)) (evds_cons (evd_ev ev_c (.bl _)) evds_nil)) (by simp)) evds_nil))
      exact (evl_lst ev (by decide)) H9 (Ex.refl _) _ fun q HA _ eA hq => ⟨q, rfl, eA, hq⟩
    rintro _ HA ⟨q, rfl, eA, hqA⟩
    refine ⟨fun σ' H' => ∃ q, σ' = [some (.ref p), some (.ref pa), some (.int (N : Int)), some (.ref l), some (.int (n : Int)), some (.str t.1), some u2, some (.ref c3), y8, y9, y10, some c11, some c12, some (.ref q), none, none, none] ∧ Ex HA H' ∧ H9 q = none ∧ LsD K H' q ((PK.casesD.take 6).map fun c : List PyData × Bool => (.tuple [.tuple c.1, .bool c.2] : PyData)), ?_, ?_⟩
    · dsimp only [tAsg]
      have d11 := dp_ex (e9.trans eA) h11
      have d12 := dp_ex eA h12
      have ev : EvDs K _ [some (.ref p), some (.ref pa), some (.int (N : Int)), some (.ref l), some (.int (n : Int)), some (.str t.1), some u2, some (.ref c3), y8, y9, y10, some c11, some c12, some (.ref q), none, none, none] HA (((PK.casesD.drop 3).take 3).map fun c : List PyData × Bool => (.tuple [.tuple c.1, .bool c.2] : PyData)) := evds_cons (evd_tup (evds_cons (evd_deepc (E := E0) (n := 4) (w := "fun") (by decide) (by decide +kernel)) (evds_cons (evd_ev ev_c (.bl _)) evds_nil)) (by simp)) (evds_cons (evd_tup (evds_cons (evd_catA (evd_slT (n := 119) (evd_var (i := 11) rfl d11) fun _ _ => ev_c) (evd_var (i := 12) rfl d12) (by decide)) (evds_cons (evd_ev ev_c (.bl _)) evds_nil)) (by simp)) (evds_cons (evd_tup (evds_cons (evd_catA (evd_var (i := 11) rfl d11) (evd_var (i := 12) rfl d12) (by decide)) (evds_cons (evd_ev ev_c (.bl _)) evds_nil)) (by simp)) evds_nil))
      exact (evl_cat (evl_var (i := 13) rfl hqA) (evl_lst ev (by decide)).e (by decide)) HA (Ex.refl _) _ fun q HB nq eB hq => ⟨q, rfl, eB, fresh_back eA nq, hq⟩
    clear hqA q
    rintro _ HB ⟨q, rfl, eB, nq, hqB⟩
    refine ⟨fun σ' H' => σ' = [some (.ref p), some (.ref pa), some (.int (N : Int)), some (.ref l), some (.int (n : Int)), some (.str t.1), some u2, some (.ref c3), y8, y9, y10, some c11, some c12, some (.ref q), none, none, none] ∧ Ex H9 H' ∧ LsD K H' q (PK.casesD.map fun c : List PyData × Bool => (.tuple [.tuple c.1, .bool c.2] : PyData)), ?_, ?_⟩
    · obtain ⟨vs, hvs, dvs⟩ := hqB.ex
      refine ⟨_, rfl, .inl ⟨rfl, _, sq_of hvs⟩, ?_⟩
      have d11 := dp_ex ((e9.trans eA).trans eB) h11
      have d12 := dp_ex (eA.trans eB) h12
      have ev : EvD K _ [some (.ref p), some (.ref pa), some (.int (N : Int)), some (.ref l), some (.int (n : Int)), some (.str t.1), some u2, some (.ref c3), y8, y9, y10, some c11, some c12, some (.ref q), none, none, none] HB (.tuple [.tuple ((PK.letsD.take 2 ++ PK.letsD.take 1) ++ PK.endL), .bool false]) := evd_tup (evds_cons (evd_catA (evd_catA (evd_slT (n := 2) (evd_var (i := 11) rfl d11) fun _ _ => ev_c) (evd_slT (n := 1) (evd_var (i := 11) rfl d11) fun _ _ => ev_c) (by decide)) (evd_var (i := 12) rfl d12) (by decide)) (evds_cons (evd_ev ev_c (.bl _)) evds_nil)) (by simp)
      dsimp only [tCons, tNil]
      refine ev HB (Ex.refl _) _ fun v HC eC hv => ?_
      obtain ⟨ws, hws, lws, hqC⟩ := lsd_app (hqB.mono eC) hv (by decide +kernel)
      refine ⟨q, ws, v, rfl, rfl, hws, ?_, rfl, fun a o ha => ?_, hqC⟩
      · rw [lws]; decide
      · rw [upd_ne (ne_of_none ha nq)]
        exact eC _ _ (eB _ _ (eA _ _ ha))
    rintro _ HC ⟨rfl, eC, hqC⟩
    obtain ⟨cv, hcv, dcv⟩ := hqC.ex
    have dcv := dpa_ex hid_ex dcv
    have lcv := dpa_len dcv
    have h2 : ∀ d ∈ PK.casesD.map (fun c : List PyData × Bool => (.tuple [.tuple c.1, .bool c.2] : PyData)), ∃ x y, d = .tuple [x, y] := fun d hd => by
      obtain ⟨c, _, rfl⟩ := List.mem_map.mp hd
      exact ⟨_, _, rfl⟩
    have done : ∀ {H' : Hp}, Ex HC H' → Kp [p] H H' := fun e => ((k1.trans (Kp.of e14)).trans k5).trans (k6.trans (Kp.of ((e7.trans e8).trans ((e9.trans eC).trans e))))
    -- had
    refine ⟨fun σ' H' => ∃ l2, σ' = [some (.ref p), some (.ref pa), some (.int (N : Int)), some (.ref l2), some (.int (n : Int)), some (.str t.1), some u2, some (.ref c3), y8, y9, y10, some c11, some c12, some (.ref q), none, none, none] ∧ Ex HC H' ∧ Dp K H' (.ref l2) (.list ((PK.casesD.map (·.2)).map PyData.bool)), ?_, ?_⟩
    · refine lc_list2 (K := K) (R := fun m v => ∃ c, PK.casesD[m]? = some c ∧ v = .bl c.2) (ev_var rfl) (sq_of hcv) dcv h2 (by rw [lcv]; decide) (fun m x y v1 v2 H' hm h1 h2 e Q' q => ?_) fun l2 vs H' nl e hl hvl hR => ?_
      · rw [List.getElem?_map] at hm
        obtain ⟨c, hc, et⟩ := Option.map_eq_some_iff.mp hm
        cases et
        obtain ⟨ok1, rv1⟩ := PK.cases_ok c (List.mem_of_getElem? hc)
        dsimp only [tCall]
        refine use_arg (K := K) (d := PK.mainD c.1) ?_ fun v G eG hv => ⟨v, _, c.2, rfl, hv, ok1, rv1, fun G2 eG2 => q _ G2 (eG.trans eG2) ⟨c, hc, rfl⟩⟩
        exact evd_tup (evds_cons (evd_tup (evds_cons (evd_ev ev_c (.str "main")) (evds_cons (evd_tup evds_nil (by simp)) (evds_cons (evd_var (i := 14) rfl (dp_ex e h1)) evds_nil))) (by simp)) evds_nil) (by simp)
      · have ev := vals_of (xs := PK.casesD) (f := fun c => V.bl c.2) (by rw [hvl, List.length_map]) hR
        refine ⟨l2, rfl, e, .lst (sq_of hl) ?_⟩
        rw [ev]
        have : PK.casesD.map (fun c => V.bl c.2) = (PK.casesD.map (·.2)).map V.bl := by rw [List.map_map]; rfl
        rw [this]
        exact dpa_bls _
    rintro _ HD ⟨l2, rfl, eD, hl2⟩
    refine ⟨_, rfl, ?_⟩
    dsimp only [tCons, tNil]
    refine lc_list2 (K := K) (R := fun m v => ∃ c, PK.casesD[m]? = some c ∧ v = .bl c.2) (ev_var rfl) (sq_of (eD _ _ hcv)) (dpa_ex eD dcv) h2 (by rw [lcv]; decide) (fun m x y v1 v2 H' hm h1 h2 e Q' q => ?_) fun l3 vs H' nl e hl hvl hR => ?_
    · rw [List.getElem?_map] at hm
      obtain ⟨c, hc, et⟩ := Option.map_eq_some_iff.mp hm
      cases et
      cases h2
      exact ⟨_, rfl, q _ H' (Ex.refl _) ⟨c, hc, rfl⟩⟩
    · have ev := vals_of (xs := PK.casesD) (f := fun c => V.bl c.2) (by rw [hvl, List.length_map]) hR
      refine ⟨_, _, _, rfl, dp_ex e hl2, .lst (sq_of hl) ?_, shows_bls (by decide), kk H' (done (eD.trans e))⟩
      rw [ev]
      have : PK.casesD.map (fun c => V.bl c.2) = (PK.casesD.map (·.2)).map V.bl := by rw [List.map_map]; rfl
      rw [this]
      exact dpa_bls _
end
end K4

set_option maxHeartbeats 4000000
namespace K4
open PySem L2 Evl DL PJ PG TL
section
variable {P : Program} {w : World} {K : PySem.W.Frag} {mg : Str → Option Value} {base : Heap}
theorem exm {H H4 : Hp} {D : Addr} {o : HO} (e : Ex H H4) (h : H D = none) : Ex H (upd H4 D o) := fun x u hx => by
  rw [upd_ne (ne_of_none hx h)]
  exact e x u hx
def spLaw (K : PySem.W.Frag) : Sp := fun vs H Q _ => ∃ (a : Addr) (ns : List Int), vs = [.ref a] ∧ SqL K H a (ns.map V.int) ∧ ns.length ≤ 63 ∧ ∀ H', Q (.bl true) H'
theorem bd_law : BindP "law" s_law ["script"] := fun _ _ _ _ _ _ us hl => match us, hl with | [_], _ => rfl
theorem ok_law (T : Txt K mg) : DefOk P w K mg base CX0 true 19 "law" s_law ["script"] (spLaw K) := by
  refine T.d_law.okG scs_law (fun vs H Q E h => ?_) (fun f cdv A outer s0 H vs Q E hg hr h => ?_)
  · obtain ⟨a, ns, rfl, _⟩ := h
    rfl
  · obtain ⟨a, ns, rfl, hS, hl, kk⟩ := h
    have nd := scs_law.nd
    have hr1 : Room 1 _ := hr.mono (by decide)
    refine ⟨_, pss_one (ps_ret (pe_callB (cr_all rfl) (by rfl) T.b_all (by decide +kernel) (pa_cons
      (pe_lc (own := [("turn", 1)]) (g := gName 1) (tt := tYes) rfl nd (pi_range1 (by rfl) T.b_range (pa_cons (pe_callB (call_max2 rfl) (by rfl) T.b_max (by decide +kernel) (pa_cons pe_int (pa_cons
          (pe_callB (call_min2 rfl) (by rfl) T.b_min (by decide +kernel) (pa_cons (pe_callB call_len_seq (by rfl) T.b_len PySem.boot_len (pa_cons (pv 0) pa_nil)) (pa_cons pe_int pa_nil))) pa_nil))) pa_nil))
        (blkOk_by (N := ["script", "turn"]) (sc := defScope s_law) (by decide +kernel)) (fun _ _ _ _ _ => pg_name (i := 1) nd rfl (Or.inl rfl)) (fun _ _ _ _ _ => pts_nil)
        (fun _ _ _ _ _ => pe_callD (ok_rgt T) hr (.inr hg) bd_rgt pass0 (pa_cons (pe_callD (ok_pail T) hr1 (.inl rfl) bd_pail pass0 (pa_cons (pv 0) (pa_cons (pv 1) pa_nil))) pa_nil))) pa_nil))), ?_⟩
    have hb : ∃ n : Nat, n ≤ 5 ∧ (if (if (5 : Int) < (((ns.map V.int).length : Nat) : Int) then (5 : Int) else (((ns.map V.int).length : Nat) : Int)) > 3 then (if (5 : Int) < (((ns.map V.int).length : Nat) : Int) then (5 : Int) else (((ns.map V.int).length : Nat) : Int)) else (3 : Int)) = (n : Int) := by
      generalize (ns.map V.int).length = m
      by_cases h5 : (5 : Int) < (m : Int)
      · exact ⟨5, by decide, by rw [if_pos h5]; rfl⟩
      · rw [if_neg h5]
        by_cases h3 : (m : Int) > 3
        · exact ⟨m, by omega, by rw [if_pos h3]⟩
        · exact ⟨3, by decide, by rw [if_neg h3]; rfl⟩
    obtain ⟨n, hn, hb⟩ := hb
    refine ⟨_, rfl, a, _, rfl, .inl hS, _, _, rfl, _, _, rfl, ?_⟩
    rw [hb]
    refine ⟨_, rfl, by omega, by omega, fun D hD => ?_⟩
    refine lc_range (lo := 0) (n := ((n : Int)).toNat) (fun i H' => Ex H H' ∧ H' D = some (.lst ((List.replicate i true).map V.bl))) ⟨exm (Ex.refl H) hD, upd_same⟩ ?_ ?_
    · rintro i H1 hi ⟨e1, hDD⟩
      have hi5 : i < 5 := by omega
      refine ⟨rfl, lc_yes ⟨_, rfl, _, rfl, a, ns, i, by show [V.ref a, V.int (0 + (i : Int))] = _; rw [Int.zero_add], ex_l e1 hS, by omega, fun p H2 hp e2 P2 => ⟨p, rfl, P2, fun H3 k3 => ⟨_, k3 D _ (fun h => by rw [List.mem_singleton.mp h, hp] at hDD; cases hDD) (e2 D _ hDD), ?_, ?_, ?_⟩⟩⟩⟩
      · rw [List.length_map, List.length_replicate]
        exact Nat.lt_of_lt_of_le hi5 (by decide)
      · refine exm (fun b o hb => ?_) hD
        refine k3 b o (fun h => ?_) (e2 b o (e1 b o hb))
        have := e1 b o hb
        rw [List.mem_singleton.mp h, hp] at this
        cases this
      · rw [upd_same, List.replicate_succ', List.map_append]
        rfl
    · rintro H1 ⟨e1, hDD⟩
      refine ⟨D, _, rfl, sq_of hDD, ?_⟩
      have : (List.replicate (n : Int).toNat true).all id = true := by rw [List.all_replicate]; cases (n : Int).toNat <;> rfl
      rw [this]
      exact kk _
end
end K4

set_option maxHeartbeats 4000000
namespace DL
open PySem L2 Evl PySem.Spec PyProof.Rows PySem.W PySem.Calls
/-! ### super().__init__(x) of an exception -/
section
variable {prog : Program} {w : World} {A : Around} {E : Value → Shared → Prop} {h : Heap} {g : Array GenState} {d : Drawn} {t : Nat} {os : OsState}
variable {nm q : Str} {C N : Addr} {bs bm bmB : List Value} {hdct : Bool} {sn : List Str} {sub : List Value} {ab : Bool} {col : Option Bool} {dd : Option Addr} {k0 k1 k2 k3 k5 : Option Value} {B newId initId : String}
theorem call_mw (hl : initId.startsWith "lifetime." = false) (FB : ExcBaseFacts B newId initId bmB) {u e t0 : Addr} {rest : List Value} {Q : Value → Shared → Prop}
    (hC : h.get? C = some (excClassObj nm q C N bs bm hdct sn sub ab col dd k0 k1 k2 k3 k5 newId)) (he : h.get? e = some (HandSPX.excO C t0)) (hu : h.get? u = some (kxs_mw initId e)) (hz : rest.length ≤ sizeLine)
    (hq : ∀ h2 t1, (∀ b o, b ≠ e → h.get? b = some o → h2.get? b = some o) → h2.get? e = some (HandSPX.excO C t1) → Q .none ⟨h2, g, d, t, os⟩) :
    wpAny (model prog w) A (call (.ref u) rest) Q E ⟨h, g, d, t, os⟩ := by
  refine wpAny_call (codeAny_of_tree ?_)
  show wpAny _ A.in1 (callAny (.ref u) ⟨rest, []⟩) _ _ _
  simp only [callAny]
  refine wpAny_bind (wpAny_load hu ?_)
  have isMw : (Value.type "method-wrapper" == Value.type "method" || Value.type "method-wrapper" == Value.type "builtin_function_or_method" || Value.type "method-wrapper" == Value.type "method-wrapper") = true := by decide
  simp only [kxs_mw, isMw, if_true]
  refine KFB.if_so (by decide) (wpAny_bind (check_bound_init FB.toExcCallFacts hC he rfl (wpAny_pure ?_)))
  refine ⟨Code.quiet_builtin _ hl, codeAny_builtin FB.initEntry ?_⟩
  rw [Around.under_plainId FB.init.plain _]
  wp_walk
  refine hq _ h.objs.size (fun b o hb ho => ?_) ?_
  · exact (Heap.get?_update_other _ _ (Ne.symm hb)).trans (Heap.get?_push_of_some _ ho)
  · exact Heap.get?_update_self _ (Heap.get?_push_of_some _ he) rfl
end
/-! ### the def __init__(self, x): super().__init__(x); self.f = x -/
section
variable {P : Program} {w : World} {K : Frag} {mg : Str → Option Value} {base : Heap} {A : Around} {outer : List Env} {s : Shared} {H : Hp}
/-- the context of its body -/
def cxS (P : Program) (w : World) (K : Frag) (mg : Str → Option Value) (base : Heap) (N : List Str) (qual : Str) (scope : Scope) (f : Addr) (cdv : Value) (cc : Addr) (A : Around) (outer : List Env) (s : Shared) (H : Hp) : Cx where
  prog := P
  w := w
  K := K
  mg := mg
  base := base
  A := A.deeper (ksEnv qual scope s.heap.objs.size f cdv cc)
  N := N
  s_0 := s
  H_0 := H
  env := ksEnv qual scope s.heap.objs.size f cdv cc
  outer := outer
  stack := ksEnv qual scope s.heap.objs.size f cdv cc :: outer
  ex := []
  fn := fun x => x != "__class__"
  calm := true
  pn := []
  xe := fun _ _ => False
/-- what the def's scope is -/
structure SupScope (a x : Str) (sc : Scope) : Prop where
  kind : sc.kind = .function
  co : sc.isCoroutine = false
  gen : sc.isGenerator = false
  ne : a ≠ x
  nc : a ≠ "__class__"
  nx : x ≠ "__class__"
  cell : ∀ y ∈ sc.names, y.2 ≠ .cell
  free : ∀ y ∈ sc.names, y.2 = .free → y.1 = "__class__"
  la : sc.names.lookup a = some .local
  lx : sc.names.lookup x = some .local
  lc : sc.names.lookup ("__class__" : Str) = some .free
  ls : sc.names.lookup ("super" : Str) = some .globalImplicit
theorem inv_super {a x qual : Str} {scope : Scope} {f cc : Addr} {cdv ua ux : Value} {va vx : V} {h0 : Heap} {tk : Nat} {oc : Obj} {vcell : Option Value} (S : SupScope a x scope) (hd : A.handled = none) (e0 : Env0 P w K mg base A outer s H) (ra : RelV va ua) (rx : RelV vx ux)
    (hcc : K.lookup cc = some oc) (hoc : oc.data = .cell vcell)
    (hns : h0.Ns s.heap.objs.size (fun y => ([(a, ua), (x, ux)] : List (Str × Value)).reverse.lookup y)) (hk : ∀ b o, s.heap.get? b = some o → h0.get? b = some o) :
    L2.Inv (cxS P w K mg base [a, x] qual scope f cdv cc A outer s H) [] [some va, some vx] H { s with heap := h0, toks := tk } := by
  have KB := e0.mod.kin _ _ hcc
  have hHcc := (e0.bs _ _ KB).2
  have lk1 : ∀ (y : Str) (c : Addr), ([("__class__", cc)] : List (Str × Addr)).lookup y = some c → y = "__class__" ∧ c = cc := by
    intro y c h
    by_cases e : y = "__class__"
    · subst e
      simp [List.lookup] at h
      exact ⟨rfl, h.symm⟩
    · have : (y == ("__class__" : Str)) = false := by simpa using e
      simp [List.lookup, this] at h
  have noA : ∀ b : Addr, b ∉ (cxS P w K mg base [a, x] qual scope f cdv cc A outer s H).ex := fun b z => absurd (show b ∈ ([] : List Addr) from z) (by simp)
  have cdf : h0.get? cc = some oc := hk _ _ (e0.bs _ _ KB).1
  refine ⟨⟨e0.mod, S.kind, rfl, rfl, Nat.le_refl _, fun y z c h1 h2 => ?_, fun y hy => ?_, fun y c hfn h => ?_, fun _ => hd, Around.frames_deeper e0.frames, .inr ⟨rfl, rfl⟩, fun b z => absurd z (noA b), e0.bs, e0.bsz, fun b _ _ => noA b, fun b z => absurd z (noA b), e0.funs, e0.frf⟩,
    rfl, e0.bare, Un.kept hk, ⟨_, hns, fun i y v h1 h2 h3 => ?_⟩, fun y c h => ⟨vcell, ?_⟩, e0.hok.fresh (Nat.le_refl _), fun y c h => ?_, fun p hp => absurd (show p ∈ ([] : List (Addr × Obj)) from hp) (by simp), e0.hok.kept hk, rfl⟩
  · rw [(lk1 _ _ h1).1, (lk1 _ _ h2).1]
  · have hy : scope.names.lookup y = some .cell ∨ scope.names.lookup y = some .free := hy
    rcases hy with hy | hy
    · exact absurd rfl (S.cell _ (PySem.mem_of_lookup hy))
    · have := S.free _ (PySem.mem_of_lookup hy) rfl
      exact ⟨cc, by rw [show y = "__class__" from this]; rfl⟩
  · have e := (lk1 _ _ h).1
    subst e
    exact absurd (show (("__class__" : Str) != "__class__") = true from hfn) (by decide +kernel)
  · have nxa : (x == a) = false := by simpa using fun e : x = a => S.ne e.symm
    have nax : (a == x) = false := by simpa using S.ne
    match i, h1, h2 with
    | 0, h1, h2 =>
      have e1 : y = a := (Option.some.inj h1).symm
      have e2 : v = va := by simpa using h2.symm
      subst e1; subst e2
      refine ⟨ua, ra, .inl ⟨S.la, ?_⟩⟩
      simp [List.lookup, nax]
    | 1, h1, h2 =>
      have e1 : y = x := (Option.some.inj h1).symm
      have e2 : v = vx := by simpa using h2.symm
      subst e1; subst e2
      refine ⟨ux, rx, .inl ⟨S.lx, ?_⟩⟩
      simp [List.lookup]
    | n + 2, h1, h2 => simp at h2
  · have e := (lk1 _ _ h).2
    subst e
    exact ⟨oc, cdf, hoc⟩
  · rw [(lk1 _ _ h).2]
    exact hHcc
/-- what __init__ wishes: the exception that is being made, the value -/
def spInit (K : Frag) (D : Addr) (fld : Str) : Sp := fun vs H Q _ => ∃ (e C : Addr) (y : V), vs = [.ref e, y] ∧ H e = some (exo e C none) ∧ OexC K C ∧ findIn K (.ref C) fld = some none ∧ mroIn K C (.ref D) = some true ∧
  ks_superIn K C D "__init__" = some (some (.builtin "ValueError.__init__")) ∧ subIn K (.ref C) (.type "ValueError") = some true ∧
  ∀ dx, H dx = none → dx ≠ e → Q .non (upd (upd H dx (exd dx [(fld, y)])) e (exo e C (some dx)))
variable {CX : CXT} {k : Nat} {f cc cda D : Addr} {name qual fld a x file : Str} {params : Arguments} {body : List Stmt} {scope : Scope} {dV kV doc pm ct oc ccl cl : Value} {an od cdd cld : Option Addr} {osl ccs csl : Array (Option Value)} {ar : Arg} {vs : Array Value} {tf : Tok} {cdD : ClassData}
  {p0 p1 p2 p3 p4 p5 p6 p7 p8 p9 : Pos}
theorem fn_super (lk : K.lookup f = some ⟨oc, od, .func (ksFn name qual params body scope dV kV doc pm an (.ref cda) ct cc), osl⟩)
    (hbd : body = [.Expr (.Call (.Attribute (.Call (.Name "super" p0) [] [] p1) "__init__" p2) [.Name x p3] [] p4) p5, .Assign [.Attribute (.Name a p6) fld p7] (.Name x p8) p9])
    (hcd : codeIn K (.ref cda) qual = true) (S : SupScope a x scope) (hp : (params.posonlyargs ++ params.args).head? = some ar) (har : ar.arg = a)
    (hcode : K.lookup cda = some ⟨ccl, cdd, .fields vs, ccs⟩) (hvs : vs[2]? = some (.str file tf)) (hfile : ((P.main.file : Str) == file) = true)
    (hcell : K.lookup cc = some ⟨cl, cld, .cell (some (.ref D)), csl⟩) (hD : clsIn K D = some cdD) (hsm : mg "super" = none) (htop : (P.main.scope.names.lookup ("super" : Str)).isSome = false) (hot : nsIn K cStatics "thirdparty.any" = some none)
    {pl : Addr → Sem Bool} (hc : ∀ L : Addr, eval (.Call (.Attribute (.Call (.Name "super" p0) [] [] p1) "__init__" p2) [.Name x p3] [] p4) (ksEnv qual scope L f (.ref cda) cc) = (do
      let ov ← attributeBase (.Call (.Name "super" p0) [] [] p1) "__init__" (ksEnv qual scope L f (.ref cda) cc) (eval (.Call (.Name "super" p0) [] [] p1) (ksEnv qual scope L f (.ref cda) cc))
      standAt p2.atName
      let (m, first) ← holding [ov] (getMethod ov "__init__" (pl L))
      callWith p4 m first (backTo p4 (starEach [.Name x p3] (ksEnv qual scope L f (.ref cda) cc))) []))
    (hda : (a == ("__debug__" : Str)) = false) (hca : (a == ("__classdict__" : Str)) = false) (hdx : (x == ("__debug__" : Str)) = false) (hcx : (x == ("__classdict__" : Str)) = false) :
    FnOk P w K mg base CX (k + 1) f (ksFn name qual params body scope dV kV doc pm an (.ref cda) ct cc) [a, x] (spInit K D fld) := by
  subst hbd
  refine ⟨fun vs H Q E h => ?_, fun A outer s H args us vals Q E hr e0 hb r hsp => ?_⟩
  · obtain ⟨e, C, y, rfl, _⟩ := h
    rfl
  obtain ⟨e, C, y, rfl, he, T, hno, hmro, hsup, hsub, kk⟩ := hsp
  obtain ⟨ue, uy, rfl, re, ry⟩ := vals2 r
  obtain rfl : ue = Value.ref e := re
  have KX : K.In s.heap := e0.mod.kin.keeps fun b o z => (e0.bs b o z).1
  have lim : s.heap.NoLimit := e0.mod.nolimit.keeps fun b o z => (e0.bs b o z).1
  refine ks_codeAny_call_defAt (fd := ksFn name qual params _ scope dV kV doc pm an (.ref cda) ct cc) (binds := [(a, .ref e), (x, uy)]) hr.depth (KX _ _ lk) rfl lim (codeRec_of KX hcd) rfl hb S.cell (fun z hz => ?_) (fun h0 hns hk => ?_) S.co S.gen S.kind
  · rcases List.mem_cons.mp hz with z1 | z1
    · rw [z1]; exact S.la
    · rw [List.mem_singleton.mp z1]; exact S.lx
  have I0 := inv_super (qual := qual) (f := f) (cdv := .ref cda) (tk := s.toks + 2) S hr.hd e0 (va := .ref e) (ua := .ref e) (ra := rfl) (rx := ry) hcell rfl hns hk
  have KI : K.In h0 := I0.kIn
  obtain ⟨nm, q, N, bs, bm, sn, sub, ab, col, dd, k0, k1, k2, k3, k5, hC, hbm⟩ := T.cls
  obtain ⟨t1, ho⟩ := exo_at I0.hok he
  obtain ⟨hp0, g0, d0, t0, os0⟩ := s
  have hEnv : callEnv (ksFn name qual params [.Expr (.Call (.Attribute (.Call (.Name "super" p0) [] [] p1) "__init__" p2) [.Name x p3] [] p4) p5, .Assign [.Attribute (.Name a p6) fld p7] (.Name x p8) p9] scope dV kV doc pm an (.ref cda) ct cc) hp0.objs.size f = ksEnv qual scope hp0.objs.size f (.ref cda) cc := rfl
  rw [hEnv]
  obtain ⟨mb, bl1, bl2⟩ := I0.mod.blt
  obtain ⟨oD, hD1, hD2⟩ : ∃ oD, h0.get? D = some oD ∧ oD.data = .cls cdD := by
    unfold clsIn at hD
    split at hD
    · rename_i c1 d1 cd1 sl1 hl1
      exact ⟨_, KI _ _ hl1, congrArg Data.cls (Option.some.inj hD)⟩
    · cases hD
  have hne : (x == a) = false := by simpa using fun z : x = a => S.ne z.symm
  have hna : (a == x) = false := by simpa using S.ne
  refine ks_wpAt_execs_cons (ks_wpAt_Expr_any (ks_wpAt_MethodCall (ks_wpAt_super_base (env := ksEnv qual scope hp0.objs.size f (.ref cda) cc) S.ls S.lc (by decide +kernel) rfl (KI _ _ lk) rfl hp rfl (KI _ _ hcode) rfl hvs hfile htop ?_) (hc _)) ?_ ?_)
  · refine ks_loadName_global S.kind S.ls (loadGlobal_builtin (I0.mod.glob.keeps I0.bk) hsm (bl1.keeps I0.bk) ((bl2 _ (by decide +kernel)).trans (by decide +kernel)) ⟨rfl, ?_⟩)
    refine wpAny_loadName_free S.kind S.lc rfl ⟨_, KI _ _ hcell, rfl⟩ ?_
    rw [har]
    refine wpAny_loadName_local S.kind S.la hns (v := .ref e) (by simp [List.lookup, hna]) ?_
    refine ks_wpAny_isType_cls hD1 hD2 ⟨rfl, ?_⟩
    refine ks_wpAny_call_super hD1 hD2 ho rfl (fun c z => nomatch z) (looks_mroIn KI hmro) (fun h1 hso k1 => ?_)
    have K1 : K.In h1 := KI.keeps k1
    have ho1 := k1 _ _ ho
    have hsz : h0.objs.size < h1.objs.size := Heap.lt_size hso
    cases hcl : clsIn K C with
    | none =>
      unfold ks_superIn at hsup
      rw [hcl] at hsup
      cases hsup
    | some cd =>
      unfold ks_superIn at hsup
      rw [hcl] at hsup
      have inst : InstAt h1 e { cls := .ref C, dict := none, data := .fields #[.ref t1, .none, .none, .none, .bool false, .none] } C none := ⟨ho1, rfl, rfl, trivial⟩
      refine kxs_getMethod kxs_ValueError hso (looks_opaque K1 hot) (l₀ := cd.mro) (fun A Q E s k q => wpAny_bind ((looks_clsIn K1 hcl) A _ E s k (wpAny_pure q))) rfl K1 hsup (inst.type.andThen (looks_subIn K1 hsub)) (ks_ne K1 inst hcl) (by decide +kernel) ?_
      have hee : starEach [.Name x p3] (ksEnv qual scope hp0.objs.size f (.ref cda) cc) = (false, eval (.Name x p3) (ksEnv qual scope hp0.objs.size f (.ref cda) cc)) :: starEach [] (ksEnv qual scope hp0.objs.size f (.ref cda) cc) := rfl
      have k2 : ∀ b o, h1.get? b = some o → (h1.push (kxs_mw "ValueError.__init__" e)).get? b = some o := fun b o z => Heap.get?_push_of_some _ z
      show wpAny _ _ (callWith p4 (.ref h1.objs.size) [] (backTo p4 (starEach [.Name x p3] (ksEnv qual scope hp0.objs.size f (.ref cda) cc))) []) _ _ _
      refine kxs_callWith (i := "ValueError.__init__") (x := e) rfl (evalArgs_plain (spliced_cons ?_))
      refine wpAny_Name (wpAny_loadName_local S.kind S.lx (hns.keeps fun b o z => k2 _ _ (k1 _ _ z)) (v := uy) (by simp [List.lookup]) (spliced_nil ?_)) hdx
      have hu : (h1.push (kxs_mw "ValueError.__init__" e)).get? h1.objs.size = some (kxs_mw "ValueError.__init__" e) := Heap.get?_push_at rfl rfl
      refine ⟨hu, ?_⟩
      show wpAny _ _ (call (.ref h1.objs.size) [uy]) _ _ _
      refine call_mw (by decide +kernel) F.excBase_ValueError (k2 _ _ (K1 _ _ hC)) (k2 _ _ ho1) hu (by show 1 ≤ sizeLine; decide) (fun h3 t3 k3 hx3 => ?_)
      have k4 : ∀ b o, b ≠ e → h0.get? b = some o → h3.get? b = some o := fun b o hb z => k3 b o hb (k2 _ _ (k1 _ _ z))
      have J := fun tk : Nat => I0.write (t' := tk) (x := e) (e := e) (o := exo e C none) (by rw [he]; exact True.intro) (.inl rfl) k4 ⟨_, hx3⟩ (exo_ok hx3)
      have eu : upd H e (exo e C none) = H := by
        funext b
        by_cases hb : b = e
        · rw [hb, upd_same, he]
        · rw [upd_ne hb]
      rw [eu] at J
      refine PySem.wpAt_of_wpAny ?_
      have st : PSs (cxS P w K mg base [a, x] qual scope f (.ref cda) cc A outer ⟨hp0, g0, d0, t0, os0⟩ H) [.Assign [.Attribute (.Name a p6) fld p7] (.Name x p8) p9] _ :=
        pss_one (ps_ost (pe_var (i := 0) rfl (.inl S.la) hda hca) (pe_var (i := 1) rfl (.inl S.lx) hdx hcx))
      refine wpAny_mono (st.run [] _ _ H { nx := fun _ H' => Q .non H', rt := Q } (J _) ?_) (fun fl s' hs => ?_) (fun _ _ z => z.elim)
      · exact ⟨_, rfl, _, rfl, e, C, rfl, T, hno, .inl ⟨he, fun dx n ne => kk dx n ne⟩⟩
      · cases fl with
        | ret u =>
          obtain ⟨v, σ', H', J, rv, z⟩ := hs
          exact ⟨v, H', J.os, J.bare, J.base, J.hok, rv, z⟩
        | next =>
          obtain ⟨σ', H', J, z⟩ := hs
          exact ⟨.non, H', J.os, J.bare, J.base, J.hok, rfl, z⟩
        | brk => obtain ⟨_, _, _, z⟩ := hs; exact z.elim
        | cont => obtain ⟨_, _, _, z⟩ := hs; exact z.elim
  · exact I0.quiet
  · rfl
end
end DL

set_option maxHeartbeats 4000000
namespace DL
open PySem L2 Evl PySem.Spec PyProof.Rows
/-- an error class that keeps what it was given, at its name -/
structure ErrAt (P : Program) (w : World) (K : PySem.W.Frag) (mg : Str → Option Value) (base : Heap) (x fld : Str) (C : Addr) : Prop where
  here : mg x = some (.ref C)
  cls : OexC K C
  init : ∃ fI fd, PySem.W.findIn K (.ref C) "__init__" = some (some (.ref fI)) ∧ PySem.W.typeIn K (.ref fI) = some (.type "function") ∧ Binds K fd ["self", fld] [] ∧ ∀ (CX : CXT) (k : Nat), FnOk P w K mg base CX (k + 1) fI fd ["self", fld] (spInit K C fld)
  bare : PySem.W.findIn K (.ref C) fld = some none
  mro : PySem.W.mroIn K C (.ref C) = some true
  sup : PySem.W.ks_superIn K C C "__init__" = some (some (.builtin "ValueError.__init__"))
  sub : PySem.W.subIn K (.ref C) (.type "ValueError") = some true
  xf : XfC K C
  hit : PySem.W.exmOne K (.ref C) (.ref C) = some true
section
variable {X : Cx} {x fld : Str} {C : Addr} {e : Expr} {te : TE} {p pos : Pos} {P : Program} {w : World} {K : PySem.W.Frag} {mg : Str → Option Value} {base : Heap}
theorem pmk_err (T : ErrAt X.prog X.w X.K X.mg X.base x fld C) (hr : Room 2 X.A) (ha : PE X e te) (hg : Gl X x := by rfl) (hdb : (x == ("__debug__" : Str)) = false := by decide)
    (he : starEach [e] X.env = (false, eval e X.env) :: starEach [] X.env := by rfl) : PMk X (.Call (.Name x p) [e] [] pos) (tMkO C (spInit X.K C fld) [] (tCons te tNil)) := by
  obtain ⟨fI, fd, h1, h2, h3, h4⟩ := T.init
  exact pmk_oex (CX := CX0) (k := 1) T.cls h1 h2 (h4 _ 0) hr h3 .nil pass0 hg T.here (pa_cons ha pa_nil he) hdb he rfl
theorem err_ev (T : ErrAt P w K mg base x fld C) {σ : L2.St} {H : Hp} {v : V} {Q : XK} (h : Ev te σ H v) (q : ∀ d H', Ex H H' → H' d = some (.xd [(fld, v)]) → Q (.ref C) (some d) H') :
    tMkO C (spInit K C fld) [] (tCons te tNil) σ H Q := by
  refine h H (Ex.refl H) _ fun H1 e1 => ⟨by show 1 ≤ 1000; decide, fun a ha => ⟨a, C, v, rfl, upd_same, T.cls, T.bare, T.mro, T.sup, T.sub, fun d hd nd => ⟨rfl, d, [(fld, v)], upd_same, by rw [upd_ne nd, upd_same], ?_, ?_⟩⟩⟩
  · rw [upd_ne nd] at hd
    exact hd
  · rw [upd_ne nd] at hd
    refine q d _ (fun b o hb => ?_) upd_same
    have nbd : b ≠ d := ne_of_none (e1 b o hb) hd
    have nba : b ≠ a := ne_of_none (e1 b o hb) ha
    rw [upd_ne nbd, del_ne nba, upd_ne nba, upd_ne nbd, upd_ne nba]
    exact e1 b o hb
end
end DL

set_option maxHeartbeats 4000000
namespace DL
open PySem L2 Evl PySem.Spec PyProof.Rows
section
variable {X : Cx} {CX : CXT} {G : Bool} {k : Nat} {st : Stmt} {ps ks : List Str} {sp : Sp} {E : L2.St → XK} {x : Str} {p pos : Pos} {e : Expr} {es : List Expr} {t : TA}
/-- f(e, ..) in a try's body: what leaves it is taken at the slots -/
theorem pe_callDS (D : DefOk X.prog X.w X.K X.mg X.base CX G k x st ps sp) (hr : Room k X.A) (hgd : G = false ∨ X.A.guards = some []) (hb : BindP x st ps) (hx : ∀ σ, PassesAt CX X σ (E σ)) (ha : PA X (e :: es) t) (hg : Gl X x := by rfl)
    (hdb : (x == ("__debug__" : Str)) = false := by decide) (he : starEach (e :: es) X.env = (false, eval e X.env) :: starEach es X.env := by rfl) (hpl : (backTo pos (starEach es X.env)).any (·.1) = false := by rfl) :
    PE X (.Call (.Name x p) (e :: es) [] pos) (tCallS sp E t) := by
  obtain ⟨f, fd, F, hm, R⟩ := D.ex
  refine ⟨fun pins s σ H Q I h => wpAny_Call_Name_kw (ld_glob I hg hm ?_ hdb)⟩
  refine PySem.W.callWith_K (h₀ := X.base) I.ok.mod.kin F.kp (thn (ha.run pos pins s σ H _ I h) fun us s1 z => ?_) he hpl
  obtain ⟨vs, H1, I1, r, q⟩ := z
  refine ⟨I1.kIn, ?_⟩
  have q' : sp vs H1 Q (E σ) := q
  have hl : us.length = ps.length := by rw [← r.length]; exact R.len q'
  obtain ⟨oc, od, kV, doc, pm, an, cdv, ct, osl, rfl, lk, hcd⟩ := F.ex
  have hbt : BindsTo s1 _ ⟨[] ++ us, []⟩ (ps.zip us) := .of_eq (hb kV doc pm an cdv ct us hl)
  refine wpAny_call (codeAny_mono (show codeAny (model X.prog X.w) X.A (.call (.ref f) ⟨[] ++ us, []⟩) (CR CX X.stack X.prog X.w H1 s1 Q (E σ)) s1 from ?_) fun r s' hq => ?_)
  · cases G with
    | true => exact R.run X.A X.stack s1 H1 _ us vs Q (E σ) (hgd.resolve_left (by decide)) hr I1.env0 hbt r q'
    | false => exact R.run X.A X.stack s1 H1 _ us vs Q (E σ) hr I1.env0 hbt r q'
  · cases r with
    | error e => exact hx σ pins H1 s1 e s' I1 hq
    | ok fl => cases fl with
      | ret u => exact I1.after hq
      | next => exact hq
      | brk => exact hq
      | cont => exact hq
end
end DL

set_option maxHeartbeats 4000000
namespace DL
open PySem L2 Evl PySem.Spec PyProof.Rows CwR
/-! ### a token is out -/
theorem thnT {α : Type} {M : Model} {A : Around} {c : Sem α} {Q R : α → Shared → Prop} {E : Value → Shared → Prop} {s : Shared} {n : Nat} (hn : n ≤ s.toks) (h : wpAny M A c Q E s) (k : ∀ a s', n ≤ s'.toks → Q a s' → R a s') : wpAny M A c R E s :=
  wpAny_mono (wpAny_toks_of hn h) (fun a s' z => k a s' z.1 z.2) (fun _ _ z => z.2)
section
variable {X : Cx} {st : Stmt} {rest : List Stmt} {t u : TS} {e : Expr} {te : TE} {es : List Expr} {ta : TA} {pos : Pos}
theorem psst_cut (h1 : PST X st t) (h2 : PSsT X rest u) : PSsT X (st :: rest) (tCut t u) := by
  intro pins s σ H D h0 I h
  obtain ⟨Mid, hm, hu⟩ := h
  refine wpAny_execs_cons (thnT h0 (h1 pins s σ H { D with nx := Mid } h0 I hm) (fun f s1 h3 q => ?_))
  cases f with
  | next => obtain ⟨σ1, H1, I1, q⟩ := q; exact h2 pins s1 σ1 H1 D h3 I1 (hu σ1 H1 q)
  | ret v => exact q
  | brk => exact q
  | cont => exact q
theorem pst_set {i : Nat} {x : Str} {pos' : Pos} (hN : X.N.Nodup) (hi : X.N[i]? = some x) (hx : Loc X.env.scope x) (he : PET X e te) (hs : swapsWith e (some (.Name x pos')) pos.line X.env = pure false := by rfl)
    (hf : X.fn x = true ∨ X.env.scope.names.lookup x = some .local := by first | exact .inl rfl | exact .inr rfl | assumption) : PST X (.Assign [.Name x pos'] e pos) (tAsg te (gName i)) := by
  intro pins s σ H D h0 I h
  exact wpAny_Assign_Name (thn (he pins s σ H _ h0 I h) fun v s1 ⟨y, H1, I1, r1, q1⟩ => store_ok I1 hN hi hx r1 (fun s2 I2 => ⟨_, H1, I2, q1⟩) hf) hs
theorem pet_tup {k : Nat} (h : PAT X es ta) : PET X (.Tuple es k pos) (tTup ta) := by
  intro pins s σ H Q h0 I hq
  refine wpAny_Tuple_spliced (thn (h pos pins s σ H _ h0 I hq) fun us s1 z => ?_)
  obtain ⟨xs, H1, I1, r, z, q⟩ := z
  have fresh : H1 s1.heap.objs.size = none := I1.hok.fresh (Nat.le_refl _)
  exact ⟨by rw [← r.length]; exact z, .ref s1.heap.objs.size, upd H1 s1.heap.objs.size (.tup xs), I1.laid (t' := s1.toks) (fun b v w => Heap.get?_push_of_some _ w) (Nat.le_refl _) ⟨z, us, r, ⟨_, Heap.get?_push_size _ rfl, rfl, _, rfl⟩⟩, rfl, q _ fresh⟩
theorem pit_tup {tg : Expr} (h : PET X e te) : PIT X tg e (iTup X.K te) := by
  intro pins s σ H R h0 I hq
  refine thn (h pins s σ H _ h0 I hq) fun v s1 z => ?_
  obtain ⟨x, H1, I1, r1, a, rfl, ⟨xs, hS⟩, q⟩ := z
  obtain rfl : v = Value.ref a := r1
  obtain ⟨its, rv, p, hz⟩ := I1.tuple hS
  refine wpAny_pyIter_tuple (show s1.heap.IsTuple a its.toArray from p) ⟨s1.heap.objs.size, [s1.heap.objs.size], _, _, H1, rfl, ?_, turn_tuple a _, ⟨_, Heap.get?_push_size _ rfl, rfl, rfl⟩, fun b hb => ?_, q⟩
  · exact I1.kept (t' := s1.toks) fun b o w => Heap.get?_push_of_some _ w
  · obtain rfl : b = s1.heap.objs.size := by simpa using hb
    exact I1.fpOk (Nat.le_refl _) (I1.hok.fresh (Nat.le_refl _))
/-- for, a token out in its body too -/
theorem pst_forT {tg iter : Expr} {body : List Stmt} {wi : TI} {g : TG} {tb : TS} (hp : PassesOwn (model X.prog X.w) X.A X.env X.xe) (hc : X.calm = true) (hi : PIT X tg iter wi) (hg : PG X tg g) (hb : PSsT X body tb)
    (hs : ∀ x, foldedSetIterable iter X.env x = pure x := by intro _; rfl) : PST X (.For tg iter body [] pos) (tFor wi g tb) := by
  intro pins s σ H D h0 I h
  refine wpAny_For (thnT h0 (hi pins s σ H _ h0 I h) fun v s1 t1 h1 => thnT t1 h1 fun itv s2 t2 h2 => ?_) hs
  obtain ⟨it, fp, tn, J, H2, rfl, I2, T, st2, f2, W, ⟨m0, w0⟩, turn⟩ := h2
  have stat : ∀ {H' : Hp}, (∀ b ∈ fp, H' b = none) → ∀ b ∈ fp, FpOk X pins H' b := fun hn b hb => ⟨hn b hb, (f2 b hb).2⟩
  refine codeAny_forLoop_any (fun n s' => 1 ≤ s'.toks ∧ ∃ i σ' H', Inv X pins σ' H' s' ∧ tn i s'.heap ∧ (∀ b ∈ fp, H' b = none) ∧ W i n σ' H') ?_ m0 ⟨t2, 0, σ, H2, I2, st2, fun b hb => (f2 b hb).1, w0⟩
  rintro n s3 ⟨t3, i, σ3, H3, I3, st3, fr3, w3⟩
  rcases turn i n σ3 H3 w3 with ⟨stop, qn⟩ | ⟨go, N, hN, step⟩
  · refine wpAny_passesOwn hp (thn (T.done X rfl rfl rfl hc i pins s3 σ3 H3 X.xe I3 (stat fr3) st3 stop) fun r s4 z => ?_)
    obtain ⟨rfl, I4⟩ := z
    exact wpAny_execs_nil ⟨σ3, H3, I4, qn⟩
  · refine wpAny_passesOwn hp (thnT t3 (T.item X rfl rfl rfl hc i pins s3 σ3 H3 X.xe I3 (stat fr3) st3 go) fun r s4 t4 z => ?_)
    obtain ⟨w, rfl, h4⟩ := z
    refine wpAny_passesOwn hp (thnT t4 h4 fun _ s5 t5 z => ?_)
    obtain ⟨x, H5, I5, r5, y5, st5, fr5⟩ := z
    refine wpAny_passesOwn hp (thnT t5 (hg.run _ s5 σ3 H5 x w _ (I5.pinned (stat fr5) (T.obj _ _ st5)) r5 (step x H5 y5)) fun _ s6 t6 z => ?_)
    obtain ⟨σ6, H6, I6, q6⟩ := z
    refine wpAny_passesOwn hp (thnT t6 (hb _ s6 σ6 H6 _ t6 I6 q6) fun f s7 t7 q7 => ?_)
    have pinAt : ∀ {σ7 : L2.St} {H7 : Hp}, Inv X (pins ++ pinsAt fp s5.heap) σ7 H7 s7 → ∀ b ∈ fp, ∀ o, s5.heap.get? b = some o → s7.heap.get? b = some o ∧ H7 b = none := fun {σ7 H7} I7 b hb o eo => by
      have := I7.pin (b, o) (List.mem_append_right _ (List.mem_append_right _ (mem_pinsAt hb eo)))
      exact ⟨this.1, this.2.1⟩
    have again : ∀ {σ7 : L2.St} {H7 : Hp}, Inv X (pins ++ pinsAt fp s5.heap) σ7 H7 s7 → N σ7 H7 → ∃ m, m < n ∧ 1 ≤ s7.toks ∧ ∃ i σ' H', Inv X pins σ' H' s7 ∧ tn i s7.heap ∧ (∀ b ∈ fp, H' b = none) ∧ W i m σ' H' := fun {σ7 H7} I7 n7 => by
      obtain ⟨m1, lt, w7⟩ := hN σ7 H7 n7
      refine ⟨m1, lt, t7, i + 1, σ7, H7, I7.unpinned, T.keep _ _ _ st5 fun b hb o eo => (pinAt I7 b hb o eo).1, fun b hb => ?_, w7⟩
      obtain ⟨o, eo, _⟩ := T.obj _ _ st5 b hb
      exact (pinAt I7 b hb o eo).2
    cases f with
    | next => obtain ⟨σ7, H7, I7, n7⟩ := q7; exact again I7 n7
    | cont => obtain ⟨σ7, H7, I7, n7⟩ := q7; exact again I7 n7
    | brk => obtain ⟨σ7, H7, I7, z⟩ := q7; exact ⟨σ7, H7, I7.unpinned, z⟩
    | ret v => obtain ⟨y, σ7, H7, I7, ry, z⟩ := q7; exact ⟨y, σ7, H7, I7.unpinned, ry, z⟩
end
section
variable {X : Cx} {CX : CXT} {G : Bool} {k : Nat} {st : Stmt} {ps : List Str} {sp : Sp} {E : XK} {x kw : Str} {p pos kpos : Pos} {e : Expr} {te : TE}
/-- f(k = e), a token out -/
theorem pet_callDK {g : {α : Type} → List α → List α} (D : DefOk X.prog X.w X.K X.mg X.base CX G k x st ps sp) (hr : Room k X.A) (hgd : G = false ∨ X.A.guards = some []) (hb : BindK x st ps [kw] g) (hrel : ∀ {vs : List V} {us : List Value}, Vals vs us → Vals (g vs) (g us)) (hx : Passes CX X E)
    (he : PET X e te) (hks : (backToKw pos (keywordEach [⟨some kw, e, kpos⟩] X.env)).filterMap (·.1) = [kw] := by rfl) (hall : (backToKw pos (keywordEach [⟨some kw, e, kpos⟩] X.env)).all (·.1.isSome) = true := by rfl) (hg : Gl X x := by rfl)
    (hdb : (x == ("__debug__" : Str)) = false := by decide)
    (hev : (backToKw pos (keywordEach [⟨some kw, e, kpos⟩] X.env)).map (·.2) = [do let v ← eval e X.env; standAt pos; pure v] := by rfl)
    (hpl : ((backTo pos (starEach [] X.env)).any (·.1) || (backToKw pos (keywordEach [⟨some kw, e, kpos⟩] X.env)).any (·.1.isNone)) = false := by rfl) :
    PET X (.Call (.Name x p) [] [⟨some kw, e, kpos⟩] pos) (tCallKO 1 sp g E (tCons te tNil)) := by
  obtain ⟨f, fd, F, hm, R⟩ := D.ex
  intro pins s σ H Q h0 I h
  refine wpAny_Call_Name_kw (ld_glob I hg hm ?_ hdb)
  refine PySem.W.callWith_KW0 (h₀ := X.base) I.ok.mod.kin F.kp hall ?_ hpl
  rw [hev]
  refine wpAny_evalAll_cons (wpAny_bind (thn (he pins s σ H _ h0 I h) fun u s1 z => wpAny_bind (wpAny_standAt (wpAny_pure (wpAny_evalAll_nil ?_)))))
  obtain ⟨y, H1, I1, r1, hl, q1⟩ := z
  refine ⟨I1.kIn, ?_⟩
  rw [hks]
  obtain ⟨oc, od, kV, doc, pm, an, cdv, ct, osl, rfl, lk, hcd⟩ := F.ex
  have hbt : BindsTo s1 _ ⟨[], [kw].zip [u]⟩ (ps.zip (g [u])) := .of_eq (hb kV doc pm an cdv ct [u] rfl)
  refine wpAny_call (codeAny_mono (run_D R hgd hr hbt hx I1 (hrel (.cons r1 .nil)) q1) fun r s' hq => ?_)
  cases r with
  | error e => exact hq
  | ok fl => cases fl with
    | ret u => exact hq
    | next => exact hq
    | brk => exact hq
    | cont => exact hq
end
/-! ### a def without cells: at its entry a token is out -/
theorem bindL_locals {kindOf : Str → Option NameKind} : ∀ (binds : List (Str × Value)) (m : Str → Option Value), (∀ y ∈ binds, kindOf y.1 = some .local) → bindL kindOf binds m = fun z => (binds.reverse.lookup z).or (m z)
  | [], m, _ => by funext z; simp [bindL]
  | (n, v) :: r, m, h => by
    have hn : kindOf n = some .local := h (n, v) (by simp)
    rw [bindL, if_pos hn, bindL_locals r _ fun y hy => h y (List.mem_cons_of_mem _ hy)]
    funext z
    rw [List.reverse_cons, List.lookup_append]
    cases h2 : r.reverse.lookup z with
    | some w => simp
    | none =>
      by_cases e : z = n
      · subst e; simp [List.lookup]
      · have : (z == n) = false := by simpa using e
        simp [List.lookup, this, e]
section
variable {P : Program} {w : World} {K : PySem.W.Frag} {mg : Str → Option Value} {base : Heap} {CX : CXT} {k : Nat} {x : Str} {st : Stmt} {ps : List Str} {sp : Sp}
theorem DefAt.okGT {N : List Str} (D : DefAt K mg x st) (S : FnScope N ps (defScope st)) (hcl : ∀ y ∈ (defScope st).names, y.2 ≠ .cell) (hps : 0 < ps.length) (len : ∀ vs H Q E, sp vs H Q E → vs.length = ps.length)
    (hbody : ∀ (f : Addr) (cdv : Value) (A : Around) (outer : List Env) (s : Shared) (H : Hp) (vs : List V) (Q : VK) (E : XK), A.guards = some [] → Room k (A.deeper (envOfC x (defScope st) s.heap.objs.size f cdv)) → sp vs H Q E →
      ∃ t, PSsT (cxOf CX P w K mg base N x (defScope st) f cdv A outer s H E).nox (defBody st) t ∧ t { nx := fun _ H' => Q .non H', rt := Q } (L2.start N vs) H) :
    DefOk P w K mg base CX true (k + 1) x st ps sp := by
  obtain ⟨f, fd, F, hm⟩ := D.ex
  refine ⟨f, fd, F, hm, ?_⟩
  obtain ⟨oc, od, kV, doc, pm, an, cdv, ct, osl, rfl, lk, hcd⟩ := F.ex
  refine ⟨len, fun A outer s H args us vs Q E hgd hr e0 hb r hsp => ?_⟩
  have hl := len _ _ _ _ hsp
  have hlu : us.length = ps.length := by rw [← r.length]; exact hl
  have KX : K.In s.heap := e0.mod.kin.keeps fun b o z => (e0.bs b o z).1
  have lim : s.heap.NoLimit := e0.mod.nolimit.keeps fun b o z => (e0.bs b o z).1
  have hloc : ∀ y ∈ ps.zip us, (defScope st).names.lookup y.1 = some .local := by
    rintro ⟨n, v⟩ hy
    rcases S.par n (List.of_mem_zip hy).1 with q | q
    · exact q
    · exact absurd rfl (hcl _ (PySem.mem_of_lookup q))
  have hcells : ∀ n, cellsFrom n (defScope st).names [] = [] := by
    have gen : ∀ (l : List (Str × NameKind)) (n : Nat) (acc : List (Str × Addr)), (∀ y ∈ l, y.2 ≠ .cell) → cellsFrom n l acc = acc := by
      intro l
      induction l with
      | nil => intro n acc _; rfl
      | cons y r ih =>
        intro n acc h
        have h1 := h y (by simp)
        obtain ⟨a, kd⟩ := y
        have h2 : (kd == NameKind.cell) = false := by simpa using h1
        rw [cellsFrom, h2, if_neg Bool.false_ne_true]
        exact ih n acc fun z hz => h z (List.mem_cons_of_mem _ hz)
    exact fun n => gen _ n [] hcl
  refine codeAny_call_function hr.depth (KX _ _ lk) rfl S.co S.gen rfl (PySem.W.codeRec_of KX hcd) (hb _ _ _ _ (wpAny_newFunctionEnv hcl hloc (fun h1 hns hsb => ?_) S.kind))
  have hk : ∀ b o, s.heap.get? b = some o → h1.get? b = some o := fun b o z => hsb.extBut b o (Nat.ne_of_lt (Heap.lt_size z)) (Heap.get?_push_of_some _ z)
  have henv : newEnv (defScope st) s.heap.objs.size mainGlobals [] (x ++ ".<locals>.") (some f) cdv none builtinsNs = envOfC x (defScope st) s.heap.objs.size f cdv := by
    unfold newEnv envOfC
    rw [hcells]
  refine ⟨lim.keeps hk, ?_⟩
  show codeAny _ _ (.func _ (newEnv (defScope st) s.heap.objs.size mainGlobals [] (x ++ ".<locals>.") (some f) cdv none builtinsNs)) _ _
  rw [henv]
  refine codeAny_func ?_
  have hkind : ∀ y ∈ ps.zip us, (envOfC x (defScope st) s.heap.objs.size f cdv).kindOf y.1 = some .local := hloc
  have Y : InCallC s s.heap.objs.size (bindL (envOfC x (defScope st) s.heap.objs.size f cdv).kindOf (ps.zip us) fun _ => none) (cellsFrom (s.heap.objs.size + 1) (defScope st).names []) (bindC (envOfC x (defScope st) s.heap.objs.size f cdv).kindOf (ps.zip us) fun _ => none)
      { s with heap := h1, toks := s.toks + (ps.zip us).length } := by
    refine ⟨⟨⟨h1, _, rfl⟩, ?_, hk, Nat.le_refl _⟩, fun n c hc => ?_, ?_, fun n c hc => ?_⟩
    · rw [bindL_locals _ _ hkind]
      simpa using hns
    · rw [hcells] at hc
      simp at hc
    · rw [hcells]
      exact .nil
    · rw [hcells] at hc
      simp at hc
  have I : L2.Inv (cxOf CX P w K mg base N x (defScope st) f cdv A outer s H E) [] (L2.start N vs) H _ := inv_start S hr.hd e0 hl r Y
  obtain ⟨t, ht, hq⟩ := hbody f cdv A outer s H vs Q E hgd (hr.deeper _) hsp
  refine wpAny_mono (ht [] _ (L2.start N vs) H { nx := fun _ H' => Q .non H', rt := Q } ?_ (I.wish _) hq) (fun fl s' hs => ?_) fun e s' hs => hs.elim
  · show 1 ≤ s.toks + (ps.zip us).length
    rw [List.length_zip, hlu, Nat.min_self]
    omega
  · have hs := hs.unwish
    cases fl with
    | ret u => obtain ⟨v, σ1, H1, J, rv, q⟩ := hs; exact ⟨v, H1, J.os, J.bare, J.base, J.hok, rv, q⟩
    | next => obtain ⟨σ1, H1, J, q⟩ := hs; exact ⟨.non, H1, J.os, J.bare, J.base, J.hok, rfl, q⟩
    | brk => obtain ⟨_, _, _, q⟩ := hs; exact q.elim
    | cont => obtain ⟨_, _, _, q⟩ := hs; exact q.elim
end
end DL

set_option maxHeartbeats 4000000
namespace DL
open PySem L2 Evl PySem.Spec PyProof.Rows
/-! ### the end: a law that asks that no repr is under way -/
section
variable {P : Program} {w : World} {K : PySem.W.Frag} {mg mb : Str → Option Value} {CX : CXT} {k : Nat} {fa a : Addr} {fd : FuncData} {x : Str} {sp : Sp} {s1 : Shared} {vs : List Value} {ns : List Int}
theorem law_callG (KX : K.In s1.heap) (hns : s1.heap.Ns mainGlobals mg) (hb : s1.heap.Ns builtinsNs mb) (hbb : ∀ x : Str, x ≠ "__name__" → mb x = bootBuiltins x) (hlim : s1.heap.NoLimit) (hg : s1.gens = #[])
    (ha : s1.heap.get? a = some { cls := .type "list", data := .seq vs.toArray }) (hi : IntsAre vs ns) (hl : ns.length ≤ sizeLine) (hr : Room k callerA)
    (F : ∀ base : Heap, K.In base → base.Ns mainGlobals mg → FnG P w K mg base CX k fa fd [x] sp) (bind : ∀ (s : Shared) (u : Value), BindsTo s fd ⟨[u], []⟩ [(x, u)])
    (hsp : ∀ H : Hp, Only H → SqL K H a (ns.map V.int) → sp [.ref a] H (fun v _ => v = .bl true) fun _ _ _ => False) (hCX : ∀ H e s', CX [] H s1 (fun _ _ _ => False) e s' → False) :
    codeAny (model P w) callerA (.call (.ref fa) ⟨[.ref a], []⟩) (fun r s' => r = .ok (.ret (.bool true)) ∧ OldK s1.heap s'.heap ∧ s'.os = s1.os ∧ AllBare s'.gens) s1 := by
  have rel := vals_ints hi
  have size := hi.length
  -- H: the script, or nothing
  have main : ∀ H : Hp, (∀ b, H b = none ∨ b = a ∧ K.lookup a = none ∧ H b = some (.frz { cls := .type "list", data := .seq vs.toArray } (.lst (ns.map V.int)))) → SqL K H a (ns.map V.int) → HOk P w H s1.heap →
      codeAny (model P w) callerA (.call (.ref fa) ⟨[.ref a], []⟩) (fun r s' => r = .ok (.ret (.bool true)) ∧ OldK s1.heap s'.heap ∧ s'.os = s1.os ∧ AllBare s'.gens) s1 := by
    intro H hH hS ok
    have only : Only H := fun b => (hH b).imp id fun z => ⟨_, _, z.2.2⟩
    have free : ∀ {b : Addr} {o : Obj}, s1.heap.get? b = some o → (∀ its n, o.data ≠ .seq its n) → H b = none := fun {b o} e d => by
      rcases hH b with z | ⟨rfl, _, _⟩
      · exact z
      · rw [ha] at e
        cases e
        exact absurd rfl (d _ _)
    have stay : ∀ {b : Addr} {m : Str → Option Value}, s1.heap.Ns b m → (hidT s1.heap H).Ns b m := fun {b m} ⟨o, es, ep, e, d, z⟩ => ⟨o, es, ep, hidT_get e (free e fun its n q => by rw [d] at q; cases q), d, z⟩
    have KB : K.In (hidT s1.heap H) := fun b o e => hidT_get (KX b o e) ((hH b).elim id fun z => by
      obtain ⟨rfl, z, _⟩ := z
      rw [z] at e
      cases e)
    obtain ⟨mc, lim1, lim2⟩ := hlim
    have env : Env0 P w K mg (hidT s1.heap H) callerA [] s1 H := ⟨rfl, ⟨KB, stay hns, ⟨mb, stay hb, hbb⟩, ⟨mc, stay lim1, lim2⟩⟩, fun b o e => of_hidT e, Nat.le_of_eq (hidT_size _ _), trivial, fun b z => absurd (show b ∈ ([] : List Addr) from z) (by simp), ok, .of_eq hg⟩
    refine codeAny_mono ((F _ KB (stay hns)).run callerA [] s1 H ⟨[.ref a], []⟩ [.ref a] [.ref a] _ _ rfl hr env (bind s1 (.ref a)) (.cons rfl .nil) (hsp H only hS)) fun r s2 h => ?_
    match r, h with
    | .error e, h => exact (hCX H e s2 h).elim
    | .ok (.ret u), h =>
      obtain ⟨v, H2, os, bare, un, ok2, rv, rfl⟩ := h
      obtain rfl : u = Value.bool true := rv
      refine ⟨rfl, OldK.of_keep fun b o e => ?_, os, bare⟩
      rcases hH b with z | ⟨_, _, z⟩
      · exact un.keep b o e z (fun q => absurd (show b ∈ ([] : List Addr) from q) (by simp)) (by simp)
      · have e1 := (ok b _ z).1
        have e2 := (ok2 b _ (un.frzs b _ _ z)).1
        rw [e] at e1
        cases e1
        exact e2
    | .ok .next, h => exact h.elim
    | .ok .brk, h => exact h.elim
    | .ok .cont, h => exact h.elim
  cases hk : K.lookup a with
  | some o =>
    have e := ha.symm.trans (KX a o hk)
    cases e
    exact main (fun _ => none) (fun _ => .inl rfl) (.inr ⟨_, vs.toArray, _, hk, rfl, rfl, rfl, by rw [List.size_toArray, size]; exact hl, by simpa using rel⟩) fun b u z => by cases (show (none : Option HO) = some u from z)
  | none =>
    have one : ∀ b, (if b = a then some (HO.frz { cls := .type "list", data := .seq vs.toArray } (.lst (ns.map V.int))) else none) = none ∨ b = a ∧ K.lookup a = none ∧ (if b = a then some (HO.frz { cls := .type "list", data := .seq vs.toArray } (.lst (ns.map V.int))) else none) = some (.frz { cls := .type "list", data := .seq vs.toArray } (.lst (ns.map V.int))) := fun b => by
      by_cases h : b = a
      · exact .inr ⟨h, hk, if_pos h⟩
      · exact .inl (if_neg h)
    refine main (fun b => if b = a then some (.frz { cls := .type "list", data := .seq vs.toArray } (.lst (ns.map V.int))) else none) one (.inl (.inr ⟨{ cls := .type "list", data := .seq vs.toArray }, if_pos rfl⟩)) fun b u z => ?_
    by_cases h : b = a
    · subst h
      cases (if_pos rfl).symm.trans z
      exact ⟨ha, by rw [List.length_map]; exact hl, vs, _, rel, ha⟩
    · cases (if_neg h).symm.trans z
end
theorem walk_ofG {l : PySem.W.OpenLaw} {n k : Nat} {q : Program} {loose : List Str} {XP : (Str → Option Value) → Heap → Prop} {YP : World → Heap → Prop} {d : DefRec} {CX : CXT} {x : Str}
    (hn : l.most = some n) (hn2 : n ≤ sizeLine) (hdf : d.params.defaults = []) (hr : Room k callerA)
    (F : ∀ (w : World) (mg : Str → Option Value) (fa : Addr) (h : Heap), YP w h → h.Ns mainGlobals mg → mg d.name = some (.ref fa) → ∃ (K : PySem.W.Frag) (fd : FuncData) (sp : Sp), K.In h ∧ (∀ (s : Shared) (u : Value), BindsTo s fd ⟨[u], []⟩ [(x, u)]) ∧
        (∀ (H : Hp) (a : Addr) (ns : List Int), ns.length ≤ n → Only H → SqL K H a (ns.map V.int) → sp [.ref a] H (fun v _ => v = .bl true) fun _ _ _ => False) ∧ ∀ base : Heap, K.In base → base.Ns mainGlobals mg → FnG l.prog w K mg base CX k fa fd [x] sp)
    (hCX : ∀ (H : Hp) (s : Shared) (e : Value) (s' : Shared), CX [] H s (fun _ _ _ => False) e s' → False) : PySem.W.WalkO q loose XP YP l.row.toRowW d [] (fun f vs => PySem.call f vs) := by
  refine Att.attach_call hn hdf fun w s0 s1 mg mb fa o pm cd doc a vs ns G Y ho hd hcd hmg hobj hints hlen hg => ?_
  obtain ⟨K, fd, sp, KX, hb, hsp, hF⟩ := F w mg fa _ Y G.T.g hmg
  exact law_callG KX G.T.g G.T.b G.T.builtins G.T.nolimit hg hobj hints (Nat.le_trans hlen hn2) hr hF hb (fun H hO hS => hsp H a ns hlen hO hS) fun H e s' => hCX H s1 e s'
theorem law_end {P : Program} {w : World} {K : PySem.W.Frag} {mg : Str → Option Value} {CX : CXT} {k : Nat} {x a : Str} {st : Stmt} {sp : Sp} {fa : Addr} (b0 : Heap) (D : ∀ base : Heap, DefOk P w K mg base CX true k x st [a] sp) (hm : mg x = some (.ref fa)) (hb : BindP x st [a]) :
    ∃ fd, (∀ (s : Shared) (u : Value), BindsTo s fd ⟨[u], []⟩ [(a, u)]) ∧ ∀ base : Heap, FnG P w K mg base CX k fa fd [a] sp := by
  obtain ⟨f, fd, F, hf, _⟩ := (D b0).ex
  obtain rfl : f = fa := by
    have e := hf.symm.trans hm
    injection e with e
    injection e
  refine ⟨fd, fun s u => ?_, fun base => ?_⟩
  · obtain ⟨oc, od, kV, doc, pm, an, cdv, ct, osl, rfl, lk, hcd⟩ := F.ex
    exact .of_eq (hb kV doc pm an cdv ct [u] rfl)
  · obtain ⟨g, gd, G, hg, R⟩ := (D base).ex
    obtain rfl : g = f := by
      have e := hg.symm.trans hm
      injection e with e
      injection e
    obtain rfl : gd = fd := by
      obtain ⟨oc, od, kV, doc, pm, an, cdv, ct, osl, rfl, lk, _⟩ := F.ex
      obtain ⟨oc2, od2, kV2, doc2, pm2, an2, cdv2, ct2, osl2, rfl, lk2, _⟩ := G.ex
      have e := lk2.symm.trans lk
      injection e with e
      injection e with _ _ e _
      injection e
    exact R
end DL

set_option maxHeartbeats 4000000
namespace DL
open PySem L2 Evl PySem.Spec PyProof.Rows
/-! ### the head: defs, constants, an error class, read off the heap -/
theorem defAt_of {K : PySem.W.Frag} {mg : Str → Option Value} {x : Str} {st : Stmt} {f : Addr} (h : ∃ fd, FunD K x x (defArgs st) (defBody st) (defScope st) [] [] f fd) (g : mg x = some (.ref f)) : DefAt K mg x st := by
  obtain ⟨fd, F⟩ := h
  obtain ⟨oc, od, dV, kV, doc, pm, an, cdv, ct, osl, rfl, lk, hcd, hd, _⟩ := F.ex
  rcases hd with ⟨_, rfl⟩ | ⟨n, _⟩
  · exact ⟨f, _, ⟨⟨oc, od, kV, doc, pm, an, cdv, ct, osl, rfl, lk, hcd⟩, F.kp⟩, g⟩
  · exact absurd rfl n
theorem oexB_cls {K : PySem.W.Frag} {C : Addr} (h : oexB K C = true) : ∃ nm q N bs bm sn sub ab col dd k0 k1 k2 k3 k5, K.lookup C = some (excClassObj nm q C N bs bm true sn sub ab col dd k0 k1 k2 k3 k5 "ValueError.__new__") ∧ HandSPX.refsVE bm = true := by
  unfold oexB at h
  split at h
  · rename_i dd cd sl ho
    split at h
    · rename_i C1 bm k0 k1 k2 k3 n k5 hm hs
      simp only [Bool.and_eq_true, beq_iff_eq, Bool.not_eq_true'] at h
      obtain ⟨rfl, rfl, hdel, hdict, hbm⟩ := h
      obtain ⟨nm, bs, mro, ns, qn, hd, sn, sub, ab, col, del⟩ := cd
      dsimp only at hm hdel hdict
      subst hm hdel hdict
      have esl : sl = #[k0, k1, k2, k3, some (.builtin "ValueError.__new__"), k5] := by
        obtain ⟨l⟩ := sl
        exact congrArg Array.mk hs
      subst esl
      exact ⟨nm, qn, ns, bs, bm, sn, sub, ab, col, dd, k0, k1, k2, k3, k5, ho, hbm⟩
    · cases h
  · cases h
variable {P : Program} {w : World} {K : PySem.W.Frag} {mg : Str → Option Value} {base : Heap}
theorem err_of {file fld x name qual : Str} {params : Arguments} {body : List Stmt} {scope : Scope} {ar : Arg} {p0 p1 p2 p3 p4 p5 p6 p7 p8 p9 : Pos} (he : errB file fld K x = true) (ho : iniObs K x = some (name, qual, params, FuncBody.stmts body, scope, mainGlobals, [("__class__" : Str)], builtinsNs)) (hm : mg x = some (.ref (He.ga K x)))
    (hbd : body = [.Expr (.Call (.Attribute (.Call (.Name "super" p0) [] [] p1) "__init__" p2) [.Name fld p3] [] p4) p5, .Assign [.Attribute (.Name "self" p6) fld p7] (.Name fld p8) p9])
    (S : SupScope "self" fld scope) (hp : (params.posonlyargs ++ params.args).head? = some ar) (har : ar.arg = "self") (hfile : ((P.main.file : Str) == file) = true) (hsm : mg "super" = none) (htop : (P.main.scope.names.lookup ("super" : Str)).isSome = false)
    (hbind : ∀ (kV doc pm : Value) (an : Option Addr) (cdv ct : Value) (cc : Addr) (us : List Value), us.length = 2 → bindArgs (PySem.W.ksFn name qual params body scope .none kV doc pm an cdv ct cc) ⟨us, []⟩ = pure ((["self", fld] : List Str).zip us))
    {pl : Addr → Addr → Addr → Addr → Sem Bool} (hc : ∀ f cda cc L : Addr, eval (.Call (.Attribute (.Call (.Name "super" p0) [] [] p1) "__init__" p2) [.Name fld p3] [] p4) (PySem.W.ksEnv qual scope L f (.ref cda) cc) = (do
      let ov ← attributeBase (.Call (.Name "super" p0) [] [] p1) "__init__" (PySem.W.ksEnv qual scope L f (.ref cda) cc) (eval (.Call (.Name "super" p0) [] [] p1) (PySem.W.ksEnv qual scope L f (.ref cda) cc))
      standAt p2.atName
      let (m, first) ← holding [ov] (getMethod ov "__init__" (pl f cda cc L))
      callWith p4 m first (backTo p4 (starEach [.Name fld p3] (PySem.W.ksEnv qual scope L f (.ref cda) cc))) []))
    (hdx : (fld == ("__debug__" : Str)) = false) (hcx : (fld == ("__classdict__" : Str)) = false) : ErrAt P w K mg base x fld (He.ga K x) := by
  unfold errB at he
  simp only [Bool.and_eq_true, decide_eq_true_eq] at he
  obtain ⟨h1, h2, h3, h4, h5, h6, h7, h8, h9, h10, h11, h12, h13, h14, h15, h16⟩ := he
  have T : OexC K (He.ga K x) := ⟨oexB_cls h1, He.eqO_ok h2, h3, h4, h5⟩
  refine ⟨hm, T, ?_, He.eqO_ok h8, h9, He.eqO_ok h10, h11, xfB_ok h12, h13⟩
  unfold codeB at h16
  unfold iniObs at ho
  cases hl : K.lookup (He.ma K (He.ga K x) "__init__") with
  | none => rw [hl] at h16; cases h16
  | some o =>
    obtain ⟨oc, od, dat, osl⟩ := o
    rw [hl] at h16 ho
    cases dat with
    | func fd =>
      simp only at h16 ho
      obtain ⟨nm, qn, pr, bdy, scp, gl, clo, dV, kV, doc, pm, an, code, ct, bl⟩ := fd
      simp only [Option.some.injEq, Prod.mk.injEq] at ho
      obtain ⟨rfl, rfl, rfl, rfl, rfl, rfl, hclo, rfl⟩ := ho
      split at h16
      · rename_i cda nc cc e1 e2 e3
        simp only at e1 e2 e3
        subst e1 e2 e3
        simp only [List.map_cons, List.map_nil, List.cons.injEq, and_true] at hclo
        subst hclo
        simp only [Bool.and_eq_true] at h16
        obtain ⟨c1, c2, c3⟩ := h16
        split at c2
        · rename_i ccl cdd vs ccs hcode
          split at c2
          · rename_i f0 tf hvs
            obtain rfl : f0 = file := by simpa using c2
            split at c3
            · rename_i cl cld D csl hcell
              obtain rfl : D = He.ga K x := by simpa using c3
              obtain ⟨cdD, hD⟩ := Option.isSome_iff_exists.mp h14
              exact ⟨_, _, He.eqO_ok h6, h7, Binds.all fun us hl => hbind _ _ _ _ _ _ _ us hl, fun CX k => fn_super hl hbd c1 S hp har hcode hvs hfile hcell hD hsm htop (He.eqO_ok h15) (hc _ _ _) (by decide) (by decide) hdx hcx⟩
            · cases c3
          · cases c2
        · cases c2
      · cases h16
    | _ => cases h16
end DL

set_option maxHeartbeats 4000000
namespace DL
open PySem L2 Evl PySem.Spec PyProof.Rows
/-! ### the head: classes, methods, defaults, constants, read off the heap -/
section
variable {K : PySem.W.Frag} {mg : Str → Option Value} {h : Heap} {x m qual : Str} {st : Stmt} {flds : List Str}
theorem dfAt_of {f : Addr} {dvs : List V} (h : ∃ fd, FunD K x x (defArgs st) (defBody st) (defScope st) dvs [] f fd) (g : mg x = some (.ref f)) : DefDf K mg x st dvs := by
  obtain ⟨fd, F⟩ := h
  exact ⟨f, fd, F, g⟩
theorem clsAt_of (g : mg x = some (.ref (He.ga K x))) (c : (He.Fa.cls x).ok K = true) (n : (flds.all fun f => (He.Fa.noat x f).ok K) = true) : ClsAt K mg x flds := by
  have e := gA_of g
  exact ⟨by rw [e]; exact g, by rw [e]; exact He.cls_ok c, fun f hf => by rw [e]; exact He.noat_ok (List.all_eq_true.mp n f hf)⟩
theorem iniAt_of (h : ∃ fd, FunD K "__init__" qual (defArgs st) (defBody st) (defScope st) [] [] (He.ma K (He.ga K x) "__init__") fd) (g : mg x = some (.ref (He.ga K x))) (c : (He.Fa.mkr x).ok K = true) : IniAt K mg x qual st := by
  obtain ⟨fd, F⟩ := h
  exact ⟨_, fd, F, by rw [gA_of g]; exact He.mkr_ok c⟩
theorem metAt_of (h : ∃ fd, FunD K m qual (defArgs st) (defBody st) (defScope st) [] [] (He.ma K (He.ga K x) m) fd) (g : mg x = some (.ref (He.ga K x))) (c : (He.Fa.meth x m).ok K = true) : MetAt K mg x m qual st := by
  obtain ⟨fd, F⟩ := h
  exact ⟨_, fd, F, by rw [gA_of g]; exact He.meth_ok c⟩
theorem intAt_of {i : Int} (h : ∃ t, mg x = some (.int i t)) : ConstAt mg x (.int i) := by
  obtain ⟨t, e⟩ := h
  exact ⟨_, e, t, rfl⟩
theorem strAt_of {z : Str} (h : ∃ t, mg x = some (.str z t)) : ConstAt mg x (.str z) := by
  obtain ⟨t, e⟩ := h
  exact ⟨_, e, t, rfl⟩
theorem tupAt_of {vs : List He.Dv} (g : mg x = some (.ref (He.ga K x))) (h : He.tupB K x vs = true) : TupAt K mg x (vs.map (He.Dv.v K)) := ⟨_, g, fun H => He.tupB_ok h H⟩
end
end DL

set_option maxHeartbeats 0
namespace K4
open PySem L2 Evl DL PySem.Spec PyProof.Rows
section
variable {P : Program} {w : World} {K : PySem.W.Frag} {h base : Heap} {mg : Str → Option Value}
theorem txt_of (X : K.In h) (G : h.Ns mainGlobals mg) (c : SaysY fa fn chk ers iniV K) : Txt K mg where
  d_wall := defAt_of (c.def_ 0 rfl) (He.glo_ok X G (c.fact 0 (f := .glo "_wall") rfl))
  c_MOST := intAt_of (He.int_ok X G (c.fact 1 (f := .int "MOST" (2147483647)) rfl))
  c_MOST_SIGNS := intAt_of (He.int_ok X G (c.fact 2 (f := .int "MOST_SIGNS" (8)) rfl))
  c_MAIN := strAt_of (He.str_ok X G (c.fact 3 (f := .str "MAIN" "main") rfl))
  c_LETTERS := strAt_of (He.str_ok X G (c.fact 4 (f := .str "LETTERS" "abcdefghijklmnopqrstuvwxyz") rfl))
  c_FIGURES := strAt_of (He.str_ok X G (c.fact 5 (f := .str "FIGURES" "0123456789") rfl))
  c_WORDS := tupAt_of (vs := [.str "def", .str "else", .str "fun", .str "give", .str "if", .str "left", .str "pair", .str "paired", .str "right", .str "say"]) (He.glo_ok X G (c.fact 6 (f := .glo "WORDS") rfl)) (allB_at 0 c.2.1 rfl)
  c_OPS := tupAt_of (vs := [.str "+", .str "-", .str "*", .str "<", .str "="]) (He.glo_ok X G (c.fact 7 (f := .glo "OPS") rfl)) (allB_at 1 c.2.1 rfl)
  d_is_whole := defAt_of (c.def_ 1 rfl) (He.glo_ok X G (c.fact 8 (f := .glo "is_whole") rfl))
  d_is_number := dfAt_of (c.def_ 2 rfl) (He.glo_ok X G (c.fact 9 (f := .glo "is_number") rfl))
  d_is_tuple_of := defAt_of (c.def_ 3 rfl) (He.glo_ok X G (c.fact 10 (f := .glo "is_tuple_of") rfl))
  d_is_short_tuple := defAt_of (c.def_ 4 rfl) (He.glo_ok X G (c.fact 11 (f := .glo "is_short_tuple") rfl))
  d_are_unlike := defAt_of (c.def_ 5 rfl) (He.glo_ok X G (c.fact 12 (f := .glo "are_unlike") rfl))
  d_is_one_of := defAt_of (c.def_ 6 rfl) (He.glo_ok X G (c.fact 13 (f := .glo "is_one_of") rfl))
  d_is_name := defAt_of (c.def_ 7 rfl) (He.glo_ok X G (c.fact 14 (f := .glo "is_name") rfl))
  d_is_atom := defAt_of (c.def_ 8 rfl) (He.glo_ok X G (c.fact 15 (f := .glo "is_atom") rfl))
  c_MOST_TOPS := intAt_of (He.int_ok X G (c.fact 16 (f := .int "MOST_TOPS" (8)) rfl))
  c_MOST_PARAMS := intAt_of (He.int_ok X G (c.fact 17 (f := .int "MOST_PARAMS" (4)) rfl))
  c_MOST_STATEMENTS := intAt_of (He.int_ok X G (c.fact 18 (f := .int "MOST_STATEMENTS" (120)) rfl))
  c_MOST_FUNS := intAt_of (He.int_ok X G (c.fact 19 (f := .int "MOST_FUNS" (3)) rfl))
  c_MOST_IFS := intAt_of (He.int_ok X G (c.fact 20 (f := .int "MOST_IFS" (6)) rfl))
  c_MOST_LAYERS := intAt_of (He.int_ok X G (c.fact 21 (f := .int "MOST_LAYERS" (10)) rfl))
  t_RIGHT_LONG := tab_of (D := [("atom", 2), ("pair", 3), ("left", 2), ("right", 2), ("paired", 2), ("fun", 3), ("call", 3)]) (He.glo_ok X G (c.fact 22 (f := .glo "RIGHT_LONG") rfl)) (allB_at 2 c.2.1 rfl)
  c_ENDS := tupAt_of (vs := [.str "give", .str "tail", .str "if"]) (He.glo_ok X G (c.fact 23 (f := .glo "ENDS") rfl)) (allB_at 3 c.2.1 rfl)
  d_are_atoms := defAt_of (c.def_ 9 rfl) (He.glo_ok X G (c.fact 24 (f := .glo "are_atoms") rfl))
  d_are_params := defAt_of (c.def_ 10 rfl) (He.glo_ok X G (c.fact 25 (f := .glo "are_params") rfl))
  d_is_right_side := defAt_of (c.def_ 11 rfl) (He.glo_ok X G (c.fact 26 (f := .glo "is_right_side") rfl))
  d_is_statement := defAt_of (c.def_ 12 rfl) (He.glo_ok X G (c.fact 27 (f := .glo "is_statement") rfl))
  d_is_end := defAt_of (c.def_ 13 rfl) (He.glo_ok X G (c.fact 28 (f := .glo "is_end") rfl))
  d_is_layer_body := defAt_of (c.def_ 14 rfl) (He.glo_ok X G (c.fact 29 (f := .glo "is_layer_body") rfl))
  d_bodies_in := defAt_of (c.def_ 15 rfl) (He.glo_ok X G (c.fact 30 (f := .glo "bodies_in") rfl))
  d_is_body := defAt_of (c.def_ 16 rfl) (He.glo_ok X G (c.fact 31 (f := .glo "is_body") rfl))
  d_is_top := defAt_of (c.def_ 17 rfl) (He.glo_ok X G (c.fact 32 (f := .glo "is_top") rfl))
  k_Point := clsAt_of (He.glo_ok X G (c.fact 34 (f := .glo "Point") rfl)) (c.fact 33 (f := .cls "Point") rfl) (allB_at 4 c.2.1 rfl)
  i_Point := iniAt_of (c.def_ 18 rfl) (He.glo_ok X G (c.fact 34 (f := .glo "Point") rfl)) (c.fact 35 (f := .mkr "Point") rfl)
  k_Plan := clsAt_of (He.glo_ok X G (c.fact 37 (f := .glo "Plan") rfl)) (c.fact 36 (f := .cls "Plan") rfl) (allB_at 5 c.2.1 rfl)
  i_Plan := iniAt_of (c.def_ 19 rfl) (He.glo_ok X G (c.fact 37 (f := .glo "Plan") rfl)) (c.fact 38 (f := .mkr "Plan") rfl)
  m_Plan_add_block := metAt_of (c.def_ 20 rfl) (He.glo_ok X G (c.fact 37 (f := .glo "Plan") rfl)) (c.fact 39 (f := .meth "Plan" "add_block") rfl)
  k_Scoping := clsAt_of (He.glo_ok X G (c.fact 41 (f := .glo "Scoping") rfl)) (c.fact 40 (f := .cls "Scoping") rfl) (allB_at 6 c.2.1 rfl)
  i_Scoping := iniAt_of (c.def_ 21 rfl) (He.glo_ok X G (c.fact 41 (f := .glo "Scoping") rfl)) (c.fact 42 (f := .mkr "Scoping") rfl)
  m_Scoping_see := metAt_of (c.def_ 22 rfl) (He.glo_ok X G (c.fact 41 (f := .glo "Scoping") rfl)) (c.fact 43 (f := .meth "Scoping" "see") rfl)
  m_Scoping_body := metAt_of (c.def_ 23 rfl) (He.glo_ok X G (c.fact 41 (f := .glo "Scoping") rfl)) (c.fact 44 (f := .meth "Scoping" "body") rfl)
  d_is_fun_let := defAt_of (c.def_ 24 rfl) (He.glo_ok X G (c.fact 45 (f := .glo "is_fun_let") rfl))
  d_atoms_of_right := defAt_of (c.def_ 25 rfl) (He.glo_ok X G (c.fact 46 (f := .glo "atoms_of_right") rfl))
  d_atoms_in := defAt_of (c.def_ 26 rfl) (He.glo_ok X G (c.fact 47 (f := .glo "atoms_in") rfl))
  d_bound_in := defAt_of (c.def_ 27 rfl) (He.glo_ok X G (c.fact 48 (f := .glo "bound_in") rfl))
  d_names_bound := defAt_of (c.def_ 28 rfl) (He.glo_ok X G (c.fact 49 (f := .glo "names_bound") rfl))
  d_is_right_program := defAt_of (c.def_ 29 rfl) (He.glo_ok X G (c.fact 50 (f := .glo "is_right_program") rfl))
  d_top_names := defAt_of (c.def_ 30 rfl) (He.glo_ok X G (c.fact 51 (f := .glo "top_names") rfl))
  d_check_program := defAt_of (c.def_ 31 rfl) (He.glo_ok X G (c.fact 52 (f := .glo "check_program") rfl))
  d_is_program := defAt_of (c.def_ 32 rfl) (He.glo_ok X G (c.fact 53 (f := .glo "is_program") rfl))
  d_tops := defAt_of (c.def_ 33 rfl) (He.glo_ok X G (c.fact 54 (f := .glo "tops") rfl))
  d_point_number := defAt_of (c.def_ 34 rfl) (He.glo_ok X G (c.fact 55 (f := .glo "point_number") rfl))
  d_law_pail := defAt_of (c.def_ 35 rfl) (He.glo_ok X G (c.fact 56 (f := .glo "_law_pail") rfl))
  d_law_deal := defAt_of (c.def_ 36 rfl) (He.glo_ok X G (c.fact 57 (f := .glo "_law_deal") rfl))
  d_law_any := defAt_of (c.def_ 37 rfl) (He.glo_ok X G (c.fact 58 (f := .glo "_law_any") rfl))
  d_law_shuffled := defAt_of (c.def_ 38 rfl) (He.glo_ok X G (c.fact 59 (f := .glo "_law_shuffled") rfl))
  d_law_size := defAt_of (c.def_ 39 rfl) (He.glo_ok X G (c.fact 60 (f := .glo "_law_size") rfl))
  d_law_drawn_right := defAt_of (c.def_ 40 rfl) (He.glo_ok X G (c.fact 61 (f := .glo "_law_drawn_right") rfl))
  d_law_drawn_body := defAt_of (c.def_ 41 rfl) (He.glo_ok X G (c.fact 62 (f := .glo "_law_drawn_body") rfl))
  d_law_program := defAt_of (c.def_ 42 rfl) (He.glo_ok X G (c.fact 63 (f := .glo "_law_program") rfl))
  d_law_is := defAt_of (c.def_ 43 rfl) (He.glo_ok X G (c.fact 64 (f := .glo "_law_is") rfl))
  d_law_points := defAt_of (c.def_ 44 rfl) (He.glo_ok X G (c.fact 65 (f := .glo "_law_points") rfl))
  d_law_wrongs := defAt_of (c.def_ 45 rfl) (He.glo_ok X G (c.fact 66 (f := .glo "_law_wrongs") rfl))
  d_law_heads := defAt_of (c.def_ 46 rfl) (He.glo_ok X G (c.fact 67 (f := .glo "_law_heads") rfl))
  d_law_deep := defAt_of (c.def_ 47 rfl) (He.glo_ok X G (c.fact 68 (f := .glo "_law_deep") rfl))
  d_law_right := defAt_of (c.def_ 48 rfl) (He.glo_ok X G (c.fact 69 (f := .glo "_law_right") rfl))
  d_law := defAt_of (c.def_ 49 rfl) (He.glo_ok X G (c.fact 70 (f := .glo "law") rfl))
  b_abs := He.free_ok X G (c.fact 71 (f := .free "abs") rfl)
  b_all := He.free_ok X G (c.fact 72 (f := .free "all") rfl)
  b_any := He.free_ok X G (c.fact 73 (f := .free "any") rfl)
  b_bool := He.free_ok X G (c.fact 74 (f := .free "bool") rfl)
  b_divmod := He.free_ok X G (c.fact 75 (f := .free "divmod") rfl)
  b_enumerate := He.free_ok X G (c.fact 76 (f := .free "enumerate") rfl)
  b_int := He.free_ok X G (c.fact 77 (f := .free "int") rfl)
  b_isinstance := He.free_ok X G (c.fact 78 (f := .free "isinstance") rfl)
  b_len := He.free_ok X G (c.fact 79 (f := .free "len") rfl)
  b_list := He.free_ok X G (c.fact 80 (f := .free "list") rfl)
  b_max := He.free_ok X G (c.fact 81 (f := .free "max") rfl)
  b_min := He.free_ok X G (c.fact 82 (f := .free "min") rfl)
  b_range := He.free_ok X G (c.fact 83 (f := .free "range") rfl)
  b_repr := He.free_ok X G (c.fact 84 (f := .free "repr") rfl)
  b_str := He.free_ok X G (c.fact 85 (f := .free "str") rfl)
  b_sum := He.free_ok X G (c.fact 86 (f := .free "sum") rfl)
  b_super := He.free_ok X G (c.fact 87 (f := .free "super") rfl)
  b_tuple := He.free_ok X G (c.fact 88 (f := .free "tuple") rfl)

end
end K4
open PySem PySem.W PySem.Calls PyProof.Rows
theorem K4.walks : WalkO K4.qL K4.loose (XL K4.qL []) K4.hk.says K4.R.toRowW K4.dL [] fun f vs => PySem.call f vs := by
  refine DL.walk_ofG (l := PySem.Challenge.rw_leastkept_k04_whole_programs_judged) (n := 63) (k := 19) (x := "script") (CX := L2.CX0) rfl (by decide) K4.h_dfl K4.h_room (fun w mg fa h Y G hmg0 => ?_) (fun _ _ _ _ z => z)
  obtain ⟨K, KX, c⟩ := Y
  rw [K4.h_name] at hmg0
  have T := K4.txt_of KX G c
  obtain ⟨fd, hb, hF⟩ := DL.law_end h (fun base => K4.ok_law (P := PySem.Challenge.pw_leastkept_k04_whole_programs_judged) (w := w) (base := base) T) hmg0 K4.bd_law
  exact ⟨K, fd, K4.spLaw K, KX, hb, fun H a ns hl _ hS => ⟨a, ns, rfl, hS, hl, fun _ => rfl⟩, fun base _ _ => hF base⟩
theorem PySem.Challenge.cw_leastkept_k04_whole_programs_judged_holds : PySem.Challenge.rw_leastkept_k04_whole_programs_judged.Holds :=
  K4.holds_of K4.walks
