import PyProof.Rows.All
import Wide.All
import OpenK.AllK
import Wide.FinOn
import HandS.ForMost
import HandS.Evl
import HandS.EndBits
import HandS.WideBits
import HandS.Star
import PyProof.ReprRoads
import PyProof.ReprLen
import PySem.Challenge.RW_leastkept_k02_whole_tokens_of_texts
import KE.KExcSuper
import HandS.ExcInit
import HandS.ExcField
import HandS.Head0
import HandS.Head1
import HandS.Head2
import HandS.HeadHook1
import HandS.HeadHook2
import HandS.TupAny
import HandS.RaiseMore
import HandS.StrMore
import HandS.IsInst
import HandS.Conv
import HandS.Flow
import HandS.ExcOwn
import HandS.Replace
import HandS.ReplaceLit
import HandS.ReplaceList
import HandS.Ends
import HandS.HeadEnd
set_option Elab.async false
set_option linter.all false
set_option maxRecDepth 100000
set_option maxHeartbeats 4000000
namespace DL
open PySem L2 Evl PySem.Spec PyProof.Rows
/-! ### promises that ask that no repr is under way -/
structure FnG (P : Program) (w : World) (K : PySem.W.Frag) (mg : Str → Option Value) (base : Heap) (CX : CXT) (k : Nat) (f : Addr) (fd : FuncData) (ps : List Str) (sp : Sp) : Prop where
  len : ∀ vs H Q E, sp vs H Q E → vs.length = ps.length
  run : ∀ (A : Around) (outer : List Env) (s : Shared) (H : Hp) (args : Args) (us : List Value) (vs : List V) (Q : VK) (E : XK), A.guards = some [] → Room k A →
    Env0 P w K mg base A outer s H → BindsTo s fd args (ps.zip us) → Vals vs us → sp vs H Q E → codeAny (model P w) A (.call (.ref f) args) (CR CX outer P w H s Q E) s
section
variable {P : Program} {w : World} {K : PySem.W.Frag} {mg : Str → Option Value} {base : Heap} {CX : CXT} {j k : Nat} {f : Addr} {fd : FuncData} {ps : List Str} {sp : Sp}
theorem FnG.of (F : FnOk P w K mg base CX k f fd ps sp) : FnG P w K mg base CX k f fd ps sp :=
  ⟨F.len, fun A outer s H args us vs Q E _ => F.run A outer s H args us vs Q E⟩
theorem FnG.mono (F : FnG P w K mg base CX j f fd ps sp) (h : j ≤ k) : FnG P w K mg base CX k f fd ps sp :=
  ⟨F.len, fun A outer s H args us vs Q E hg hr => F.run A outer s H args us vs Q E hg (hr.mono h)⟩
theorem fnG_of {name qual : Str} {params : Arguments} {body : List Stmt} {scope : Scope} {dV kV doc pm cdv ct oc : Value} {an od : Option Addr} {osl : Array (Option Value)} {N : List Str}
    (lk : K.lookup f = some ⟨oc, od, .func (PySem.W.fnOf name qual params body scope dV kV doc pm an cdv ct), osl⟩) (hcd : PySem.W.codeIn K cdv qual = true) (S : FnScope N ps scope) (len : ∀ vs H Q E, sp vs H Q E → vs.length = ps.length)
    (hbody : ∀ (A : Around) (outer : List Env) (s : Shared) (H : Hp) (vs : List V) (Q : VK) (E : XK), A.guards = some [] → Room k (A.deeper (envOfC qual scope s.heap.objs.size f cdv)) → sp vs H Q E →
      ∃ t, PSs (cxOf CX P w K mg base N qual scope f cdv A outer s H E) body t ∧ t { nx := fun _ H' => Q .non H', rt := Q } (L2.start N vs) H) :
    FnG P w K mg base CX (k + 1) f (PySem.W.fnOf name qual params body scope dV kV doc pm an cdv ct) ps sp := by
  refine ⟨len, fun A outer s H args us vs Q E hgd hr e0 hb r hsp => ?_⟩
  have hl := len _ _ _ _ hsp
  have KX : K.In s.heap := e0.mod.kin.keeps fun b o z => (e0.bs b o z).1
  have lim : s.heap.NoLimit := e0.mod.nolimit.keeps fun b o z => (e0.bs b o z).1
  have hkind : ∀ y ∈ ps.zip us, scope.names.lookup y.1 = some .local ∨ (scope.names.lookup y.1 = some .cell ∧ ((cellsFrom (s.heap.objs.size + 1) scope.names []).lookup y.1).isSome = true) := by
    rintro ⟨n, v⟩ hy
    exact (S.par n (List.of_mem_zip hy).1).imp id fun q => ⟨q, PySem.W.cellsFrom_some _ _ _ (.inl q)⟩
  refine codeAny_call_function hr.depth (KX _ _ lk) rfl S.co S.gen rfl (PySem.W.codeRec_of KX hcd) (hb _ _ _ _ (wpAny_newFunctionEnv_cells S.kind hkind fun env he s1 x => ?_))
  subst he
  refine ⟨lim.keeps x.toInCall.keep, codeAny_func ?_⟩
  obtain ⟨t, ht, hq⟩ := hbody A outer s H vs Q E hgd (hr.deeper _) hsp
  have I : Inv (cxOf CX P w K mg base N qual scope f cdv A outer s H E) [] (L2.start N vs) H s1 := inv_start S hr.hd e0 hl r x
  refine wpAny_mono (ht.run [] s1 (L2.start N vs) H _ I hq) (fun fl s' hs => ?_) fun e s' hs => hs
  cases fl with
  | ret u =>
    obtain ⟨v, σ', H', J, rv, q⟩ := hs
    exact ⟨v, H', J.os, J.bare, J.base, J.hok, rv, q⟩
  | next =>
    obtain ⟨σ', H', J, q⟩ := hs
    exact ⟨.non, H', J.os, J.bare, J.base, J.hok, rfl, q⟩
  | brk => obtain ⟨_, _, _, q⟩ := hs; exact q.elim
  | cont => obtain ⟨_, _, _, q⟩ := hs; exact q.elim
/-- a def that asks for it, no exception leaves -/
theorem Fun.okG {x qual : Str} {st : Stmt} {N : List Str} (F : L2.Fun K x qual st f fd) (S : FnScope N ps (defScope st)) (len : ∀ vs H Q E, sp vs H Q E → vs.length = ps.length)
    (hbody : ∀ (cdv : Value) (A : Around) (outer : List Env) (s : Shared) (H : Hp) (vs : List V) (Q : VK) (E : XK), A.guards = some [] →
      Room k (A.deeper (envOfC qual (defScope st) s.heap.objs.size f cdv)) → sp vs H Q E →
      ∃ t, PSs (cxOf CX P w K mg base N qual (defScope st) f cdv A outer s H E).nox (defBody st) t ∧ t { nx := fun _ H' => Q .non H', rt := Q } (L2.start N vs) H) :
    FnG P w K mg base CX (k + 1) f fd ps sp := by
  obtain ⟨oc, od, kV, doc, pm, an, cdv, ct, osl, rfl, lk, hcd⟩ := F.ex
  refine fnG_of lk hcd S len fun A outer s H vs Q E hg hr hsp => ?_
  obtain ⟨t, h, q⟩ := hbody cdv A outer s H vs Q E hg hr hsp
  exact ⟨t, h.nox, q⟩
end
/-! ### calls -/
section
variable {X : Cx} {CX : CXT} {k : Nat} {f : Addr} {fd : FuncData} {ps ks : List Str} {sp : Sp} {E : XK} {x : Str} {p pos : Pos} {e : Expr} {es : List Expr} {kws : List Keyword} {t tk : TA}
theorem run_fnG {pins : List (Addr × Obj)} {σ : L2.St} {H : Hp} {s : Shared} {Q : VK} {us : List Value} {vs : List V} {args : Args} (F : FnG X.prog X.w X.K X.mg X.base CX k f fd ps sp) (hgd : X.A.guards = some []) (hr : Room k X.A)
    (hb : BindsTo s fd args (ps.zip us)) (hx : Passes CX X E) (I : Inv X pins σ H s) (r : Vals vs us) (h : sp vs H Q E) : codeAny (model X.prog X.w) X.A (.call (.ref f) args) (fun r s' => match r with
      | .ok (.ret u) => EP X pins σ Q u s'
      | .ok _ => False
      | .error e => X.xe e s') s := by
  refine codeAny_mono (F.run X.A X.stack s H args us vs Q E hgd hr I.env0 hb r h) fun r s' hq => ?_
  cases r with
  | error e => exact hx pins σ H s e s' I hq
  | ok fl =>
    cases fl with
    | ret u => exact I.after hq
    | next => exact hq
    | brk => exact hq
    | cont => exact hq
end

/-! ### a def of the text with its promise -/
/-- G: it asks that no repr is under way -/
def Rn (G : Bool) (P : Program) (w : World) (K : PySem.W.Frag) (mg : Str → Option Value) (base : Heap) (CX : CXT) (k : Nat) (f : Addr) (fd : FuncData) (ps : List Str) (sp : Sp) : Prop :=
  match G with
  | true => FnG P w K mg base CX k f fd ps sp
  | false => FnOk P w K mg base CX k f fd ps sp
theorem Rn.toG {G : Bool} {P : Program} {w : World} {K : PySem.W.Frag} {mg : Str → Option Value} {base : Heap} {CX : CXT} {k : Nat} {f : Addr} {fd : FuncData} {ps : List Str} {sp : Sp} (h : Rn G P w K mg base CX k f fd ps sp) :
    FnG P w K mg base CX k f fd ps sp := by
  cases G with
  | true => exact h
  | false => exact FnG.of h
/-- the def stands, at its name -/
structure DefAt (K : PySem.W.Frag) (mg : Str → Option Value) (x : Str) (st : Stmt) : Prop where
  ex : ∃ f fd, L2.Fun K x x st f fd ∧ mg x = some (.ref f)
structure DefOk (P : Program) (w : World) (K : PySem.W.Frag) (mg : Str → Option Value) (base : Heap) (CX : CXT) (G : Bool) (k : Nat) (x : Str) (st : Stmt) (ps : List Str) (sp : Sp) : Prop where
  ex : ∃ f fd, L2.Fun K x x st f fd ∧ mg x = some (.ref f) ∧ Rn G P w K mg base CX k f fd ps sp
section
variable {P : Program} {w : World} {K : PySem.W.Frag} {mg : Str → Option Value} {base : Heap} {CX : CXT} {j k : Nat} {x : Str} {st : Stmt} {ps : List Str} {sp : Sp}
theorem DefAt.ok {N : List Str} (D : DefAt K mg x st) (S : FnScope N ps (defScope st)) (len : ∀ vs H Q E, sp vs H Q E → vs.length = ps.length)
    (hbody : ∀ (f : Addr) (cdv : Value) (A : Around) (outer : List Env) (s : Shared) (H : Hp) (vs : List V) (Q : VK) (E : XK), Room k (A.deeper (envOfC x (defScope st) s.heap.objs.size f cdv)) → sp vs H Q E →
      ∃ t, PSs (cxOf CX P w K mg base N x (defScope st) f cdv A outer s H E).nox (defBody st) t ∧ t { nx := fun _ H' => Q .non H', rt := Q } (L2.start N vs) H) :
    DefOk P w K mg base CX false (k + 1) x st ps sp := by
  obtain ⟨f, fd, F, hm⟩ := D.ex
  refine ⟨f, fd, F, hm, ?_⟩
  obtain ⟨oc, od, kV, doc, pm, an, cdv, ct, osl, rfl, lk, hcd⟩ := F.ex
  refine fn_of lk hcd S len fun A outer s H vs Q E hr hsp => ?_
  obtain ⟨t, h, q⟩ := hbody f cdv A outer s H vs Q E hr hsp
  exact ⟨t, h.nox, q⟩
theorem DefAt.okG {N : List Str} (D : DefAt K mg x st) (S : FnScope N ps (defScope st)) (len : ∀ vs H Q E, sp vs H Q E → vs.length = ps.length)
    (hbody : ∀ (f : Addr) (cdv : Value) (A : Around) (outer : List Env) (s : Shared) (H : Hp) (vs : List V) (Q : VK) (E : XK), A.guards = some [] → Room k (A.deeper (envOfC x (defScope st) s.heap.objs.size f cdv)) → sp vs H Q E →
      ∃ t, PSs (cxOf CX P w K mg base N x (defScope st) f cdv A outer s H E).nox (defBody st) t ∧ t { nx := fun _ H' => Q .non H', rt := Q } (L2.start N vs) H) :
    DefOk P w K mg base CX true (k + 1) x st ps sp := by
  obtain ⟨f, fd, F, hm⟩ := D.ex
  exact ⟨f, fd, F, hm, Fun.okG F S len fun cdv A outer s H vs Q E => hbody f cdv A outer s H vs Q E⟩
/-- a def that may raise -/
theorem DefAt.okX {N : List Str} (D : DefAt K mg x st) (S : FnScope N ps (defScope st)) (len : ∀ vs H Q E, sp vs H Q E → vs.length = ps.length)
    (hbody : ∀ (f : Addr) (cdv : Value) (A : Around) (outer : List Env) (s : Shared) (H : Hp) (vs : List V) (Q : VK) (E : XK), Room k (A.deeper (envOfC x (defScope st) s.heap.objs.size f cdv)) → sp vs H Q E →
      ∃ t, PSs (cxOf CX P w K mg base N x (defScope st) f cdv A outer s H E) (defBody st) t ∧ t { nx := fun _ H' => Q .non H', rt := Q } (L2.start N vs) H) :
    DefOk P w K mg base CX false (k + 1) x st ps sp := by
  obtain ⟨f, fd, F, hm⟩ := D.ex
  refine ⟨f, fd, F, hm, ?_⟩
  obtain ⟨oc, od, kV, doc, pm, an, cdv, ct, osl, rfl, lk, hcd⟩ := F.ex
  exact fn_of lk hcd S len fun A outer s H vs Q E hr hsp => hbody f cdv A outer s H vs Q E hr hsp
theorem DefOk.mono {G : Bool} (D : DefOk P w K mg base CX G j x st ps sp) (h : j ≤ k) : DefOk P w K mg base CX G k x st ps sp := by
  obtain ⟨f, fd, F, hm, R⟩ := D.ex
  refine ⟨f, fd, F, hm, ?_⟩
  cases G with
  | true => exact FnG.mono R h
  | false => exact FnOk.mono R h
theorem DefOk.imp {sp' : Sp} {G : Bool} (D : DefOk P w K mg base CX G k x st ps sp) (h : ∀ vs H Q E, sp' vs H Q E → sp vs H Q E) : DefOk P w K mg base CX G k x st ps sp' := by
  obtain ⟨f, fd, F, hm, R⟩ := D.ex
  refine ⟨f, fd, F, hm, ?_⟩
  cases G with
  | true => exact ⟨fun vs H Q E z => R.len vs H Q E (h vs H Q E z), fun A outer s H args us vs Q E hg hr e0 hb r z => R.run A outer s H args us vs Q E hg hr e0 hb r (h vs H Q E z)⟩
  | false => exact FnOk.imp R h
end
/-- how the parameters are bound by position -/
def BindP (x : Str) (st : Stmt) (ps : List Str) : Prop := ∀ (kV doc pm : Value) (an : Option Addr) (cdv ct : Value) (us : List Value), us.length = ps.length →
  bindArgs (PySem.W.fnOf x x (defArgs st) (defBody st) (defScope st) .none kV doc pm an cdv ct) ⟨us, []⟩ = pure (ps.zip us)
/-- .. by the keywords ks alone; g puts their values in the parameters' order -/
def BindK (x : Str) (st : Stmt) (ps ks : List Str) (g : {α : Type} → List α → List α) : Prop := ∀ (kV doc pm : Value) (an : Option Addr) (cdv ct : Value) (us : List Value), us.length = ks.length →
  bindArgs (PySem.W.fnOf x x (defArgs st) (defBody st) (defScope st) .none kV doc pm an cdv ct) ⟨[], ks.zip us⟩ = pure (ps.zip (g us))
section
variable {X : Cx} {CX : CXT} {G : Bool} {k : Nat} {st : Stmt} {ps ks : List Str} {sp : Sp} {E : XK} {x : Str} {p pos : Pos} {e : Expr} {es : List Expr} {kws : List Keyword} {t tk : TA}
theorem run_D {pins : List (Addr × Obj)} {σ : L2.St} {H : Hp} {s : Shared} {Q : VK} {us : List Value} {vs : List V} {args : Args} {f : Addr} {fd : FuncData} (R : Rn G X.prog X.w X.K X.mg X.base CX k f fd ps sp) (hgd : G = false ∨ X.A.guards = some []) (hr : Room k X.A)
    (hb : BindsTo s fd args (ps.zip us)) (hx : Passes CX X E) (I : Inv X pins σ H s) (r : Vals vs us) (h : sp vs H Q E) : codeAny (model X.prog X.w) X.A (.call (.ref f) args) (fun r s' => match r with
      | .ok (.ret u) => EP X pins σ Q u s'
      | .ok _ => False
      | .error e => X.xe e s') s := by
  have main : codeAny (model X.prog X.w) X.A (.call (.ref f) args) (CR CX X.stack X.prog X.w H s Q E) s := by
    cases G with
    | true => exact R.run X.A X.stack s H args us vs Q E (hgd.resolve_left (by decide)) hr I.env0 hb r h
    | false => exact R.run X.A X.stack s H args us vs Q E hr I.env0 hb r h
  refine codeAny_mono main fun r s' hq => ?_
  cases r with
  | error e => exact hx pins σ H s e s' I hq
  | ok fl =>
    cases fl with
    | ret u => exact I.after hq
    | next => exact hq
    | brk => exact hq
    | cont => exact hq
theorem Rn.len {f : Addr} {fd : FuncData} {P : Program} {w : World} {K : PySem.W.Frag} {mg : Str → Option Value} {base : Heap} (R : Rn G P w K mg base CX k f fd ps sp) {vs : List V} {H : Hp} {Q : VK} (h : sp vs H Q E) : vs.length = ps.length :=
  R.toG.len vs H Q E h
/-- f(e, ..) -/
theorem pe_callD (D : DefOk X.prog X.w X.K X.mg X.base CX G k x st ps sp) (hr : Room k X.A) (hgd : G = false ∨ X.A.guards = some []) (hb : BindP x st ps) (hx : Passes CX X E) (ha : PA X (e :: es) t) (hg : Gl X x := by rfl)
    (hdb : (x == ("__debug__" : Str)) = false := by decide) (he : starEach (e :: es) X.env = (false, eval e X.env) :: starEach es X.env := by rfl) (hpl : (backTo pos (starEach es X.env)).any (·.1) = false := by rfl) :
    PE X (.Call (.Name x p) (e :: es) [] pos) (tCall sp [] E t) := by
  obtain ⟨f, fd, F, hm, R⟩ := D.ex
  refine ⟨fun pins s σ H Q I h => wpAny_Call_Name_kw (ld_glob I hg hm ?_ hdb)⟩
  refine PySem.W.callWith_K (h₀ := X.base) I.ok.mod.kin F.kp (thn (ha.run pos pins s σ H _ I h) fun us s1 z => ?_) he hpl
  obtain ⟨vs, H1, I1, r, q⟩ := z
  refine ⟨I1.kIn, ?_⟩
  have q' : sp vs H1 Q E := by
    have q0 : sp (vs ++ []) H1 Q E := q
    rwa [List.append_nil] at q0
  have hl : us.length = ps.length := by rw [← r.length]; exact R.len q'
  obtain ⟨oc, od, kV, doc, pm, an, cdv, ct, osl, rfl, lk, hcd⟩ := F.ex
  have hbt : BindsTo s1 _ ⟨[] ++ us, []⟩ (ps.zip us) := .of_eq (hb kV doc pm an cdv ct us hl)
  refine wpAny_call (codeAny_mono (run_D R hgd hr hbt hx I1 r q') fun r s' hq => ?_)
  cases r with
  | error e => exact hq
  | ok fl => cases fl with
    | ret u => exact hq
    | next => exact hq
    | brk => exact hq
    | cont => exact hq
/-- f() -/
theorem pe_callD0 (D : DefOk X.prog X.w X.K X.mg X.base CX G k x st [] sp) (hr : Room k X.A) (hgd : G = false ∨ X.A.guards = some []) (hb : BindP x st []) (hx : Passes CX X E) (hg : Gl X x := by rfl)
    (hdb : (x == ("__debug__" : Str)) = false := by decide) : PE X (.Call (.Name x p) [] [] pos) (tCall sp [] E tNil) := by
  obtain ⟨f, fd, F, hm, R⟩ := D.ex
  refine ⟨fun pins s σ H Q I h => wpAny_Call_Name_kw (ld_glob I hg hm ?_ hdb)⟩
  refine PySem.W.callWith_K0 I.kIn F.kp ?_
  obtain ⟨oc, od, kV, doc, pm, an, cdv, ct, osl, rfl, lk, hcd⟩ := F.ex
  have hbt : BindsTo s _ ⟨[] ++ [], []⟩ (([] : List Str).zip []) := .of_eq (hb kV doc pm an cdv ct [] rfl)
  refine wpAny_call (codeAny_mono (run_D R hgd hr hbt hx I .nil h) fun r s' hq => ?_)
  cases r with
  | error e => exact hq
  | ok fl => cases fl with
    | ret u => exact hq
    | next => exact hq
    | brk => exact hq
    | cont => exact hq
/-- f(k = e, ..) -/
def tCallKO (n : Nat) (sp : Sp) (g : {α : Type} → List α → List α) (E : XK) (tk : TA) : TE := fun σ H Q => tk σ H fun zs H2 => zs.length = n ∧ sp (g zs) H2 Q E
theorem pe_callDK {g : {α : Type} → List α → List α} (D : DefOk X.prog X.w X.K X.mg X.base CX G k x st ps sp) (hr : Room k X.A) (hgd : G = false ∨ X.A.guards = some []) (hb : BindK x st ps ks g) (hrel : ∀ {vs : List V} {us : List Value}, Vals vs us → Vals (g vs) (g us)) (hx : Passes CX X E)
    (hkw : PK X kws tk) (hks : (backToKw pos (keywordEach kws X.env)).filterMap (·.1) = ks := by rfl) (hall : (backToKw pos (keywordEach kws X.env)).all (·.1.isSome) = true := by rfl) (hg : Gl X x := by rfl)
    (hdb : (x == ("__debug__" : Str)) = false := by decide)
    (hpl : ((backTo pos (starEach [] X.env)).any (·.1) || (backToKw pos (keywordEach kws X.env)).any (·.1.isNone)) = false := by rfl) :
    PE X (.Call (.Name x p) [] kws pos) (tCallKO ks.length sp g E tk) := by
  obtain ⟨f, fd, F, hm, R⟩ := D.ex
  refine ⟨fun pins s σ H Q I h => wpAny_Call_Name_kw (ld_glob I hg hm ?_ hdb)⟩
  refine PySem.W.callWith_KW0 (h₀ := X.base) I.ok.mod.kin F.kp hall ?_ hpl
  refine thn (hkw.run pos pins s σ H _ I h) fun ws s2 z => ?_
  obtain ⟨zs, H2, I2, rz, hl, q2⟩ := z
  refine ⟨I2.kIn, ?_⟩
  rw [hks]
  obtain ⟨oc, od, kV, doc, pm, an, cdv, ct, osl, rfl, lk, hcd⟩ := F.ex
  have hbt : BindsTo s2 _ ⟨[], ks.zip ws⟩ (ps.zip (g ws)) := .of_eq (hb kV doc pm an cdv ct ws (by rw [← rz.length]; exact hl))
  refine wpAny_call (codeAny_mono (run_D R hgd hr hbt hx I2 (hrel rz) q2) fun r s' hq => ?_)
  cases r with
  | error e => exact hq
  | ok fl => cases fl with
    | ret u => exact hq
    | next => exact hq
    | brk => exact hq
    | cont => exact hq
end
end DL

set_option maxHeartbeats 4000000
namespace DL
open PySem L2 Evl PySem.Spec PyProof.Rows
/-! ### data -/
section
variable {K : PySem.W.Frag} {H H' : Hp}
mutual
theorem dp_ex (e : Ex H H') : ∀ {v : V} {d : PyData}, Dp K H v d → Dp K H' v d
  | _, _, .non => .non
  | _, _, .bl b => .bl b
  | _, _, .int i => .int i
  | _, _, .str x => .str x
  | _, _, .lst h a => .lst (ex_l e h) (dpa_ex e a)
  | _, _, .tup h a => .tup (ex_t e h) (dpa_ex e a)
theorem dpa_ex (e : Ex H H') : ∀ {vs : List V} {ds : List PyData}, DpAll K H vs ds → DpAll K H' vs ds
  | _, _, .nil => .nil
  | _, _, .cons a r => .cons (dp_ex e a) (dpa_ex e r)
end
mutual
theorem dp_nodict : ∀ {v : V} {d : PyData}, Dp K H v d → d.hasDict = false
  | _, _, .non => rfl
  | _, _, .bl b => rfl
  | _, _, .int i => rfl
  | _, _, .str x => rfl
  | _, _, .lst h a => by show PyData.hasDictAll _ = false; exact dpa_nodict a
  | _, _, .tup h a => by show PyData.hasDictAll _ = false; exact dpa_nodict a
theorem dpa_nodict : ∀ {vs : List V} {ds : List PyData}, DpAll K H vs ds → PyData.hasDictAll ds = false
  | _, _, .nil => rfl
  | _, _, .cons a r => by
    show (PyData.hasDict _ || PyData.hasDictAll _) = false
    rw [dp_nodict a, dpa_nodict r]
    rfl
end
theorem dpa_len : ∀ {vs : List V} {ds : List PyData}, DpAll K H vs ds → vs.length = ds.length
  | _, _, .nil => rfl
  | _, _, .cons _ r => congrArg (· + 1) (dpa_len r)
theorem dpa_get : ∀ {vs : List V} {ds : List PyData} {i : Nat} {d : PyData}, DpAll K H vs ds → ds[i]? = some d → ∃ v, vs[i]? = some v ∧ Dp K H v d
  | _, _, 0, _, .cons a _, h => ⟨_, rfl, (Option.some.inj h) ▸ a⟩
  | _, _, i + 1, _, .cons _ r, h => dpa_get (i := i) r h
  | _, _, 0, _, .nil, h => nomatch h
  | _, _, i + 1, _, .nil, h => nomatch h
theorem dpa_getV : ∀ {vs : List V} {ds : List PyData} {i : Nat} {v : V}, DpAll K H vs ds → vs[i]? = some v → ∃ d, ds[i]? = some d ∧ Dp K H v d
  | _, _, 0, _, .cons a _, h => ⟨_, rfl, (Option.some.inj h) ▸ a⟩
  | _, _, i + 1, _, .cons _ r, h => dpa_getV (i := i) r h
  | _, _, 0, _, .nil, h => nomatch h
  | _, _, i + 1, _, .nil, h => nomatch h
theorem dpa_app : ∀ {vs us : List V} {ds es : List PyData}, DpAll K H vs ds → DpAll K H us es → DpAll K H (vs ++ us) (ds ++ es)
  | _, _, _, _, .nil, h => h
  | _, _, _, _, .cons a r, h => .cons a (dpa_app r h)
theorem dpa_one {v : V} {d : PyData} (h : Dp K H v d) : DpAll K H [v] [d] := .cons h .nil
theorem dpa_take : ∀ (n : Nat) {vs : List V} {ds : List PyData}, DpAll K H vs ds → DpAll K H (vs.take n) (ds.take n)
  | 0, _, _, _ => by simpa using DpAll.nil
  | n + 1, _, _, .nil => .nil
  | n + 1, _, _, .cons a r => .cons a (dpa_take n r)
theorem dpa_drop : ∀ (n : Nat) {vs : List V} {ds : List PyData}, DpAll K H vs ds → DpAll K H (vs.drop n) (ds.drop n)
  | 0, _, _, h => h
  | n + 1, _, _, .nil => .nil
  | n + 1, _, _, .cons a r => dpa_drop n r
theorem dpa_set : ∀ {vs : List V} {ds : List PyData} (n : Nat) {v : V} {d : PyData}, DpAll K H vs ds → Dp K H v d → DpAll K H (vs.set n v) (ds.set n d)
  | _, _, _, _, _, .nil, _ => .nil
  | _, _, 0, _, _, .cons _ r, h => .cons h r
  | _, _, n + 1, _, _, .cons a r, h => .cons a (dpa_set n r h)
theorem dpa_erase : ∀ {vs : List V} {ds : List PyData} (n : Nat), DpAll K H vs ds → DpAll K H (vs.eraseIdx n) (ds.eraseIdx n)
  | _, _, _, .nil => .nil
  | _, _, 0, .cons _ r => r
  | _, _, n + 1, .cons a r => .cons a (dpa_erase n r)
/-- scalars by their values -/
theorem dp_int {v : V} {i : Int} (h : Dp K H v (.int i)) : v = .int i := by cases h; rfl
theorem dp_str {v : V} {x : Str} (h : Dp K H v (.str x)) : v = .str x := by cases h; rfl
theorem dp_bl {v : V} {b : Bool} (h : Dp K H v (.bool b)) : v = .bl b := by cases h; rfl
theorem dp_non {v : V} (h : Dp K H v .none) : v = .non := by cases h; rfl
theorem dp_tup {v : V} {ds : List PyData} (h : Dp K H v (.tuple ds)) : ∃ a xs, v = .ref a ∧ SqT K H a xs ∧ DpAll K H xs ds := by cases h with | tup h a => exact ⟨_, _, rfl, h, a⟩
theorem dp_lst {v : V} {ds : List PyData} (h : Dp K H v (.list ds)) : ∃ a xs, v = .ref a ∧ SqL K H a xs ∧ DpAll K H xs ds := by cases h with | lst h a => exact ⟨_, _, rfl, h, a⟩
/-- lists of texts, of ints -/
theorem dpa_strs : ∀ xs : List Str, DpAll K H (xs.map V.str) (xs.map PyData.str)
  | [] => .nil
  | x :: r => .cons (.str x) (dpa_strs r)
theorem dpa_ints : ∀ xs : List Int, DpAll K H (xs.map V.int) (xs.map PyData.int)
  | [] => .nil
  | x :: r => .cons (.int x) (dpa_ints r)
theorem dpa_bls : ∀ xs : List Bool, DpAll K H (xs.map V.bl) (xs.map PyData.bool)
  | [] => .nil
  | x :: r => .cons (.bl x) (dpa_bls r)
theorem dpa_strs_eq : ∀ {xs : List Str} {vs : List V}, DpAll K H vs (xs.map PyData.str) → vs = xs.map V.str
  | [], _, .nil => rfl
  | x :: r, _, .cons a b => by rw [dp_str a, dpa_strs_eq b]; rfl
end
/-! ### repr -/
/-- data that repr tells whole -/
structure Shows (d : PyData) : Prop where
  ok : d.showable = true
  deep : d.depth ≤ 40
  fits : d.shown.length ≤ sizeLine
section
variable {X : Cx} {k : Nat}
theorem call_reprD (hgd : X.A.guards = some []) (hr : Room k X.A) : CallR X (.builtin "repr") (fun xs H Q => ∃ v d, xs = [v] ∧ Dp X.K H v d ∧ Shows d ∧ Q (.str d.shown) H) := by
  intro pins s σ H xs us Q I r h
  obtain ⟨v, d, rfl, hd, hs, q⟩ := h
  obtain ⟨u, rfl, rv⟩ := vals1 r
  have hun := hr.un
  cases hd with
  | non => obtain rfl : u = Value.none := rv; exact PySem.P.repr_of_none ⟨.str _, H, I.tok _, ⟨_, rfl⟩, q⟩
  | bl b =>
    obtain rfl : u = Value.bool b := rv
    refine PySem.P.repr_of_bool ⟨.str _, H, I.tok _, ⟨_, rfl⟩, ?_⟩
    cases b <;> exact q
  | int i =>
    obtain ⟨t, rfl⟩ : ∃ t, u = Value.int i t := rv
    exact PySem.P.repr_of_int (by simpa [PyData.showable] using hs.ok) ⟨.str _, H, I.tok _, ⟨_, rfl⟩, q⟩
  | str x =>
    obtain ⟨t, rfl⟩ : ∃ t, u = Value.str x t := rv
    exact PySem.P.repr_of_str ⟨.str _, H, I.tok _, ⟨_, rfl⟩, q⟩ (hsz := hs.fits)
  | @lst a ys ds hq ha =>
    obtain rfl : u = Value.ref a := rv
    have hd : Dp X.K H (.ref a) (.list ds) := .lst hq ha
    obtain ⟨as, rd⟩ := Dp.reads I _ _ _ hd rfl
    exact repr_of_reads' rd hs.ok (PyData.noDict_hsm (dp_nodict hd)) hgd (by have := hs.deep; omega) (fun _ _ z => z) (fun h' u' tk kp => ⟨.str _, H, I.kept kp, ⟨_, rfl⟩, q⟩) (hsz := hs.fits)
  | @tup a ys ds hq ha =>
    obtain rfl : u = Value.ref a := rv
    have hd : Dp X.K H (.ref a) (.tuple ds) := .tup hq ha
    obtain ⟨as, rd⟩ := Dp.reads I _ _ _ hd rfl
    exact repr_of_reads' rd hs.ok (PyData.noDict_hsm (dp_nodict hd)) hgd (by have := hs.deep; omega) (fun _ _ z => z) (fun h' u' tk kp => ⟨.str _, H, I.kept kp, ⟨_, rfl⟩, q⟩) (hsz := hs.fits)
end
/-! ### evaluating to data -/
def EvD (K : PySem.W.Frag) (te : TE) (σ : L2.St) (H : Hp) (d : PyData) : Prop := ∀ H1, Ex H H1 → ∀ Q : VK, (∀ v H2, Ex H1 H2 → Dp K H2 v d → Q v H2) → te σ H1 Q
section
variable {K : PySem.W.Frag} {σ : L2.St} {H H' : Hp} {ta tb te : TE} {d : PyData}
theorem EvD.mono (e : Ex H H') (h : EvD K te σ H d) : EvD K te σ H' d := fun H1 a Q q => h H1 (e.trans a) Q q
theorem evd_var {i : Nat} {v : V} (h : σ[i]? = some (some v)) (hd : Dp K H v d) : EvD K (tVar i) σ H d := fun H1 e Q q => ⟨v, h, q v H1 (Ex.refl H1) (dp_ex e hd)⟩
theorem evd_ev {v : V} (h : Ev te σ H v) (hd : Dp K H v d) : EvD K te σ H d := fun H1 e Q q => h H1 e Q fun H2 e2 => q v H2 e2 (dp_ex (e.trans e2) hd)
theorem ev_evd_int {i : Int} (h : EvD K te σ H (.int i)) : Ev te σ H (.int i) := fun H1 e Q q => h H1 e Q fun v H2 e2 hd => by cases hd; exact q H2 e2
theorem ev_evd_str {i : Str} (h : EvD K te σ H (.str i)) : Ev te σ H (.str i) := fun H1 e Q q => h H1 e Q fun v H2 e2 hd => by cases hd; exact q H2 e2
theorem ev_evd_bl {i : Bool} (h : EvD K te σ H (.bool i)) : Ev te σ H (.bl i) := fun H1 e Q q => h H1 e Q fun v H2 e2 hd => by cases hd; exact q H2 e2
/-- several -/
def EvDs (K : PySem.W.Frag) (ta : TA) (σ : L2.St) (H : Hp) (ds : List PyData) : Prop := ∀ H1, Ex H H1 → ∀ Q : List V → Hp → Prop, (∀ vs H2, Ex H1 H2 → DpAll K H2 vs ds → Q vs H2) → ta σ H1 Q
theorem evds_nil : EvDs K tNil σ H [] := fun H1 e Q q => q [] H1 (Ex.refl H1) .nil
theorem evds_cons {tr : TA} {ds : List PyData} (h : EvD K ta σ H d) (hr : EvDs K tr σ H ds) : EvDs K (tCons ta tr) σ H (d :: ds) := fun H1 e Q q =>
  h H1 e _ fun v H2 e2 hv => hr H2 (e.trans e2) _ fun vs H3 e3 hvs => q (v :: vs) H3 (e2.trans e3) (.cons (dp_ex e3 hv) hvs)
theorem evd_tup {ta : TA} {ds : List PyData} (h : EvDs K ta σ H ds) (hl : ds.length ≤ 100000) : EvD K (tTup ta) σ H (.tuple ds) := fun H1 e Q q =>
  h H1 e _ fun vs H2 e2 hvs => ⟨sz_of (by rw [dpa_len hvs]; exact hl), fun p hp => q _ _ (e2.trans (Ex.new hp)) (.tup (st_of upd_same) (dpa_ex (Ex.new hp) hvs))⟩
theorem evd_lst {ta : TA} {ds : List PyData} (h : EvDs K ta σ H ds) (hl : ds.length ≤ 100000) : EvD K (tLst ta) σ H (.list ds) := fun H1 e Q q =>
  h H1 e _ fun vs H2 e2 hvs => ⟨sz_of (by rw [dpa_len hvs]; exact hl), fun p hp => q _ _ (e2.trans (Ex.new hp)) (.lst (sq_of upd_same) (dpa_ex (Ex.new hp) hvs))⟩
theorem evd_if {t : TT} {b : Bool} (h : EvT t σ H b) (h1 : b = true → EvD K ta σ H d) (h2 : b = false → EvD K tb σ H d) : EvD K (tIf t ta tb) σ H d := fun H1 e Q q => h H1 e _ fun H2 e2 => by
  cases b with
  | true => exact h1 rfl H2 (e.trans e2) Q fun v H3 e3 => q v H3 (e2.trans e3)
  | false => exact h2 rfl H2 (e.trans e2) Q fun v H3 e3 => q v H3 (e2.trans e3)
end
end DL

set_option maxHeartbeats 4000000
namespace DL
open PySem L2 Evl PySem.Spec PyProof.Rows
/-! ### constants of the text -/
def ConstAt (mg : Str → Option Value) (x : Str) (v : V) : Prop := ∃ u, mg x = some u ∧ RelV v u
def TupAt (K : PySem.W.Frag) (mg : Str → Option Value) (x : Str) (vs : List V) : Prop := ∃ a, mg x = some (.ref a) ∧ ∀ H, SqT K H a vs
def tTupC (K : PySem.W.Frag) (vs : List V) : TE := fun _ H Q => ∀ a, (∀ H, SqT K H a vs) → Q (.ref a) H
section
variable {X : Cx} {x : Str} {v : V} {vs : List V} {pos : Pos}
theorem pe_const (c : ConstAt X.mg x v) (hg : Gl X x := by rfl) (hd : (x == ("__debug__" : Str)) = false := by decide) : PE X (.Name x pos) (tC v) := by
  obtain ⟨u, h, r⟩ := c
  exact pe_glob hg h r hd
theorem pe_tupc (c : TupAt X.K X.mg x vs) (hg : Gl X x := by rfl) (hd : (x == ("__debug__" : Str)) = false := by decide) : PE X (.Name x pos) (tTupC X.K vs) := by
  obtain ⟨a, h, r⟩ := c
  have b : PE X (.Name x pos) (tC (.ref a)) := pe_glob hg h rfl hd
  exact ⟨fun pins s σ H Q I z => b.run pins s σ H Q I (z a r)⟩
end
/-! ### the heap without some lists that change -/
def hid (ps : List Addr) (H : Hp) : Hp := fun a => if a ∈ ps then none else H a
theorem hid_ex {ps : List Addr} {H : Hp} : Ex (hid ps H) H := fun a o h => by
  unfold hid at h
  split at h
  · cases h
  · exact h
theorem hid_of {ps : List Addr} {H : Hp} {a : Addr} {o : HO} (h : H a = some o) (n : a ∉ ps) : hid ps H a = some o := by
  unfold hid
  rw [if_neg n]
  exact h
theorem hid_get {ps : List Addr} {H : Hp} {a : Addr} {o : HO} (h : hid ps H a = some o) : H a = some o ∧ a ∉ ps := by
  unfold hid at h
  split at h
  · cases h
  · rename_i z; exact ⟨h, z⟩
/-- what is kept but for some lists -/
def Kp (ps : List Addr) (H H' : Hp) : Prop := ∀ a o, a ∉ ps → H a = some o → H' a = some o
theorem Kp.refl {ps : List Addr} (H : Hp) : Kp ps H H := fun _ _ _ h => h
theorem Kp.trans {ps : List Addr} {H H1 H2 : Hp} (a : Kp ps H H1) (b : Kp ps H1 H2) : Kp ps H H2 := fun x o n h => b x o n (a x o n h)
theorem Kp.ex {ps : List Addr} {H H1 : Hp} (a : Kp ps H H1) : Ex (hid ps H) (hid ps H1) := fun x o h => by
  obtain ⟨h1, h2⟩ := hid_get h
  exact hid_of (a x o h2 h1) h2
theorem Kp.of {ps : List Addr} {H H1 : Hp} (a : Ex H H1) : Kp ps H H1 := fun x o _ h => a x o h
theorem Kp.mono {ps qs : List Addr} {H H1 : Hp} (a : Kp ps H H1) (h : ∀ x ∈ ps, x ∈ qs) : Kp qs H H1 := fun x o n z => a x o (fun m => n (h x m)) z
theorem Kp.new {ps : List Addr} {H : Hp} {p : Addr} {o : HO} (h : H p = none) : Kp ps H (upd H p o) := Kp.of (Ex.new h)
theorem Kp.upd {ps : List Addr} {H H1 : Hp} {p : Addr} {o : HO} (a : Kp ps H H1) (h : p ∈ ps) : Kp ps H (upd H1 p o) := fun x u n z => by
  have nx : x ≠ p := fun e => n (e ▸ h)
  rw [upd_ne nx]
  exact a x u n z
/-- an object that H does not know may change -/
theorem Kp.mut {ps : List Addr} {H H1 : Hp} {p : Addr} {o : HO} (a : Kp ps H H1) (h : H p = none) : Kp ps H (L2.upd H1 p o) := fun x u n z => by
  rw [upd_ne (ne_of_none z h)]
  exact a x u n z
/-- at an address kept -/
theorem Kp.at {ps : List Addr} {H H1 : Hp} {a : Addr} {o : HO} (k : Kp ps H H1) (h : H a = some o) (n : a ∉ ps) : H1 a = some o := k a o n h
theorem kp_l {ps : List Addr} {K : PySem.W.Frag} {H H' : Hp} {a : Addr} {xs : List V} (k : Kp ps H H') (n : a ∉ ps) (h : SqL K H a xs) : SqL K H' a xs := by
  rcases h with (h | ⟨o, h⟩) | h
  · exact .inl (.inl (k a _ n h))
  · exact .inl (.inr ⟨o, k a _ n h⟩)
  · exact .inr h
theorem kp_t {ps : List Addr} {K : PySem.W.Frag} {H H' : Hp} {a : Addr} {xs : List V} (k : Kp ps H H') (n : a ∉ ps) (h : SqT K H a xs) : SqT K H' a xs := by
  rcases h with (h | ⟨o, h⟩) | h
  · exact .inl (.inl (k a _ n h))
  · exact .inl (.inr ⟨o, k a _ n h⟩)
  · exact .inr h
/-! ### the tuples of a heap: they never change -/
def tp (H : Hp) : Hp := fun a => match H a with
  | some (.tup xs) => some (.tup xs)
  | _ => none
theorem tp_of {H : Hp} {a : Addr} {xs : List V} (h : H a = some (.tup xs)) : tp H a = some (.tup xs) := by
  unfold tp
  rw [h]
theorem tp_get {H : Hp} {a : Addr} {o : HO} (h : tp H a = some o) : ∃ xs, o = .tup xs ∧ H a = some (.tup xs) := by
  unfold tp at h
  split at h
  · rename_i xs e
    exact ⟨xs, (Option.some.inj h).symm, e⟩
  · cases h
theorem tp_sub {H : Hp} : Ex (tp H) H := fun a o h => by
  obtain ⟨xs, rfl, e⟩ := tp_get h
  exact e
/-- tuples are kept -/
def Tp (H H' : Hp) : Prop := ∀ a xs, H a = some (.tup xs) → H' a = some (.tup xs)
theorem Tp.refl (H : Hp) : Tp H H := fun _ _ h => h
theorem Tp.trans {H H1 H2 : Hp} (a : Tp H H1) (b : Tp H1 H2) : Tp H H2 := fun x xs h => b x xs (a x xs h)
theorem Tp.ex {H H' : Hp} (t : Tp H H') : Ex (tp H) (tp H') := fun a o h => by
  obtain ⟨xs, rfl, e⟩ := tp_get h
  exact tp_of (t a xs e)
theorem Tp.of {H H' : Hp} (e : Ex H H') : Tp H H' := fun a xs h => e a _ h
theorem Tp.new {H : Hp} {p : Addr} {o : HO} (h : H p = none) : Tp H (L2.upd H p o) := Tp.of (Ex.new h)
/-- a list changes -/
theorem Tp.lst {H : Hp} {p : Addr} {xs : List V} {o : HO} (h : H p = some (.lst xs)) : Tp H (L2.upd H p o) := fun a ys e => by
  have n : a ≠ p := fun z => by rw [z, h] at e; cases e
  rw [upd_ne n]
  exact e
theorem Kp.tp {ps : List Addr} {H H' : Hp} (k : Kp ps H H') (h : ∀ a ∈ ps, ∃ xs, H a = some (.lst xs)) : Tp H H' := fun a xs e => by
  refine k a _ (fun m => ?_) e
  obtain ⟨ys, z⟩ := h a m
  rw [e] at z
  cases z
theorem dp_tp {K : PySem.W.Frag} {H : Hp} {v : V} {d : PyData} (h : Dp K (DL.tp H) v d) : Dp K H v d := dp_ex tp_sub h
theorem dpa_tp {K : PySem.W.Frag} {H : Hp} {v : List V} {d : List PyData} (h : DpAll K (DL.tp H) v d) : DpAll K H v d := dpa_ex tp_sub h
/-! ### ints -/
theorem pylong_small {i j : Int} (h0 : 0 < j) (h1 : j < 1073741824) : Builtin.divisionGoesByPylong i j = false := by
  show (decide ((if j == 0 then 0 else j.natAbs.log2 / 30 + 1) > 300) && _) = false
  rw [if_neg (show ¬ (j == 0) = true by simpa using (show j ≠ 0 by omega))]
  have e : j.natAbs.log2 / 30 = 0 := by
    have h : j.natAbs < 2 ^ 30 := by
      have : (2 : Nat) ^ 30 = 1073741824 := by decide
      omega
    have : j.natAbs.log2 < 30 := (Nat.log2_lt (by omega)).mpr h
    omega
  rw [e]
  rfl
theorem itT {c : Bool} {A B : Prop} (h : c = true) (a : A) : if c = true then A else B := by rw [if_pos h]; exact a
theorem itF {c : Bool} {A B : Prop} (h : c = false) (b : B) : if c = true then A else B := by rw [h, if_neg Bool.false_ne_true]; exact b
theorem str_ne {x y : Str} (h : x ≠ y) : decide (V.str x = V.str y) = false := decide_eq_false fun e => h (V.str.inj e)
theorem str_eq {x y : Str} (h : x = y) : decide (V.str x = V.str y) = true := decide_eq_true (congrArg V.str h)
/-- a comprehension without tests -/
theorem lc_yes {A B : Hp → Prop} {σ : L2.St} {H : Hp} (h : A H) : tYes σ H (fun b H3 => if b = true then A H3 else B H3) := by
  show if true = true then A H else B H
  rw [if_pos rfl]
  exact h
end DL

set_option maxHeartbeats 4000000
namespace K2
open PySem L2 Evl DL
def top (i : Nat) : Stmt := PySem.Challenge.pw_leastkept_k02_whole_tokens_of_texts.main.body.getD i (.Pass ⟨0, 0, 0, 0⟩)
-- class KeptError : top 3
-- class InvalidText : top 4
abbrev s_InvalidText_init : Stmt := inClass (top 4) 0
abbrev s_run_at : Stmt := top 8
abbrev s_tokens_in : Stmt := top 9
abbrev s_check_text : Stmt := top 11
abbrev s_tokens : Stmt := top 13
abbrev s_law_pail : Stmt := top 15
abbrev s_law_deal : Stmt := top 16
abbrev s_law_any : Stmt := top 17
abbrev s_law_shuffled : Stmt := top 18
abbrev s_law_size : Stmt := top 19
abbrev s_law_drawn_right : Stmt := top 20
abbrev s_law_drawn_body : Stmt := top 21
abbrev s_law_program : Stmt := top 22
abbrev s_law_is : Stmt := top 23
abbrev s_law_atoms_text : Stmt := top 24
abbrev s_law_right_text : Stmt := top 25
abbrev s_law_point_text : Stmt := top 26
abbrev s_law_body_text : Stmt := top 27
abbrev s_law_text : Stmt := top 28
abbrev s_law_tokens : Stmt := top 29
abbrev s_law_told : Stmt := top 30
abbrev s_law_right : Stmt := top 31
abbrev s_law : Stmt := top 32
theorem scs_run_at : FnScope ["text", "at", "end"] ["text", "at"] (defScope s_run_at) := ⟨rfl, rfl, rfl, by decide +kernel, rfl, by decide +kernel, by decide +kernel⟩
theorem scs_tokens_in : FnScope ["text", "found", "at", "token"] ["text"] (defScope s_tokens_in) := ⟨rfl, rfl, rfl, by decide +kernel, rfl, by decide +kernel, by decide +kernel⟩
theorem scs_check_text : FnScope ["value", "found"] ["value"] (defScope s_check_text) := ⟨rfl, rfl, rfl, by decide +kernel, rfl, by decide +kernel, by decide +kernel⟩
theorem scs_tokens : FnScope ["text"] ["text"] (defScope s_tokens) := ⟨rfl, rfl, rfl, by decide +kernel, rfl, by decide +kernel, by decide +kernel⟩
theorem scs_law_pail : FnScope ["script", "turn", "mixed", "cell", "own"] ["script", "turn"] (defScope s_law_pail) := ⟨rfl, rfl, rfl, by decide +kernel, rfl, by decide +kernel, by decide +kernel⟩
theorem scs_law_deal : FnScope ["pail", "top", "figure", "mixed"] ["pail", "top"] (defScope s_law_deal) := ⟨rfl, rfl, rfl, by decide +kernel, rfl, by decide +kernel, by decide +kernel⟩
theorem scs_law_any : FnScope ["pail", "some"] ["pail", "some"] (defScope s_law_any) := ⟨rfl, rfl, rfl, by decide +kernel, rfl, by decide +kernel, by decide +kernel⟩
theorem scs_law_shuffled : FnScope ["pail", "some", "left", "found", "turn"] ["pail", "some"] (defScope s_law_shuffled) := ⟨rfl, rfl, rfl, by decide +kernel, rfl, by decide +kernel, by decide +kernel⟩
theorem scs_law_size : FnScope ["body", "total", "each"] ["body"] (defScope s_law_size) := ⟨rfl, rfl, rfl, by decide +kernel, rfl, by decide +kernel, by decide +kernel⟩
theorem scs_law_drawn_right : FnScope ["pail", "box", "scope", "deep", "sort", "some", "one", "two", "params", "k", "body", "called"] ["pail", "box", "scope", "deep"] (defScope s_law_drawn_right) := ⟨rfl, rfl, rfl, by decide +kernel, rfl, by decide +kernel, by decide +kernel⟩
theorem scs_law_drawn_body : FnScope ["pail", "box", "scope", "deep", "most", "found", "turn", "right", "name", "sort", "some", "arms", "called", "k"] ["pail", "box", "scope", "deep", "most"] (defScope s_law_drawn_body) := ⟨rfl, rfl, rfl, by decide +kernel, rfl, by decide +kernel, by decide +kernel⟩
theorem scs_law_program : FnScope ["pail", "box", "made", "name", "params", "step", "loop", "body"] ["pail"] (defScope s_law_program) := ⟨rfl, rfl, rfl, by decide +kernel, rfl, by decide +kernel, by decide +kernel⟩
theorem scs_law_is : FnScope ["had", "due"] ["had", "due"] (defScope s_law_is) := ⟨rfl, rfl, rfl, by decide +kernel, rfl, by decide +kernel, by decide +kernel⟩
theorem scs_law_atoms_text : FnScope ["atoms", "atom"] ["atoms"] (defScope s_law_atoms_text) := ⟨rfl, rfl, rfl, by decide +kernel, rfl, by decide +kernel, by decide +kernel⟩
theorem scs_law_right_text : FnScope ["right", "part"] ["right"] (defScope s_law_right_text) := ⟨rfl, rfl, rfl, by decide +kernel, rfl, by decide +kernel, by decide +kernel⟩
theorem scs_law_point_text : FnScope ["each"] ["each"] (defScope s_law_point_text) := ⟨rfl, rfl, rfl, by decide +kernel, rfl, by decide +kernel, by decide +kernel⟩
theorem scs_law_body_text : FnScope ["body", "each"] ["body"] (defScope s_law_body_text) := ⟨rfl, rfl, rfl, by decide +kernel, rfl, by decide +kernel, by decide +kernel⟩
theorem scs_law_text : FnScope ["program", "rows", "name", "params", "body"] ["program"] (defScope s_law_text) := ⟨rfl, rfl, rfl, by decide +kernel, rfl, by decide +kernel, by decide +kernel⟩
theorem scs_law_tokens : FnScope ["text", "found", "at", "size", "sign"] ["text"] (defScope s_law_tokens) := ⟨rfl, rfl, rfl, by decide +kernel, rfl, by decide +kernel, by decide +kernel⟩
theorem scs_law_told : FnScope ["value", "e"] ["value"] (defScope s_law_told) := ⟨rfl, rfl, rfl, by decide +kernel, rfl, by decide +kernel, by decide +kernel⟩
theorem scs_law_right : FnScope ["pail", "text", "lap", "at", "size", "part", "sign", "spot", "value", "own", "due", "had"] ["pail"] (defScope s_law_right) := ⟨rfl, rfl, rfl, by decide +kernel, rfl, by decide +kernel, by decide +kernel⟩
theorem scs_law : FnScope ["script", "turn"] ["script"] (defScope s_law) := ⟨rfl, rfl, rfl, by decide +kernel, rfl, by decide +kernel, by decide +kernel⟩
structure Txt (K : PySem.W.Frag) (mg : Str → Option Value) : Prop where
  c_LETTERS : ConstAt mg "LETTERS" (.str "abcdefghijklmnopqrstuvwxyz")
  c_FIGURES : ConstAt mg "FIGURES" (.str "0123456789")
  c_PARTING : TupAt K mg "PARTING" [.str " ", .str "\n"]
  c_SIGNS : ConstAt mg "SIGNS" (.str "{}(),;=<+-*")
  d_run_at : DefAt K mg "run_at" s_run_at
  d_tokens_in : DefAt K mg "tokens_in" s_tokens_in
  d_check_text : DefAt K mg "check_text" s_check_text
  d_tokens : DefAt K mg "tokens" s_tokens
  d_law_pail : DefAt K mg "_law_pail" s_law_pail
  d_law_deal : DefAt K mg "_law_deal" s_law_deal
  d_law_any : DefAt K mg "_law_any" s_law_any
  d_law_shuffled : DefAt K mg "_law_shuffled" s_law_shuffled
  d_law_size : DefAt K mg "_law_size" s_law_size
  d_law_drawn_right : DefAt K mg "_law_drawn_right" s_law_drawn_right
  d_law_drawn_body : DefAt K mg "_law_drawn_body" s_law_drawn_body
  d_law_program : DefAt K mg "_law_program" s_law_program
  d_law_is : DefAt K mg "_law_is" s_law_is
  d_law_atoms_text : DefAt K mg "_law_atoms_text" s_law_atoms_text
  d_law_right_text : DefAt K mg "_law_right_text" s_law_right_text
  d_law_point_text : DefAt K mg "_law_point_text" s_law_point_text
  d_law_body_text : DefAt K mg "_law_body_text" s_law_body_text
  d_law_text : DefAt K mg "_law_text" s_law_text
  d_law_tokens : DefAt K mg "_law_tokens" s_law_tokens
  d_law_told : DefAt K mg "_law_told" s_law_told
  d_law_right : DefAt K mg "_law_right" s_law_right
  d_law : DefAt K mg "law" s_law
  b_abs : mg "abs" = none
  b_all : mg "all" = none
  b_divmod : mg "divmod" = none
  b_int : mg "int" = none
  b_isinstance : mg "isinstance" = none
  b_len : mg "len" = none
  b_list : mg "list" = none
  b_max : mg "max" = none
  b_min : mg "min" = none
  b_range : mg "range" = none
  b_repr : mg "repr" = none
  b_str : mg "str" = none
  b_sum : mg "sum" = none
  b_super : mg "super" = none
  b_tuple : mg "tuple" = none
end K2

set_option maxHeartbeats 4000000
namespace DL
open PySem L2 Evl PySem.Spec PyProof.Rows
/-! ### what the head looks at -/
/-- what is told of the class's object -/
def oexB (K : PySem.W.Frag) (C : Addr) : Bool := match K.lookup C with
  | some ⟨.type "type", _, .cls cd, sl⟩ => (match cd.mro, sl.toList with
    | .ref C1 :: bm, [_, _, _, _, some (.builtin n), _] => (C1 == C) && ((n == "ValueError.__new__") && ((!cd.hasDel) && (cd.hasDict && HandSPX.refsVE bm)))
    | _, _ => false)
  | _ => false
/-- its __init__ as an object: all but addresses -/
abbrev IniV : Type := Option (Str × Str × Arguments × FuncBody × Scope × Addr × List Str × Addr)
def iniObs (K : PySem.W.Frag) (x : Str) : IniV := match K.lookup (He.ma K (He.ga K x) "__init__") with
  | some ⟨_, _, .func fd, _⟩ => some (fd.name, fd.qualname, fd.params, fd.body, fd.scope, fd.globals, fd.closure.map (·.1), fd.builtins)
  | _ => none
def codeB (file : Str) (K : PySem.W.Frag) (C fI : Addr) : Bool := match K.lookup fI with
  | some ⟨_, _, .func fd, _⟩ => (match fd.code, fd.closure, fd.defaults with
    | .ref cda, [(_, cc)], .none => PySem.W.codeIn K (.ref cda) fd.qualname && ((match K.lookup cda with
        | some ⟨_, _, .fields vs, _⟩ => (match (vs[2]? : Option Value) with
          | some (.str f _) => f == file
          | _ => false)
        | _ => false) && (match K.lookup cc with
        | some ⟨_, _, .cell (some (.ref D)), _⟩ => D == C
        | _ => false))
    | _, _, _ => false)
  | _ => false
def errB (file : Str) (fld : Str) (K : PySem.W.Frag) (x : Str) : Bool :=
  let C := He.ga K x
  let fI := He.ma K C "__init__"
  oexB K C && (He.eqO (PySem.W.findIn K (.ref C) "__setattr__") (some (some (.builtin "object.__setattr__"))) && (decide (PySem.W.subIn K (.ref C) (.type "BaseException") = some true) && (decide (PySem.W.typeIn K (.ref C) = some (.type "type")) && (PySem.W.keepIn K (.ref C) &&
    (He.eqO (PySem.W.findIn K (.ref C) "__init__") (some (some (.ref fI))) && (decide (PySem.W.typeIn K (.ref fI) = some (.type "function")) && (He.eqO (PySem.W.findIn K (.ref C) fld) (some none) && (decide (PySem.W.mroIn K C (.ref C) = some true) &&
    (He.eqO (PySem.W.ks_superIn K C C "__init__") (some (some (.builtin "ValueError.__init__"))) && (decide (PySem.W.subIn K (.ref C) (.type "ValueError") = some true) && (xfB K C && (decide (PySem.W.exmOne K (.ref C) (.ref C) = some true) &&
    ((PySem.W.clsIn K C).isSome && (He.eqO (PySem.W.nsIn K PySem.cStatics "thirdparty.any") (some none) && codeB file K C fI))))))))))))))
abbrev AlX : Type := He.AlD × Bool × IniV
def frX (n : Nat) (g : Addr → Option Obj) : PySem.W.Frag := He.frG g (PySem.cStatics :: He.asD g n)
def obsX (n : Nat) (fa : List He.Fa) (fn : List He.DefD) (chk : PySem.W.Frag → Bool) (x : Str) (g : Addr → Option Obj) : AlX := (He.obsD fa fn (frX n g), chk (frX n g), iniObs (frX n g) x)
def SaysX (fa : List He.Fa) (fn : List He.DefD) (chk : PySem.W.Frag → Bool) (x : Str) (v : IniV) (K : PySem.W.Frag) : Prop := He.SaysD fa fn K ∧ chk K = true ∧ iniObs K x = v
def hookX (n : Nat) (fa : List He.Fa) (fn : List He.DefD) (chk : PySem.W.Frag → Bool) (x : Str) (v : IniV) : PySem.W.Hook where
  α := AlX
  obs := fun s => obsX n fa fn chk x s.heap.get?
  val := fun _ => (He.valD fn, true, v)
  says := fun _ h => ∃ K : PySem.W.Frag, K.In h ∧ SaysX fa fn chk x v K
  of := fun _ _ e => ⟨_, He.frG_in, congrArg (fun z : AlX => z.1) e, congrArg (fun z : AlX => z.2.1) e, congrArg (fun z : AlX => z.2.2) e⟩
  keeps := fun _ _ _ ⟨K, hK, c⟩ k => ⟨K, PySem.W.Frag.In.keeps hK k, c⟩
theorem obsX_eq {n : Nat} {fa : List He.Fa} {fn : List He.DefD} {chk : PySem.W.Frag → Bool} {x : Str} {v : IniV} {g : Addr → Option Obj} {s : Shared} (h : ∀ a, g a = s.heap.get? a) : obsX n fa fn chk x g = (hookX n fa fn chk x v).obs s := by
  have e : g = s.heap.get? := funext h
  subst e
  rfl
end DL

set_option maxHeartbeats 0
namespace K2
open PySem L2 Evl DL PySem.Spec PyProof.Rows
def fn : List He.DefD := [
  ⟨("run_at", none), "run_at", "run_at", defArgs s_run_at, defBody s_run_at, defScope s_run_at, [], []⟩,
  ⟨("tokens_in", none), "tokens_in", "tokens_in", defArgs s_tokens_in, defBody s_tokens_in, defScope s_tokens_in, [], []⟩,
  ⟨("check_text", none), "check_text", "check_text", defArgs s_check_text, defBody s_check_text, defScope s_check_text, [], []⟩,
  ⟨("tokens", none), "tokens", "tokens", defArgs s_tokens, defBody s_tokens, defScope s_tokens, [], []⟩,
  ⟨("_law_pail", none), "_law_pail", "_law_pail", defArgs s_law_pail, defBody s_law_pail, defScope s_law_pail, [], []⟩,
  ⟨("_law_deal", none), "_law_deal", "_law_deal", defArgs s_law_deal, defBody s_law_deal, defScope s_law_deal, [], []⟩,
  ⟨("_law_any", none), "_law_any", "_law_any", defArgs s_law_any, defBody s_law_any, defScope s_law_any, [], []⟩,
  ⟨("_law_shuffled", none), "_law_shuffled", "_law_shuffled", defArgs s_law_shuffled, defBody s_law_shuffled, defScope s_law_shuffled, [], []⟩,
  ⟨("_law_size", none), "_law_size", "_law_size", defArgs s_law_size, defBody s_law_size, defScope s_law_size, [], []⟩,
  ⟨("_law_drawn_right", none), "_law_drawn_right", "_law_drawn_right", defArgs s_law_drawn_right, defBody s_law_drawn_right, defScope s_law_drawn_right, [], []⟩,
  ⟨("_law_drawn_body", none), "_law_drawn_body", "_law_drawn_body", defArgs s_law_drawn_body, defBody s_law_drawn_body, defScope s_law_drawn_body, [], []⟩,
  ⟨("_law_program", none), "_law_program", "_law_program", defArgs s_law_program, defBody s_law_program, defScope s_law_program, [], []⟩,
  ⟨("_law_is", none), "_law_is", "_law_is", defArgs s_law_is, defBody s_law_is, defScope s_law_is, [], []⟩,
  ⟨("_law_atoms_text", none), "_law_atoms_text", "_law_atoms_text", defArgs s_law_atoms_text, defBody s_law_atoms_text, defScope s_law_atoms_text, [], []⟩,
  ⟨("_law_right_text", none), "_law_right_text", "_law_right_text", defArgs s_law_right_text, defBody s_law_right_text, defScope s_law_right_text, [], []⟩,
  ⟨("_law_point_text", none), "_law_point_text", "_law_point_text", defArgs s_law_point_text, defBody s_law_point_text, defScope s_law_point_text, [], []⟩,
  ⟨("_law_body_text", none), "_law_body_text", "_law_body_text", defArgs s_law_body_text, defBody s_law_body_text, defScope s_law_body_text, [], []⟩,
  ⟨("_law_text", none), "_law_text", "_law_text", defArgs s_law_text, defBody s_law_text, defScope s_law_text, [], []⟩,
  ⟨("_law_tokens", none), "_law_tokens", "_law_tokens", defArgs s_law_tokens, defBody s_law_tokens, defScope s_law_tokens, [], []⟩,
  ⟨("_law_told", none), "_law_told", "_law_told", defArgs s_law_told, defBody s_law_told, defScope s_law_told, [], []⟩,
  ⟨("_law_right", none), "_law_right", "_law_right", defArgs s_law_right, defBody s_law_right, defScope s_law_right, [], []⟩,
  ⟨("law", none), "law", "law", defArgs s_law, defBody s_law, defScope s_law, [], []⟩]
def fa : List He.Fa := [
  .glo "run_at",
  .glo "tokens_in",
  .glo "check_text",
  .glo "tokens",
  .glo "_law_pail",
  .glo "_law_deal",
  .glo "_law_any",
  .glo "_law_shuffled",
  .glo "_law_size",
  .glo "_law_drawn_right",
  .glo "_law_drawn_body",
  .glo "_law_program",
  .glo "_law_is",
  .glo "_law_atoms_text",
  .glo "_law_right_text",
  .glo "_law_point_text",
  .glo "_law_body_text",
  .glo "_law_text",
  .glo "_law_tokens",
  .glo "_law_told",
  .glo "_law_right",
  .glo "law",
  .free "abs",
  .free "all",
  .free "divmod",
  .free "int",
  .free "isinstance",
  .free "len",
  .free "list",
  .free "max",
  .free "min",
  .free "range",
  .free "repr",
  .free "str",
  .free "sum",
  .free "super",
  .free "tuple",
  .str "LETTERS" "abcdefghijklmnopqrstuvwxyz",
  .str "FIGURES" "0123456789",
  .str "SIGNS" "{}(),;=<+-*",
  .glo "PARTING",
  .glo "InvalidText"]
def chk (K : PySem.W.Frag) : Bool := He.tupB K "PARTING" [.str " ", .str "\n"] && errB PySem.Challenge.pw_leastkept_k02_whole_tokens_of_texts.main.file "given" K "InvalidText"
def iniV : IniV := some ("__init__", "InvalidText.__init__", defArgs s_InvalidText_init, FuncBody.stmts (defBody s_InvalidText_init), defScope s_InvalidText_init, mainGlobals, [("__class__" : Str)], builtinsNs)
abbrev R : PySem.W.OpenRow := PySem.W.OpenLaw.row PySem.Challenge.rw_leastkept_k02_whole_tokens_of_texts
abbrev hk : PySem.W.Hook := hookX 5 fa fn chk "InvalidText" iniV
def ob (s : PySem.W.SharedT) : AlX := obsX 5 fa fn chk "InvalidText" (HandSHeadRun.getT s)
theorem ob_eq (s : PySem.W.SharedT) : ob s = hk.obs s.abs := obsX_eq (HandSHeadRun.getT_eq s)
def loose : List Str := ["LETTERS", "FIGURES", "KeptError", "InvalidText", "PARTING", "SIGNS", "run_at", "tokens_in", "check_text", "tokens", "_law_pail", "_law_deal", "_law_any", "_law_shuffled", "_law_size", "_law_drawn_right", "_law_drawn_body", "_law_program", "_law_is", "_law_atoms_text", "_law_right_text", "_law_point_text", "_law_body_text", "_law_text", "_law_tokens", "_law_told", "_law_right"]
theorem run (w : World) : HandSHeadRun.RunEq R (PySem.W.view R.prog [32]) hk ob 4000 loose w := by
  intro os
  kernel_rfl
end K2

set_option maxHeartbeats 0
namespace K2
open PySem PySem.W PySem.Calls PyProof.Rows
abbrev q32 : Program := view R.prog [32]
abbrev d32 : DefRec := HandSHeadRun.topDef R.prog 32
theorem h_open : opening R.prog = plainProg R.prog.main.scope.names := by kernel_rfl
theorem h_fence : ∀ s, fenceModules? R.prog s = some s := fun s => by kernel_rfl
theorem h_def : defOf q32 R.name = some (d32, []) := by kernel_rfl
theorem h_the : R.prog.theDef R.name = some (d32.params, d32.body, d32.scope) := by kernel_rfl
theorem h_kw : kwWritten? d32.params.kwonlyargs d32.params.kw_defaults = some [] := by kernel_rfl
theorem h_ok : (chainsOk q32 && opensWell R.prog && (frees R.toRowW && R.within.isEmpty)) = true := by decide +kernel
theorem h_bare : R.prog.bare := ⟨rfl, rfl, rfl, rfl, rfl, by decide +kernel⟩
theorem h_said : R.wellSaid = true := by decide +kernel
theorem h_wit : R.toRowW.promised := by w_witness2
theorem h_name : d32.name = ("law" : PySem.Str) := by kernel_rfl
theorem h_dfl : d32.params.defaults = [] := by kernel_rfl
theorem h_room : L2.Room 27 callerA := ⟨rfl, by decide, by decide⟩
theorem holds_of (c : WalkO q32 loose (XL q32 []) hk.says R.toRowW d32 [] fun f vs => PySem.call f vs) : PySem.Challenge.rw_leastkept_k02_whole_tokens_of_texts.Holds := by
  w_on; o_law
  exact HandSHeadRun.head_any (r := R) (q := q32) (H := hk) (ob := ob) (M := 4000) (loose := loose) (d := d32) (kwd := []) ob_eq h_open h_fence run h_def h_the h_kw (by rfl) h_said h_ok h_bare h_wit c
end K2

set_option maxHeartbeats 4000000
namespace PG
open PySem L2 Evl DL TL
/-! ### programs as data -/
inductive At where
  | num (n : Int)
  | nm (x : Str)
  deriving DecidableEq
def At.enc : At → PyData
  | .num n => .int n
  | .nm x => .str x
mutual
/-- a right side: (w, a, b); (w, a); a call; a fun -/
inductive Rt where
  | two (w : Str) (a b : At)
  | one (w : Str) (a : At)
  | call (f : At) (xs : List At)
  | fn (ps : List Str) (b : Bd)
/-- a body -/
inductive Bd where
  | give (a : At)
  | tail (f : At) (xs : List At)
  | cond (a : At) (b c : Bd)
  | lets (x : Str) (r : Rt) (rest : Bd)
  | says (a : At) (rest : Bd)
end
mutual
def Rt.enc : Rt → PyData
  | .two w a b => .tuple [.str w, a.enc, b.enc]
  | .one w a => .tuple [.str w, a.enc]
  | .call f xs => .tuple [.str "call", f.enc, .tuple (xs.map At.enc)]
  | .fn ps b => .tuple [.str "fun", .tuple (ps.map PyData.str), .tuple b.encs]
def Bd.encs : Bd → List PyData
  | .give a => [.tuple [.str "give", a.enc]]
  | .tail f xs => [.tuple [.str "tail", f.enc, .tuple (xs.map At.enc)]]
  | .cond a b c => [.tuple [.str "if", a.enc, .tuple b.encs, .tuple c.encs]]
  | .lets x r rest => .tuple [.str "let", .str x, r.enc] :: rest.encs
  | .says a rest => .tuple [.str "say", a.enc] :: rest.encs
end
mutual
/-- how many points -/
def Rt.size : Rt → Nat
  | .fn _ b => b.size
  | _ => 0
def Bd.size : Bd → Nat
  | .give _ => 1
  | .tail _ _ => 1
  | .cond _ b c => 1 + b.size + c.size
  | .lets _ r rest => 1 + r.size + rest.size
  | .says _ rest => 1 + rest.size
end
theorem Bd.size_pos : ∀ b : Bd, 0 < b.size
  | .give _ => by simp [Bd.size]
  | .tail _ _ => by simp [Bd.size]
  | .cond _ b c => by simp only [Bd.size]; omega
  | .lets _ r rest => by simp only [Bd.size]; omega
  | .says _ rest => by simp only [Bd.size]; omega
theorem Bd.encs_len : ∀ b : Bd, b.encs.length ≤ b.size ∧ 0 < b.encs.length
  | .give _ => by simp [Bd.size, Bd.encs]
  | .tail _ _ => by simp [Bd.size, Bd.encs]
  | .cond _ b c => by simp only [Bd.size, Bd.encs, List.length_singleton]; omega
  | .lets _ r rest => by
    have h := Bd.encs_len rest
    simp only [Bd.size, Bd.encs, List.length_cons]; omega
  | .says _ rest => by
    have h := Bd.encs_len rest
    simp only [Bd.size, Bd.encs, List.length_cons]; omega
mutual
/-- how deep bodies stand -/
def Rt.deep : Rt → Nat
  | .fn _ b => b.deep
  | _ => 0
def Bd.deep : Bd → Nat
  | .give _ => 1
  | .tail _ _ => 1
  | .cond _ b c => 1 + max b.deep c.deep
  | .lets _ r rest => max (1 + r.deep) rest.deep
  | .says _ rest => rest.deep
end
theorem Bd.deep_pos : ∀ b : Bd, 0 < b.deep
  | .give _ => by simp [Bd.deep]
  | .tail _ _ => by simp [Bd.deep]
  | .cond _ b c => by simp only [Bd.deep]; omega
  | .lets _ r rest => by simp only [Bd.deep]; omega
  | .says _ rest => by simp only [Bd.deep]; exact Bd.deep_pos rest
/-! ### drawn names -/
def nmK (c : Str) (k : Nat) : Str := c ++ Str.ofString (toString (k : Int))
theorem tl_nmK (c : Str) (k : Nat) : tl (nmK c k) = tl c ++ numL k := by
  unfold nmK
  rw [tl_append, tl_num]
def nN (k : Nat) : Str := nmK "n" k
def nP (k : Nat) : Str := nmK "p" k
theorem tl_nN (k : Nat) : tl (nN k) = 110 :: numL k := tl_nmK "n" k
theorem tl_nP (k : Nat) : tl (nP k) = 112 :: numL k := tl_nmK "p" k
theorem nN_inj {a b : Nat} (h : nN a = nN b) : a = b := by
  have e := congrArg tl h
  rw [tl_nN, tl_nN] at e
  exact numL_inj (List.cons.inj e).2
theorem nP_inj {a b : Nat} (h : nP a = nP b) : a = b := by
  have e := congrArg tl h
  rw [tl_nP, tl_nP] at e
  exact numL_inj (List.cons.inj e).2
theorem nN_ne_nP {a b : Nat} : nN a ≠ nP b := fun h => by
  have e := congrArg tl h
  rw [tl_nN, tl_nP] at e
  exact absurd (List.cons.inj e).1 (by decide)
def nPs (k n : Nat) : List Str := (List.range n).map fun i => nP (k + 1 + i)
/-! ### what is drawn -/
def okA (sc : List Str) : At → Prop
  | .num n => 0 ≤ n ∧ n ≤ 7
  | .nm x => x ∈ sc
def okF (sc : List Str) : At → Prop
  | .num _ => False
  | .nm x => x = "g" ∨ x = "h" ∨ x ∈ sc
def wOps : List Str := ["+", "-", "*", "<", "="]
def wSides : List Str := ["left", "right", "paired"]
def wTwo : List Str := wOps ++ (["pair"] : List Str)
def wOne : List Str := wSides ++ (["atom"] : List Str)
mutual
/-- a drawn right side: names in scope, the box ahead, funs so deep; the box behind -/
def okR (sc : List Str) (bx dp : Nat) : Rt → Nat → Prop
  | .two w a b, bx' => bx' = bx ∧ w ∈ wTwo ∧ okA sc a ∧ okA sc b
  | .one w a, bx' => bx' = bx ∧ w ∈ wOne ∧ okA sc a
  | .call f xs, bx' => bx' = bx ∧ okF sc f ∧ xs.length ≤ 2 ∧ ∀ a ∈ xs, okA sc a
  | .fn ps b, bx' => ∃ n dq, n ≤ 2 ∧ dp = dq + 1 ∧ ps = nPs bx n ∧ okB (sc ++ ps) (bx + n) dq 1 4 b bx'
/-- a drawn body: most ifs in one another, so many statements at most -/
def okB (sc : List Str) (bx dp mo st : Nat) : Bd → Nat → Prop
  | .give a, bx' => bx' = bx ∧ okA sc a
  | .tail f xs, bx' => bx' = bx ∧ okF sc f ∧ ∃ a, xs = [a] ∧ okA sc a
  | .cond a b c, bx' => okA sc a ∧ ∃ mq b1, mo = mq + 1 ∧ okB sc bx dp mq 4 b b1 ∧ okB sc b1 dp mq 4 c bx'
  | .lets x r rest, bx' => ∃ sq b1, st = sq + 1 ∧ okR sc bx dp r b1 ∧ x = nN (b1 + 1) ∧ okB (sc ++ [x]) (b1 + 1) dp mo sq rest bx'
  | .says a rest, bx' => ∃ sq, st = sq + 1 ∧ okA sc a ∧ okB sc bx dp mo sq rest bx'
end
section
variable {sc : List Str} {bx dp mo st : Nat}
theorem okR_two {w : Str} {a b : At} (h : w ∈ wTwo) (ha : okA sc a) (hb : okA sc b) : okR sc bx dp (.two w a b) bx := by unfold okR; exact ⟨rfl, h, ha, hb⟩
theorem okR_one {w : Str} {a : At} (h : w ∈ wOne) (ha : okA sc a) : okR sc bx dp (.one w a) bx := by unfold okR; exact ⟨rfl, h, ha⟩
theorem okR_call {f : At} {xs : List At} (hf : okF sc f) (hl : xs.length ≤ 2) (hx : ∀ a ∈ xs, okA sc a) : okR sc bx dp (.call f xs) bx := by unfold okR; exact ⟨rfl, hf, hl, hx⟩
theorem okR_fn {n bx' : Nat} {b : Bd} (hn : n ≤ 2) (h : okB (sc ++ nPs bx n) (bx + n) dp 1 4 b bx') : okR sc bx (dp + 1) (.fn (nPs bx n) b) bx' := by unfold okR; exact ⟨n, dp, hn, rfl, rfl, h⟩
theorem okB_give {a : At} (ha : okA sc a) : okB sc bx dp mo st (.give a) bx := by unfold okB; exact ⟨rfl, ha⟩
theorem okB_tail {f a : At} (hf : okF sc f) (ha : okA sc a) : okB sc bx dp mo st (.tail f [a]) bx := by unfold okB; exact ⟨rfl, hf, a, rfl, ha⟩
theorem okB_cond {a : At} {b c : Bd} {b1 bx' : Nat} (ha : okA sc a) (hb : okB sc bx dp mo 4 b b1) (hc : okB sc b1 dp mo 4 c bx') : okB sc bx dp (mo + 1) st (.cond a b c) bx' := by unfold okB; exact ⟨ha, mo, b1, rfl, hb, hc⟩
theorem okB_lets {r : Rt} {rest : Bd} {b1 bx' : Nat} (hr : okR sc bx dp r b1) (h : okB (sc ++ [nN (b1 + 1)]) (b1 + 1) dp mo st rest bx') : okB sc bx dp mo (st + 1) (.lets (nN (b1 + 1)) r rest) bx' := by unfold okB; exact ⟨st, b1, rfl, hr, rfl, h⟩
theorem okB_says {a : At} {rest : Bd} {bx' : Nat} (ha : okA sc a) (h : okB sc bx dp mo st rest bx') : okB sc bx dp mo (st + 1) (.says a rest) bx' := by unfold okB; exact ⟨st, rfl, ha, h⟩
end
mutual
theorem okR_le {sc : List Str} {bx dp : Nat} : ∀ {r : Rt} {bx' : Nat}, okR sc bx dp r bx' → bx ≤ bx' ∧ bx' ≤ bx + 3 * r.size + 2
  | .two _ _ _, _, h => by simp only [okR] at h; have := h.1; omega
  | .one _ _, _, h => by simp only [okR] at h; have := h.1; omega
  | .call _ _, _, h => by simp only [okR] at h; have := h.1; omega
  | .fn ps b, _, h => by
    simp only [okR] at h
    obtain ⟨n, dq, hn, _, _, h⟩ := h
    have := okB_le h
    simp only [Rt.size]
    omega
theorem okB_le {sc : List Str} {bx dp mo st : Nat} : ∀ {b : Bd} {bx' : Nat}, okB sc bx dp mo st b bx' → bx ≤ bx' ∧ bx' ≤ bx + 3 * b.size
  | .give _, _, h => by simp only [okB] at h; simp only [Bd.size]; have := h.1; omega
  | .tail _ _, _, h => by simp only [okB] at h; simp only [Bd.size]; have := h.1; omega
  | .cond _ b c, _, h => by
    simp only [okB] at h
    obtain ⟨_, mq, b1, _, h1, h2⟩ := h
    have := okB_le h1
    have := okB_le h2
    simp only [Bd.size]
    omega
  | .lets _ r rest, _, h => by
    simp only [okB] at h
    obtain ⟨sq, b1, _, h1, _, h2⟩ := h
    have := okR_le h1
    have := okB_le h2
    simp only [Bd.size]
    omega
  | .says _ rest, _, h => by
    simp only [okB] at h
    obtain ⟨sq, _, _, h2⟩ := h
    have := okB_le h2
    simp only [Bd.size]
    omega
end
/-- the greatest sizes -/
def mxB : Nat → Nat → Nat
  | 0, 0 => 5
  | 0, m + 1 => 5 + 2 * mxB 0 m
  | d + 1, 0 => 5 + 4 * mxB d 1
  | d + 1, m + 1 => 5 + 4 * mxB d 1 + 2 * mxB (d + 1) m
def mxR : Nat → Nat
  | 0 => 0
  | d + 1 => mxB d 1
theorem mxB_eq (d m : Nat) : mxB d m = 5 + 4 * mxR d + (match m with | 0 => 0 | m + 1 => 2 * mxB d m) := by
  cases d <;> cases m <;> simp [mxB, mxR]
mutual
theorem okR_size {sc : List Str} {bx dp : Nat} : ∀ {r : Rt} {bx' : Nat}, okR sc bx dp r bx' → r.size ≤ mxR dp
  | .two _ _ _, _, h => by simp [Rt.size]
  | .one _ _, _, h => by simp [Rt.size]
  | .call _ _, _, h => by simp [Rt.size]
  | .fn ps b, _, h => by
    simp only [okR] at h
    obtain ⟨n, dq, hn, rfl, _, h⟩ := h
    have h2 := okB_size h
    have e := mxB_eq dq 1
    simp only [Rt.size, mxR]
    omega
theorem okB_size {sc : List Str} {bx dp mo st : Nat} : ∀ {b : Bd} {bx' : Nat}, okB sc bx dp mo st b bx' → b.size + 4 * (1 + mxR dp) ≤ mxB dp mo + st * (1 + mxR dp)
  | .give _, _, h => by
    have e := mxB_eq dp mo
    simp only [Bd.size]
    have : 0 ≤ st * (1 + mxR dp) := Nat.zero_le _
    omega
  | .tail _ _, _, h => by
    have e := mxB_eq dp mo
    simp only [Bd.size]
    have : 0 ≤ st * (1 + mxR dp) := Nat.zero_le _
    omega
  | .cond _ b c, _, h => by
    simp only [okB] at h
    obtain ⟨_, mq, b1, rfl, h1, h2⟩ := h
    have h1 := okB_size h1
    have h2 := okB_size h2
    have e := mxB_eq dp (mq + 1)
    simp only at e
    simp only [Bd.size]
    have : 0 ≤ st * (1 + mxR dp) := Nat.zero_le _
    omega
  | .lets _ r rest, _, h => by
    simp only [okB] at h
    obtain ⟨sq, b1, rfl, h1, _, h2⟩ := h
    have h1 := okR_size h1
    have h2 := okB_size h2
    simp only [Bd.size]
    have e : (sq + 1) * (1 + mxR dp) = sq * (1 + mxR dp) + (1 + mxR dp) := Nat.succ_mul _ _
    omega
  | .says _ rest, _, h => by
    simp only [okB] at h
    obtain ⟨sq, rfl, _, h2⟩ := h
    have h2 := okB_size h2
    simp only [Bd.size]
    have e : (sq + 1) * (1 + mxR dp) = sq * (1 + mxR dp) + (1 + mxR dp) := Nat.succ_mul _ _
    omega
end
mutual
theorem okR_deep {sc : List Str} {bx dp : Nat} : ∀ {r : Rt} {bx' : Nat}, okR sc bx dp r bx' → r.deep ≤ 2 * dp
  | .two _ _ _, _, h => by simp [Rt.deep]
  | .one _ _, _, h => by simp [Rt.deep]
  | .call _ _, _, h => by simp [Rt.deep]
  | .fn ps b, _, h => by
    simp only [okR] at h
    obtain ⟨n, dq, hn, rfl, _, h⟩ := h
    have h2 := okB_deep h
    simp only [Rt.deep]
    omega
theorem okB_deep {sc : List Str} {bx dp mo st : Nat} : ∀ {b : Bd} {bx' : Nat}, okB sc bx dp mo st b bx' → b.deep ≤ 1 + mo + 2 * dp
  | .give _, _, h => by simp only [Bd.deep]; omega
  | .tail _ _, _, h => by simp only [Bd.deep]; omega
  | .cond _ b c, _, h => by
    simp only [okB] at h
    obtain ⟨_, mq, b1, rfl, h1, h2⟩ := h
    have h1 := okB_deep h1
    have h2 := okB_deep h2
    simp only [Bd.deep]
    omega
  | .lets _ r rest, _, h => by
    simp only [okB] at h
    obtain ⟨sq, b1, rfl, h1, _, h2⟩ := h
    have h1 := okR_deep h1
    have h2 := okB_deep h2
    simp only [Bd.deep]
    omega
  | .says _ rest, _, h => by
    simp only [okB] at h
    obtain ⟨sq, rfl, _, h2⟩ := h
    have h2 := okB_deep h2
    simp only [Bd.deep]
    omega
end
end PG

set_option maxHeartbeats 4000000
namespace K2
open PySem L2 Evl DL
section
variable {P : Program} {w : World} {K : PySem.W.Frag} {mg : Str → Option Value} {base : Heap} {CX : CXT}
/-! ### draws -/
def Pail (H : Hp) (p : Addr) : Prop := ∃ a b c : Int, H p = some (.lst [.int a, .int b, .int c])
def spDeal : Sp := fun vs H Q _ => ∃ p top, vs = [.ref p, .int top] ∧ Pail H p ∧ 0 < top ∧ top < 1073741824 ∧
  ∀ k H', 0 ≤ k → k < top → Kp [p] H H' → Pail H' p → Q (.int k) H'
theorem bd_deal : BindP "_law_deal" s_law_deal ["pail", "top"] := fun _ _ _ _ _ _ us hl => match us, hl with | [_, _], _ => rfl
theorem ok_deal (T : Txt K mg) : DefOk P w K mg base CX false 1 "_law_deal" s_law_deal ["pail", "top"] spDeal := by
  refine T.d_law_deal.ok scs_law_deal (fun vs H Q E h => ?_) (fun f cdv A outer s H vs Q E hr h => ?_)
  · obtain ⟨p, top, rfl, _⟩ := h
    rfl
  · obtain ⟨p, top, rfl, ⟨a, b, c, hp⟩, h0, h1, k⟩ := h
    have nd := scs_law_deal.nd
    refine ⟨_, pss_cons (ps_if (pt_cmpR op_gt (pe_ix ix_list (pv 0) pe_int (fun _ _ => rfl)) pe_int (nomark _))
        (pss_cons (ps_asg (pe_callB call_divmodW (by rfl) T.b_divmod (by decide +kernel) (pa_cons (pe_ix ix_list (pv 0) pe_int (fun _ _ => rfl)) (pa_cons (pv 1) pa_nil))) (pg_tup (by rfl) (pgs_cons (pg_sub (pv 0) pe_int set_list) (pgs_cons (pg_name (i := 2) nd rfl (.inl rfl)) pgs_nil))))
        (pss_one (ps_ret (pv 2)))) pss_nil)
      (pss_cons (ps_asg (pe_op op_add (pe_ix ix_list (pv 0) pe_int (fun _ _ => rfl)) pe_int) (pg_sub (pv 0) pe_int set_list))
      (pss_cons (ps_set (i := 3) nd rfl (.inl rfl) (pe_op op_mod (pe_callTy call_int1 (by rfl) T.b_int (by decide +kernel) (pa_cons (pe_op op_add (pe_op op_mul (pe_ix ix_list (pv 0) pe_int (fun _ _ => rfl)) pe_int) (pe_op op_mul pe_int (pe_ix ix_list (pv 0) pe_int (fun _ _ => rfl)))) pa_nil)) pe_int))
      (pss_cons (ps_asg (pe_op op_mod (pe_callTy call_int1 (by rfl) T.b_int (by decide +kernel) (pa_cons (pe_op op_add (pe_op op_mul (pv 3) (pe_op op_add (pe_op op_mod (pe_callTy call_int1 (by rfl) T.b_int (by decide +kernel) (pa_cons (pv 3) pa_nil)) pe_int) pe_int)) (pe_op op_mul pe_int (pe_ix ix_list (pv 0) pe_int (fun _ _ => rfl)))) pa_nil)) pe_int) (pg_sub (pv 0) pe_int set_list))
      (pss_one (ps_ret (pe_op op_mod (pe_callTy call_int1 (by rfl) T.b_int (by decide +kernel) (pa_cons (pe_op op_fdiv (pe_ix ix_list (pv 0) pe_int (fun _ _ => rfl)) pe_int) pa_nil)) (pv 1))))))), ?_⟩
    have at0 : ∀ {x y z : V}, atI [x, y, z] 0 = some x := rfl
    have at1 : ∀ {x y z : V}, atI [x, y, z] 1 = some y := rfl
    have at2 : ∀ {x y z : V}, atI [x, y, z] 2 = some z := rfl
    refine ⟨_, rfl, p, _, 0, _, rfl, rfl, sq_of hp, at0, _, _, rfl, rfl, _, rfl, ?_⟩
    refine ite2 (fun hc => ?_) (fun hc => ?_)
    · -- from the figures
      refine ⟨_, rfl, p, _, 0, _, rfl, rfl, sq_of hp, at0, _, rfl, a, top, rfl, ⟨h0, pylong_small h0 h1⟩, fun q hq => ?_⟩
      have npq : p ≠ q := ne_of_none hp hq
      refine ⟨q, _, rfl, st_of upd_same, rfl, _, _, rfl, ?_⟩
      refine ⟨_, rfl, p, _, 0, 0, rfl, rfl, (by rw [upd_ne npq]; exact hp), rfl, _, _, rfl, rfl, _, rfl, ?_⟩
      refine k _ _ (Int.emod_nonneg _ (by omega)) (Int.emod_lt_of_pos _ h0) ((Kp.new hq).upd (by simp)) ⟨_, _, _, upd_same⟩
    · refine ⟨_, rfl, p, _, 2, _, rfl, rfl, sq_of hp, at2, _, _, rfl, rfl, _, rfl, p, _, 2, 2, rfl, rfl, hp, rfl, ?_⟩
      have h2 : (upd H p (.lst [.int a, .int b, .int (c + 1)])) p = some (.lst [.int a, .int b, .int (c + 1)]) := upd_same
      have m0 : 0 ≤ (b * 14503 + 12007 * (c + 1)) % 2147483489 ∧ (b * 14503 + 12007 * (c + 1)) % 2147483489 < 2147483489 := ⟨Int.emod_nonneg _ (by decide), Int.emod_lt_of_pos _ (by decide)⟩
      have r0 : 0 ≤ (b * 14503 + 12007 * (c + 1)) % 2147483489 % 5147 ∧ (b * 14503 + 12007 * (c + 1)) % 2147483489 % 5147 < 5147 := ⟨Int.emod_nonneg _ (by decide), Int.emod_lt_of_pos _ (by decide)⟩
      refine ⟨_, rfl, p, _, 1, _, rfl, rfl, sq_of h2, at1, _, _, rfl, rfl, .inr (by decide), _, rfl, p, _, 2, _, rfl, rfl, sq_of h2, at2, _, _, rfl, rfl, .inl (by decide), _, _, rfl, rfl, .inl ⟨_, rfl, _, _, rfl, rfl, (by show (0 : Int) < 2147483489; decide), ?_⟩⟩
      refine ⟨_, rfl, _, rfl, .inl ⟨_, rfl, _, _, rfl, rfl, (by show (0 : Int) < 5147; decide), _, _, rfl, rfl, _, _, rfl, rfl, .inl ⟨by omega, by omega⟩, _, rfl, p, _, 2, _, rfl, rfl, sq_of h2, at2, _, _, rfl, rfl, .inl (by decide), _, _, rfl, rfl, .inl ⟨_, rfl, _, _, rfl, rfl, (by show (0 : Int) < 2147483489; decide), ?_⟩⟩⟩
      refine ⟨_, rfl, p, _, 1, 1, rfl, rfl, h2, rfl, ?_⟩
      refine ⟨_, rfl, p, _, 1, _, rfl, rfl, sq_of upd_same, rfl, _, _, rfl, rfl, ⟨by decide, by decide⟩, .inl ⟨_, rfl, _, rfl, _, _, rfl, rfl, h0, ?_⟩⟩
      exact k _ _ (Int.emod_nonneg _ (by omega)) (Int.emod_lt_of_pos _ h0) (((Kp.refl H).upd (by simp)).upd (by simp)) ⟨_, _, _, upd_same⟩

def spAny (K : PySem.W.Frag) : Sp := fun vs H Q _ => ∃ p q xs, vs = [.ref p, .ref q] ∧ Pail H p ∧ q ≠ p ∧ (SqL K H q xs ∨ SqT K H q xs) ∧ 0 < xs.length ∧ xs.length < 1000000 ∧
  ∀ (i : Nat) x H', xs[i]? = some x → Kp [p] H H' → Pail H' p → Q x H'
theorem bd_any : BindP "_law_any" s_law_any ["pail", "some"] := fun _ _ _ _ _ _ us hl => match us, hl with | [_, _], _ => rfl
theorem ok_any (T : Txt K mg) : DefOk P w K mg base CX0 false 2 "_law_any" s_law_any ["pail", "some"] (spAny K) := by
  refine T.d_law_any.ok scs_law_any (fun vs H Q E h => ?_) (fun f cdv A outer s H vs Q E hr h => ?_)
  · obtain ⟨p, top, xs, rfl, _⟩ := h
    rfl
  · obtain ⟨p, q, xs, rfl, hp, hne, hq, h0, h1, k⟩ := h
    refine ⟨_, pss_one (ps_ret (pe_ix (ix_list.or ix_tup) (pv 1) (pe_callD (ok_deal T) hr (.inl rfl) bd_deal pass0 (pa_cons (pv 0) (pa_cons (pe_callB call_len_seq (by rfl) T.b_len PySem.boot_len (pa_cons (pv 1) pa_nil)) pa_nil))) (fun _ _ => rfl))), ?_⟩
    refine ⟨_, rfl, _, rfl, _, rfl, q, xs, rfl, hq, p, (xs.length : Int), rfl, hp, by omega, by omega, fun j H1 j0 j1 kp hp1 => ?_⟩
    have hn : q ∉ ([p] : List Addr) := by simpa using hne
    obtain ⟨n, rfl⟩ : ∃ n : Nat, j = (n : Int) := ⟨j.toNat, by omega⟩
    have hlt : n < xs.length := by omega
    have hx : xs[n]? = some xs[n] := List.getElem?_eq_getElem hlt
    rcases hq with hq | hq
    · exact .inl ⟨q, xs, _, _, rfl, rfl, kp_l kp hn hq, atI_nat hx, k n _ H1 hx kp hp1⟩
    · exact .inr ⟨q, xs, _, _, rfl, rfl, kp_t kp hn hq, atI_nat hx, k n _ H1 hx kp hp1⟩
def spPail (K : PySem.W.Frag) : Sp := fun vs H Q _ => ∃ (a : Addr) (ns : List Int) (t : Nat), vs = [.ref a, .int (t : Int)] ∧ SqL K H a (ns.map V.int) ∧ ns.length ≤ 1000 ∧
  ∀ p H', H p = none → Ex H H' → Pail H' p → Q (.ref p) H'
theorem bd_pail : BindP "_law_pail" s_law_pail ["script", "turn"] := fun _ _ _ _ _ _ us hl => match us, hl with | [_, _], _ => rfl
theorem ok_pail (T : Txt K mg) : DefOk P w K mg base CX0 false 1 "_law_pail" s_law_pail ["script", "turn"] (spPail K) := by
  refine T.d_law_pail.ok scs_law_pail (fun vs H Q E h => ?_) (fun f cdv A outer s H vs Q E hr h => ?_)
  · obtain ⟨a, ns, t, rfl, _⟩ := h
    rfl
  · obtain ⟨a, ns, t, rfl, hS, hlen, k⟩ := h
    have nd := scs_law_pail.nd
    refine ⟨_, pss_cons (ps_set (i := 2) nd rfl (.inl rfl) (pe_op op_add pe_int (pe_op op_mul pe_int (pv 1))))
      (pss_cons (ps_for PassesOwn.never rfl (pi_list (pe_slice sl_list (pv 0) po_none (po_some pe_int))) (pg_name (i := 3) nd rfl (.inl rfl))
        (pss_one (ps_set (i := 2) nd rfl (.inl rfl) (pe_op op_mod (pe_callTy call_int1 (by rfl) T.b_int (by decide +kernel) (pa_cons (pe_op op_add (pe_op op_add (pe_op op_mul (pv 2) pe_int) (pe_op op_mul (pe_op op_mod (pe_callTy call_int1 (by rfl) T.b_int (by decide +kernel) (pa_cons (pv 3) pa_nil)) pe_int) pe_int)) pe_int) pa_nil)) pe_int))))
      (pss_cons (ps_set (i := 4) nd rfl (.inl rfl) (pe_ifExp (pt_cmpR op_lt (pv 1) (pe_callB call_len_seq (by rfl) T.b_len PySem.boot_len (pa_cons (pv 0) pa_nil)) (nomark _)) (pe_callTy call_int1 (by rfl) T.b_int (by decide +kernel) (pa_cons (pe_ix ix_list (pv 0) (pv 1) (fun _ _ => rfl)) pa_nil)) pe_int))
      (pss_cons (ps_set (i := 2) nd rfl (.inl rfl) (pe_op op_mod (pe_callTy call_int1 (by rfl) T.b_int (by decide +kernel) (pa_cons (pe_op op_add (pe_op op_add (pe_op op_mul (pv 2) pe_int) (pe_op op_mul (pe_op op_mod (pv 4) pe_int) pe_int)) pe_int) pa_nil)) pe_int))
      (pss_one (ps_ret (pe_lst (pa_cons (pe_ifExp (PW.pt (pw_or (pt_cmpR op_lt (pv 4) pe_int (nomark _)) (pw_or1 (pt_cmpR op_ge (pv 4) (pe_op op_pow pe_int pe_int) (nomark _))))) (pe_callB call_abs (by rfl) T.b_abs (by decide +kernel) (pa_cons (pv 4) pa_nil)) pe_int) (pa_cons (pv 2) (pa_cons pe_int pa_nil))))))))), ?_⟩
    refine ⟨_, rfl, _, _, rfl, rfl, .inl (by decide), _, _, rfl, rfl, ?_⟩
    refine ⟨_, rfl, _, rfl, a, _, rfl, hS, fun c hc => ⟨c, rfl, ⟨_, sq_of upd_same⟩, ?_⟩⟩
    have e1 : Ex H (upd H c (.lst (cutV (ns.map V.int) none (some 12)))) := Ex.new hc
    refine for_list (K := K) (a := c) (xs := cutV (ns.map V.int) none (some 12)) (fun i σ H' => ∃ (m : Int) (y : Option V), σ = [some (.ref a), some (.int (t : Int)), some (.int m), y, none] ∧ Ex (upd H c (.lst (cutV (ns.map V.int) none (some 12)))) H')
      ⟨_, none, rfl, Ex.refl _⟩ (fun i σ H' _ z => ?_) ?_ ?_
    · obtain ⟨m, y, _, e⟩ := z
      exact ex_l e (sq_of upd_same)
    · rintro i y σ H' hi ⟨m, y', rfl, e⟩
      have hy : y ∈ ns.map V.int := by
        have hm := List.mem_of_getElem? hi
        unfold cutV at hm
        exact List.mem_of_mem_drop (List.mem_of_mem_take hm)
      obtain ⟨z, _, rfl⟩ := List.mem_map.mp hy
      refine ⟨_, rfl, _, _, rfl, rfl, .inr (by decide), _, rfl, .inl ⟨_, rfl, _, _, rfl, rfl, (by show (0 : Int) < 2147483489; decide), _, _, rfl, rfl, .inr (by decide), _, _, rfl, rfl, _, _, rfl, rfl, .inl ⟨_, rfl, _, _, rfl, rfl, (by show (0 : Int) < 2147483489; decide), ?_⟩⟩⟩
      exact ⟨_, _, rfl, e⟩
    · rintro σ H' ⟨m, y', rfl, e⟩
      have hS' : SqL K H' a (ns.map V.int) := ex_l (e1.trans e) hS
      have tail : ∀ own : Int, (tSeq (tAsg (tOp (rI (fun _ j => 0 < j) fun i j => .int (i % j)) (tCB (fun xs H Q => (∃ i, xs = [.int i] ∧ Q (.int i) H) ∨ ∃ k, xs = [.bl k] ∧ Q (.int (if k then 1 else 0)) H) (tCons (tOp (rI0 fun i j => .int (i + j)) (tOp (rI0 fun i j => .int (i + j)) (tOp (rI CMul fun i j => .int (i * j)) (tVar 2) (tC (.int 89))) (tOp (rI CMul fun i j => .int (i * j)) (tOp (rI (fun _ j => 0 < j) fun i j => .int (i % j)) (tVar 4) (tC (.int 2147483489))) (tC (.int 77017)))) (tC (.int 11))) tNil)) (tC (.int 2147483489))) (gName 2))
          (tRet (tLst (tCons (tIf (tOr (tTest (tOp (rI0 fun i j => .bl (decide (i < j))) (tVar 4) (tC (.int 0)))) (tTest (tOp (rI0 fun i j => .bl (decide (j ≤ i))) (tVar 4) (tOp (rI CPow fun i j => .int (i ^ j.toNat)) (tC (.int 10)) (tC (.int 15)))))) (tCB (fun xs H Q => ∃ i, xs = [.int i] ∧ Q (.int (if i < 0 then -i else i)) H) (tCons (tVar 4) tNil)) (tC (.int 0))) (tCons (tVar 2) (tCons (tC (.int 0)) tNil))))))
          { nx := fun _ H' => Q .non H', rt := Q } [some (.ref a), some (.int (t : Int)), some (.int m), y', some (.int own)] H' := by
        intro own
        refine ⟨_, rfl, _, _, rfl, rfl, .inr (by decide), _, rfl, _, _, rfl, rfl, (by show (0 : Int) < 2147483489; decide), _, _, rfl, rfl, .inr (by decide), _, _, rfl, rfl, _, _, rfl, rfl, .inl ⟨_, rfl, _, _, rfl, rfl, (by show (0 : Int) < 2147483489; decide), ?_⟩⟩
        have fin : ∀ x z : Int, (Nat.succ 2) ≤ sizeLine ∧ ∀ p, H' p = none → Q (.ref p) (upd H' p (.lst [.int x, .int z, .int 0])) := fun x z => ⟨by decide, fun p hp => k p _ (fresh_back (e1.trans e) hp) ((e1.trans e).trans (Ex.new hp)) ⟨_, _, _, upd_same⟩⟩
        refine ⟨_, rfl, _, _, rfl, rfl, _, rfl, ite2 (fun _ => ?_) (fun _ => ?_)⟩
        · exact ⟨_, rfl, _, rfl, _, rfl, fin _ _⟩
        · refine ⟨_, rfl, _, _, rfl, rfl, ⟨by decide, by decide, by decide⟩, _, _, rfl, rfl, _, rfl, ite2 (fun _ => ?_) (fun _ => ?_)⟩
          · exact ⟨_, rfl, _, rfl, _, rfl, fin _ _⟩
          · exact ⟨_, rfl, fin _ _⟩
      refine ⟨_, rfl, _, rfl, a, _, rfl, .inl hS', _, _, rfl, rfl, _, rfl, ite2 (fun hc => ?_) (fun _ => ?_)⟩
      · have hlt : t < (ns.map V.int).length := by
          have : (t : Int) < ((ns.map V.int).length : Int) := of_decide_eq_true hc
          omega
        have hx : (ns.map V.int)[t]? = some (.int (ns[t]'(by simpa using hlt))) := by
          rw [List.getElem?_map, List.getElem?_eq_getElem (by simpa using hlt)]
          rfl
        exact ⟨_, rfl, _, rfl, a, _, _, _, rfl, rfl, hS', atI_nat hx, .inl ⟨_, rfl, tail _⟩⟩
      · exact tail 0
end
end K2

set_option maxHeartbeats 4000000
namespace PG
open PySem L2 Evl DL TL
def At.val : At → V
  | .num n => .int n
  | .nm x => .str x
theorem dp_at {K : PySem.W.Frag} {H : Hp} : ∀ a : At, Dp K H a.val a.enc
  | .num n => .int n
  | .nm x => .str x
theorem dpa_ats {K : PySem.W.Frag} {H : Hp} : ∀ xs : List At, DpAll K H (xs.map At.val) (xs.map At.enc)
  | [] => .nil
  | a :: r => .cons (dp_at a) (dpa_ats r)
/-- what is free behind was free ahead -/
theorem fresh_kp {H H' : Hp} {p b q : Addr} {o : HO} (k : Kp [p, b] H H') (hp : K2.Pail H p) (hb : H b = some o) (h : H' q = none) (n : q ∉ [p, b]) : H q = none := by
  cases e : H q with
  | none => rfl
  | some u => rw [k q u n e] at h; cases h
theorem any_atom {scs : List Str} {ns : List Int} (hn : ∀ n ∈ ns, 0 ≤ n ∧ n ≤ 7) {i : Nat} {x : V} (h : (scs.map V.str ++ ns.map V.int)[i]? = some x) : ∃ a : At, okA scs a ∧ x = a.val := by
  rcases List.mem_append.mp (List.mem_of_getElem? h) with m | m
  · obtain ⟨y, hy, rfl⟩ := List.mem_map.mp m
    exact ⟨.nm y, hy, rfl⟩
  · obtain ⟨n, hm, rfl⟩ := List.mem_map.mp m
    exact ⟨.num n, hn n hm, rfl⟩
theorem any_str {ws : List Str} {i : Nat} {x : V} (h : (ws.map V.str)[i]? = some x) : ∃ w ∈ ws, x = .str w := by
  obtain ⟨y, hy, e⟩ := List.mem_map.mp (List.mem_of_getElem? h)
  exact ⟨y, hy, e.symm⟩
/-- the world of the draws: pail, box, the names in scope -/
structure DW (H : Hp) (p b s : Addr) (scs : List Str) (n : Nat) : Prop where
  pail : K2.Pail H p
  box : H b = some (.lst [.int (n : Int)])
  sc : H s = some (.lst (scs.map V.str))
  pb : p ≠ b
  sp : s ≠ p
  sb : s ≠ b
theorem DW.step {H H' : Hp} {p b s : Addr} {scs : List Str} {n n' : Nat} (W : DW H p b s scs n) (k : Kp [p, b] H H') (hp : K2.Pail H' p) (hb : H' b = some (.lst [.int (n' : Int)])) : DW H' p b s scs n' :=
  ⟨hp, hb, k s _ (by simp [W.sp, W.sb]) W.sc, W.pb, W.sp, W.sb⟩
/-- a step that leaves the box -/
theorem DW.keep {H H' : Hp} {p b s : Addr} {scs : List Str} {n : Nat} (W : DW H p b s scs n) (k : Kp [p] H H') (hp : K2.Pail H' p) : DW H' p b s scs n :=
  W.step (k.mono (by simp)) hp (k b _ (by simpa using W.pb.symm) W.box)
/-- a new thing -/
theorem DW.new {H : Hp} {p b s q : Addr} {o : HO} {scs : List Str} {n : Nat} (W : DW H p b s scs n) (hq : H q = none) : DW (upd H q o) p b s scs n := by
  obtain ⟨x, y, z, hp⟩ := W.pail
  exact W.keep (Kp.new hq) ⟨x, y, z, by rw [upd_ne (ne_of_none hp hq)]; exact hp⟩
/-- another scope -/
theorem DW.other {H : Hp} {p b s s' : Addr} {scs scs' : List Str} {n : Nat} (W : DW H p b s scs n) (h : H s' = some (.lst (scs'.map V.str))) (h1 : s' ≠ p) (h2 : s' ≠ b) : DW H p b s' scs' n := ⟨W.pail, W.box, h, W.pb, h1, h2⟩
theorem DW.nep {H : Hp} {p b s q : Addr} {scs : List Str} {n : Nat} (W : DW H p b s scs n) (hq : H q = none) : q ≠ p ∧ q ≠ b ∧ q ≠ s ∧ q ∉ [p, b] := by
  obtain ⟨x, y, z, hp⟩ := W.pail
  have h1 := ne_of_none hp hq
  have h2 := ne_of_none W.box hq
  have h3 := ne_of_none W.sc hq
  exact ⟨h1.symm, h2.symm, h3.symm, by simp [h1.symm, h2.symm]⟩
theorem DW.mut {H : Hp} {p b s q : Addr} {o : HO} {scs : List Str} {n : Nat} (W : DW H p b s scs n) (h1 : q ≠ p) (h2 : q ≠ b) (h3 : q ≠ s) : DW (upd H q o) p b s scs n := by
  obtain ⟨x, y, z, hp⟩ := W.pail
  exact ⟨⟨x, y, z, by rw [upd_ne h1.symm]; exact hp⟩, by rw [upd_ne h2.symm]; exact W.box, by rw [upd_ne h3.symm]; exact W.sc, W.pb, W.sp, W.sb⟩
theorem DW.boxed {H : Hp} {p b s : Addr} {scs : List Str} {n n' : Nat} (W : DW H p b s scs n) : DW (upd H b (.lst [.int (n' : Int)])) p b s scs n' := by
  obtain ⟨x, y, z, hp⟩ := W.pail
  exact ⟨⟨x, y, z, by rw [upd_ne W.pb]; exact hp⟩, upd_same, by rw [upd_ne W.sb]; exact W.sc, W.pb, W.sp, W.sb⟩
/-- box[0] = box[0] + 1 -/
theorem box_succ (n : Nat) : HO.lst (([.int ((n : Nat) : Int)] : List V).set 0 (.int (((n : Nat) : Int) + 1))) = HO.lst [.int ((n + 1 : Nat) : Int)] := rfl
/-- a new tuple of data -/
theorem DW.tup {K : PySem.W.Frag} {H : Hp} {p b s q : Addr} {scs : List Str} {n : Nat} {vs : List V} {ds : List PyData} (W : DW H p b s scs n) (hq : H q = none) (hd : DpAll K (tp H) vs ds) :
    Dp K (tp (upd H q (.tup vs))) (.ref q) (.tuple ds) :=
  .tup (st_of (tp_of upd_same)) (dpa_ex (Tp.new hq).ex hd)
theorem DW.tpk {H H' : Hp} {p b s : Addr} {scs : List Str} {n : Nat} (W : DW H p b s scs n) (k : Kp [p, b] H H') : Tp H H' := k.tp fun a h => by
  obtain ⟨x, y, z, hp⟩ := W.pail
  rcases List.mem_cons.mp h with h | h
  · exact ⟨_, h ▸ hp⟩
  · exact ⟨_, (List.mem_singleton.mp h) ▸ W.box⟩
theorem sz1 {n : Nat} (h : n ≤ 5000) : n ≤ sizeLine := Nat.le_trans h (by decide)
theorem num_log {n : Nat} (h : n < 10000000000) : ((n : Nat) : Int).natAbs.log2 < 1920 := by
  have e : ((n : Nat) : Int).natAbs = n := by omega
  rw [e]
  cases n with
  | zero => decide
  | succ m => exact (Nat.log2_lt (by omega)).mpr (Nat.lt_of_lt_of_le h (by decide))
theorem num_len {n : Nat} (h : n < 10000000000) : (Str.ofString (toString ((n : Nat) : Int))).length ≤ 10 := by
  rw [len_tl, tl_num]
  exact numL_len (by decide) h
theorem nPs_succ (k n : Nat) : nPs k (n + 1) = nPs k n ++ [nP (k + 1 + n)] := by
  unfold nPs
  rw [List.range_succ, List.map_append]
  rfl
theorem nPs_len (k n : Nat) : (nPs k n).length = n := by unfold nPs; simp
def LR (dp : Nat) : Nat := 1000000000 - 1000000 * (3 * dp) + 500000
def LB (dp mo : Nat) : Nat := 1000000000 - 1000000 * (3 * dp + mo)
end PG
namespace K2
open PySem L2 Evl DL PG
section
variable {P : Program} {w : World} {K : PySem.W.Frag} {mg : Str → Option Value} {base : Heap}
def spRight (K : PySem.W.Frag) (dp : Nat) : Sp := fun vs H Q _ => ∃ p b s scs n, vs = [.ref p, .ref b, .ref s, .int (dp : Int)] ∧ DW H p b s scs n ∧ dp ≤ 2 ∧ scs.length + 100 * (3 * dp) ≤ 1050 ∧ n ≤ LR dp ∧
  ∀ r n' v H', okR scs n dp r n' → Kp [p, b] H H' → Pail H' p → H' b = some (.lst [.int (n' : Nat)]) → Dp K (tp H') v r.enc → Q v H'
def spBody (K : PySem.W.Frag) (dp mo : Nat) : Sp := fun vs H Q _ => ∃ p b s scs n, vs = [.ref p, .ref b, .ref s, .int (dp : Int), .int (mo : Int)] ∧ DW H p b s scs n ∧ dp ≤ 2 ∧ mo ≤ 2 ∧ scs.length + 100 * (3 * dp + mo) ≤ 1000 ∧ n ≤ LB dp mo ∧
  ∀ r n' v H', okB scs n dp mo 4 r n' → Kp [p, b] H H' → Pail H' p → H' b = some (.lst [.int (n' : Nat)]) → Dp K (tp H') v (.tuple r.encs) → Q v H'
theorem bd_right : BindP "_law_drawn_right" s_law_drawn_right ["pail", "box", "scope", "deep"] := fun _ _ _ _ _ _ us hl => match us, hl with | [_, _, _, _], _ => rfl
theorem bd_body : BindP "_law_drawn_body" s_law_drawn_body ["pail", "box", "scope", "deep", "most"] := fun _ _ _ _ _ _ us hl => match us, hl with | [_, _, _, _, _], _ => rfl
/-- [a, b, c] of texts -/
theorem ok_right (T : Txt K mg) {k dp : Nat} (hk : 2 ≤ k) (hB : ∀ dq, dp = dq + 1 → DefOk P w K mg base CX0 false k "_law_drawn_body" s_law_drawn_body ["pail", "box", "scope", "deep", "most"] (spBody K dq 1)) :
    DefOk P w K mg base CX0 false (k + 1) "_law_drawn_right" s_law_drawn_right ["pail", "box", "scope", "deep"] (spRight K dp) := by
  have hB' : ∃ spB : Sp, DefOk P w K mg base CX0 false k "_law_drawn_body" s_law_drawn_body ["pail", "box", "scope", "deep", "most"] spB ∧ ∀ dq, dp = dq + 1 → spB = spBody K dq 1 := by
    cases dp with
    | zero =>
      obtain ⟨f, fd, F, hm⟩ := T.d_law_drawn_body.ex
      exact ⟨fun _ _ _ _ => False, ⟨f, fd, F, hm, ⟨fun _ _ _ _ h => h.elim, fun _ _ _ _ _ _ _ _ _ _ _ _ _ h => h.elim⟩⟩, fun dq h => nomatch h⟩
    | succ dq => exact ⟨_, hB dq rfl, fun dr h => by cases h; rfl⟩
  obtain ⟨spB, DB, hspB⟩ := hB'
  refine T.d_law_drawn_right.ok scs_law_drawn_right (fun vs H Q E h => ?_) (fun f cdv A outer s0 H vs Q E hr h => ?_)
  · obtain ⟨p, b, s, scs, n, rfl, _⟩ := h
    rfl
  · obtain ⟨p, b, s, scs, n, rfl, W, hdp, hsc, hn, kk⟩ := h
    have nd := scs_law_drawn_right.nd
    have hr1 : Room 1 _ := hr.mono (by omega)
    have hr2 : Room 2 _ := hr.mono hk
    refine ⟨_, pss_cut (ps_asg (pe_tup (pa_cons (pe_callD (ok_deal T) hr1 (.inl rfl) bd_deal pass0 (pa_cons (pv 0) (pa_cons pe_int pa_nil))) (pa_cons (pe_op op_cat (pv 2) (pe_lst (pa_cons pe_int (pa_cons pe_int (pa_cons pe_int pa_nil))))) pa_nil)))
        (pg_tup (by rfl) (pgs_cons (pg_name (i := 4) nd rfl (.inl rfl)) (pgs_cons (pg_name (i := 5) nd rfl (.inr rfl)) pgs_nil))))
      (pss_cut (ps_par (i := 6) (j := 7) (by rfl) nd rfl rfl (by decide) rfl rfl (pa_cons (pe_callD (ok_any T) hr2 (.inl rfl) bd_any pass0 (pa_cons (pv 0) (pa_cons (pv 5) pa_nil))) (pa_cons (pe_callD (ok_any T) hr2 (.inl rfl) bd_any pass0 (pa_cons (pv 0) (pa_cons (pv 5) pa_nil))) pa_nil)) (by rfl))
      (pss_cons (ps_if (pt_cmpR op_lt (pv 4) pe_int (nomark _)) (pss_one (ps_ret (pe_tup (pa_cons (pe_callD (ok_any T) hr2 (.inl rfl) bd_any pass0 (pa_cons (pv 0) (pa_cons (pe_lst (pa_cons pe_str (pa_cons pe_str (pa_cons pe_str (pa_cons pe_str (pa_cons pe_str pa_nil)))))) pa_nil))) (pa_cons (pv 6) (pa_cons (pv 7) pa_nil)))))) pss_nil)
      (pss_cons (ps_if (pt_cmpR op_lt (pv 4) pe_int (nomark _)) (pss_one (ps_ret (pe_tup (pa_cons pe_str (pa_cons (pv 6) (pa_cons (pv 7) pa_nil)))))) pss_nil)
      (pss_cons (ps_if (pt_cmpR op_lt (pv 4) pe_int (nomark _)) (pss_one (ps_ret (pe_tup (pa_cons (pe_callD (ok_any T) hr2 (.inl rfl) bd_any pass0 (pa_cons (pv 0) (pa_cons (pe_lst (pa_cons pe_str (pa_cons pe_str (pa_cons pe_str pa_nil)))) pa_nil))) (pa_cons (pv 6) pa_nil))))) pss_nil)
      (pss_cut (ps_if (PW.pt (pw_and (pt_cmpR op_lt (pv 4) pe_int (nomark _)) (pw_and1 (pt_cmpR op_gt (pv 3) pe_int (nomark _)))))
        (pss_cons (ps_set (i := 8) nd rfl (.inl rfl) (pe_lst pa_nil))
        (pss_cons (ps_for PassesOwn.never rfl (pi_range1 (by rfl) T.b_range (pa_cons (pe_callD (ok_deal T) hr1 (.inl rfl) bd_deal pass0 (pa_cons (pv 0) (pa_cons pe_int pa_nil))) pa_nil)) (pg_name (i := 9) nd rfl (.inl rfl))
          (pss_cons (ps_asg (pe_op op_add (pe_ix ix_list (pv 1) pe_int (fun _ _ => rfl)) pe_int) (pg_sub (pv 1) pe_int set_list))
          (pss_one (ps_expr (pe_bm PySem.F.plainAttrs_list PySem.F.slot_list_append PySem.F.type_list_append mt_append (pv 8) (pa_cons (pe_op op_add_str pe_str (pe_callTy call_str_int (by rfl) T.b_str (by decide +kernel) (pa_cons (pe_ix ix_list (pv 1) pe_int (fun _ _ => rfl)) pa_nil))) pa_nil))))))
        (pss_cons (ps_set (i := 10) nd rfl (.inl rfl) (pe_callD DB hr (.inl rfl) bd_body pass0 (pa_cons (pv 0) (pa_cons (pv 1) (pa_cons (pe_op op_cat (pv 2) (pv 8)) (pa_cons (pe_op op_sub (pv 3) pe_int) (pa_cons pe_int pa_nil)))))))
        (pss_one (ps_ret (pe_tup (pa_cons pe_str (pa_cons (pe_callTy call_tuple_of (by rfl) T.b_tuple (by decide +kernel) (pa_cons (pv 8) pa_nil)) (pa_cons (pv 10) pa_nil))))))))) pss_nil)
      (pss_cons (ps_if (pt_cmpR op_lt (pv 4) pe_int (nomark _))
        (pss_cons (ps_set (i := 11) nd rfl (.inl rfl) (pe_callD (ok_any T) hr2 (.inl rfl) bd_any pass0 (pa_cons (pv 0) (pa_cons (pe_op op_cat (pe_lst (pa_cons pe_str (pa_cons pe_str pa_nil))) (pv 2)) pa_nil))))
        (pss_one (ps_ret (pe_tup (pa_cons pe_str (pa_cons (pv 11) (pa_cons (pe_callTy call_tuple_of (by rfl) T.b_tuple (by decide +kernel) (pa_cons
          (pe_lc (own := [("k", 9)]) (g := gName 9) (tt := tYes) rfl nd (pi_range1 (by rfl) T.b_range (pa_cons (pe_callD (ok_any T) hr2 (.inl rfl) bd_any pass0 (pa_cons (pv 0) (pa_cons (pe_lst (pa_cons pe_int (pa_cons pe_int (pa_cons pe_int (pa_cons pe_int pa_nil))))) pa_nil))) pa_nil))
            (blkOk_by (N := ["pail", "box", "scope", "deep", "sort", "some", "one", "two", "params", "k", "body", "called"]) (sc := defScope s_law_drawn_right) (by decide +kernel)) (fun _ _ _ _ _ => pg_name (i := 9) nd rfl (Or.inl rfl)) (fun _ _ _ _ _ => pts_nil)
            (fun _ _ _ _ _ => pe_callD (ok_any T) hr2 (.inl rfl) bd_any pass0 (pa_cons (pv 0) (pa_cons (pv 5) pa_nil)))) pa_nil)) pa_nil))))))) pss_nil)
      (pss_one (ps_ret (pe_tup (pa_cons pe_str (pa_cons (pv 6) pa_nil))))))))))), ?_⟩
    -- sort, some
    refine ⟨fun σ' H' => ∃ (sort : Int) (m : Addr), σ' = [some (.ref p), some (.ref b), some (.ref s), some (.int (dp : Int)), some (.int sort), some (.ref m), none, none, none, none, none, none] ∧
      Kp [p, b] H H' ∧ DW H' p b s scs n ∧ H' m = some (.lst (scs.map V.str ++ ([0, 1, 3] : List Int).map V.int)) ∧ m ≠ p ∧ m ≠ b, ?_, ?_⟩
    · refine ⟨_, rfl, p, 14, rfl, W.pail, by decide, by decide, fun sort H1 _ _ k1 P1 => ?_⟩
      have W1 := W.keep k1 P1
      refine ⟨_, rfl, sz1 (by simp), fun l hl => ⟨s, l, _, _, rfl, rfl, (W1.new hl).sc, upd_same, sz1 (by simp; omega), fun m hm => ⟨sz1 (by simp), fun t ht => ⟨t, _, rfl, st_of upd_same, rfl, _, _, rfl, _, _, rfl, rfl, ?_⟩⟩⟩⟩
      have W3 := (W1.new (o := .lst [.int 0, .int 1, .int 3]) hl).new (o := .lst (scs.map V.str ++ [.int 0, .int 1, .int 3])) hm
      have nm := (W1.new (o := .lst [.int 0, .int 1, .int 3]) hl).nep hm
      have tm : m ≠ t := ne_of_none (upd_same) ht
      exact ⟨sort, m, rfl, ((k1.mono (by simp)).trans (Kp.new hl)).trans ((Kp.new hm).trans (Kp.new ht)), W3.new ht, by rw [upd_ne tm, upd_same]; rfl, nm.1, nm.2.1⟩
    rintro σ H1 ⟨sort, m, rfl, k1, W1, hm, mp, mb⟩
    have hlen : (scs.map V.str ++ ([0, 1, 3] : List Int).map V.int).length < 1000000 := by simp; omega
    have hpos : 0 < (scs.map V.str ++ ([0, 1, 3] : List Int).map V.int).length := by simp
    have hns : ∀ n ∈ ([0, 1, 3] : List Int), 0 ≤ n ∧ n ≤ 7 := by decide
    -- one, two
    refine ⟨fun σ' H' => ∃ one two : At, okA scs one ∧ okA scs two ∧ σ' = [some (.ref p), some (.ref b), some (.ref s), some (.int (dp : Int)), some (.int sort), some (.ref m), some one.val, some two.val, none, none, none, none] ∧
      Kp [p, b] H H' ∧ DW H' p b s scs n ∧ H' m = some (.lst (scs.map V.str ++ ([0, 1, 3] : List Int).map V.int)), ?_, ?_⟩
    · refine ⟨_, rfl, _, rfl, p, m, _, rfl, W1.pail, mp, .inl (sq_of hm), hpos, hlen, fun i x H2 hx k2 P2 => ?_⟩
      have W2 := W1.keep k2 P2
      have hm2 := k2 m _ (by simpa using mp) hm
      refine ⟨_, rfl, _, rfl, p, m, _, rfl, W2.pail, mp, .inl (sq_of hm2), hpos, hlen, fun j y H3 hy k3 P3 => ?_⟩
      obtain ⟨one, o1, rfl⟩ := any_atom hns hx
      obtain ⟨two, o2, rfl⟩ := any_atom hns hy
      exact ⟨_, _, rfl, one, two, o1, o2, rfl, k1.trans ((k2.mono (by simp)).trans (k3.mono (by simp))), W2.keep k3 P3, k3 m _ (by simpa using mp) hm2⟩
    rintro σ H2 ⟨one, two, o1, o2, rfl, k2, W2, hm2⟩
    -- an operation
    refine ⟨_, rfl, _, _, rfl, rfl, _, rfl, ite2 (fun _ => ?_) (fun _ => ?_)⟩
    · refine ⟨_, rfl, sz1 (by simp), fun l hl => ⟨p, l, _, rfl, (W2.new hl).pail, (W2.nep hl).1, .inl (sq_of upd_same), by simp, by simp, fun i x H3 hx k3 P3 => ?_⟩⟩
      have W3 := (W2.new hl).keep k3 P3
      obtain ⟨w, hw, rfl⟩ := any_str (ws := wOps) hx
      refine ⟨_, rfl, _, rfl, sz1 (by simp), fun t ht => kk (.two w one two) n _ _ (okR_two (List.mem_append_left _ hw) o1 o2) ((k2.trans ((Kp.new hl).trans (k3.mono (by simp)))).trans (Kp.new ht)) (W3.new ht).pail (W3.new ht).box (W3.tup ht (.cons (.str w) (.cons (dp_at one) (.cons (dp_at two) .nil))))⟩
    -- a pair
    refine ⟨_, rfl, _, _, rfl, rfl, _, rfl, ite2 (fun _ => ?_) (fun _ => ?_)⟩
    · refine ⟨_, rfl, _, rfl, sz1 (by simp), fun t ht => kk (.two "pair" one two) n _ _ (okR_two (by unfold wTwo; simp) o1 o2) (k2.trans (Kp.new ht)) (W2.new ht).pail (W2.new ht).box (W2.tup ht (.cons (.str "pair") (.cons (dp_at one) (.cons (dp_at two) .nil))))⟩
    -- left, right, paired
    refine ⟨_, rfl, _, _, rfl, rfl, _, rfl, ite2 (fun _ => ?_) (fun _ => ?_)⟩
    · refine ⟨_, rfl, sz1 (by simp), fun l hl => ⟨p, l, _, rfl, (W2.new hl).pail, (W2.nep hl).1, .inl (sq_of upd_same), by simp, by simp, fun i x H3 hx k3 P3 => ?_⟩⟩
      have W3 := (W2.new hl).keep k3 P3
      obtain ⟨w, hw, rfl⟩ := any_str (ws := wSides) hx
      refine ⟨_, rfl, sz1 (by simp), fun t ht => kk (.one w one) n _ _ (okR_one (List.mem_append_left _ hw) o1) ((k2.trans ((Kp.new hl).trans (k3.mono (by simp)))).trans (Kp.new ht)) (W3.new ht).pail (W3.new ht).box (W3.tup ht (.cons (.str w) (.cons (dp_at one) .nil)))⟩
    -- a fun
    refine ⟨fun σ' H' => σ' = [some (.ref p), some (.ref b), some (.ref s), some (.int (dp : Int)), some (.int sort), some (.ref m), some one.val, some two.val, none, none, none, none] ∧ H' = H2, ?_, ?_⟩
    · refine ⟨_, rfl, _, _, rfl, rfl, _, rfl, ite2 (fun _ => ⟨_, rfl, _, _, rfl, rfl, _, rfl, ite2 (fun hd => ?_) (fun _ => ⟨rfl, rfl⟩)⟩) (fun _ => ⟨rfl, rfl⟩)⟩
      have hd0 : 0 < dp := by have : (0 : Int) < (dp : Int) := of_decide_eq_true hd; omega
      obtain ⟨dq, rfl⟩ : ∃ dq, dp = dq + 1 := ⟨dp - 1, by omega⟩
      refine ⟨sz1 (by simp), fun q hq => ?_⟩
      have Wq := W2.new (o := .lst []) hq
      have nq := W2.nep hq
      have kq : Kp [p, b] H (upd H2 q (.lst [])) := k2.trans (Kp.new hq)
      refine ⟨_, rfl, p, 3, rfl, Wq.pail, by decide, by decide, fun c H3 c0 c1 k3 P3 => ⟨c, rfl, by omega, by omega, ?_⟩⟩
      have W3 := Wq.keep k3 P3
      have hq3 : H3 q = some (.lst []) := k3 q _ (by simpa using nq.1) upd_same
      refine for_range (lo := 0) (n := c.toNat) (fun i σ' H' => ∃ z : Option V, σ' = [some (.ref p), some (.ref b), some (.ref s), some (.int ((dq + 1 : Nat) : Int)), some (.int sort), some (.ref m), some one.val, some two.val, some (.ref q), z, none, none] ∧
        Kp [p, b] H H' ∧ DW H' p b s scs (n + i) ∧ H' q = some (.lst ((nPs n i).map V.str)))
        ⟨none, rfl, kq.trans (k3.mono (by simp)), W3, by rw [hq3]; rfl⟩ ?_ ?_
      · rintro i σ' H' hi ⟨z, rfl, kH, WH, hqH⟩
        have hi2 : i < 3 := by omega
        refine ⟨_, rfl, b, _, 0, _, rfl, rfl, sq_of WH.box, rfl, _, _, rfl, rfl, _, rfl, b, _, 0, 0, rfl, rfl, WH.box, rfl, ?_⟩
        have W' : DW (upd H' b (.lst [.int ((n + i + 1 : Nat) : Int)])) p b s scs (n + i + 1) := WH.boxed
        have hq' : (upd H' b (.lst [.int ((n + i + 1 : Nat) : Int)])) q = some (.lst ((nPs n i).map V.str)) := by rw [upd_ne nq.2.1]; exact hqH
        have hsm : n + i + 1 < 10000000000 := by unfold LR at hn; omega
        refine ⟨_, rfl, .inl ⟨rfl, _, sq_of hq'⟩, _, rfl, b, _, 0, _, rfl, rfl, sq_of W'.box, rfl, _, rfl, num_log hsm, _, _, rfl, rfl, sz1 ?_, q, _, _, rfl, rfl, hq', ?_, ?_⟩
        · have := num_len hsm
          show (Str.ofString "p").length + _ ≤ _
          have e : (Str.ofString "p").length = 1 := rfl
          omega
        · rw [List.length_map, nPs_len]
          exact Nat.lt_of_lt_of_le hi2 (by decide)
        · refine ⟨_, rfl, (kH.upd (by simp)).mut (fresh_kp k2 W.pail W.box hq nq.2.2.2), ?_, ?_⟩
          · have W'' := W'.mut (o := .lst ((nPs n i).map V.str ++ [.str (nP (n + i + 1))])) nq.1 nq.2.1 nq.2.2.1
            have e1 : n + (i + 1) = n + i + 1 := by omega
            rw [e1]
            exact W''
          · have e1 : n + i + 1 = n + 1 + i := by omega
            rw [upd_same, nPs_succ, List.map_append, e1]
            rfl
      · rintro σ' H' ⟨z, rfl, kH, WH, hqH⟩
        obtain rfl := hspB dq rfl
        have hc3 : c.toNat ≤ 2 := by omega
        -- body
        refine ⟨_, rfl, _, rfl, _, rfl, _, rfl, s, q, _, _, rfl, rfl, WH.sc, hqH, sz1 (by simp [nPs_len]; omega), fun s2 hs2 => ⟨_, rfl, _, _, rfl, rfl, p, b, s2, scs ++ nPs n c.toNat, n + c.toNat, ?_, ?_⟩⟩
        · have e2 : (((dq + 1 : Nat) : Int) - 1) = (dq : Int) := by omega
          show [V.ref p, V.ref b, V.ref s2, V.int (((dq + 1 : Nat) : Int) - 1), V.int 1] = _
          rw [e2]
          rfl
        · have n2 := WH.nep hs2
          refine ⟨(WH.new hs2).other (by rw [upd_same, List.map_append]) n2.1 n2.2.1, by omega, by decide, by simp [nPs_len]; omega, ?_, fun r n' v H4 hok k4 P4 b4 dp4 => ?_⟩
          · unfold LR at hn
            unfold LB
            omega
          have k5 : Kp [p, b] H H4 := (kH.trans (Kp.new hs2)).trans k4
          have hq4 : H4 q = some (.lst ((nPs n c.toNat).map V.str)) := k4 q _ nq.2.2.2 (by rw [upd_ne (ne_of_none hqH hs2)]; exact hqH)
          have W4 : DW H4 p b s scs n' := WH.step ((Kp.new hs2).trans k4) P4 b4
          refine ⟨_, rfl, q, _, rfl, .inl ⟨sq_of hq4, fun t1 ht1 => ⟨_, rfl, sz1 (by simp), fun t2 ht2 => ?_⟩⟩⟩
          have Wt := W4.new (o := .tup ((nPs n c.toNat).map V.str)) ht1
          have kt : Kp [p, b] H4 (upd H4 t1 (.tup ((nPs n c.toNat).map V.str))) := Kp.new ht1
          refine kk (.fn (nPs n c.toNat) r) n' _ _ (okR_fn hc3 hok) ((k5.trans kt).trans (Kp.new ht2)) (Wt.new ht2).pail (Wt.new ht2).box (Wt.tup ht2 (.cons (.str "fun") (.cons (W4.tup ht1 (dpa_strs _)) (.cons (dp_ex (Tp.new ht1).ex dp4) .nil))))
    rintro σ H3 ⟨rfl, rfl⟩
    -- a call
    refine ⟨_, rfl, _, _, rfl, rfl, _, rfl, ite2 (fun _ => ?_) (fun _ => ?_)⟩
    · refine ⟨_, rfl, sz1 (by simp), fun l hl => ⟨_, rfl, l, s, _, _, rfl, rfl, upd_same, (W2.new hl).sc, sz1 (by simp; omega), fun l2 hl2 => ?_⟩⟩
      have Wl := W2.new (o := .lst [.str "g", .str "h"]) hl
      have W3 := Wl.new (o := .lst ([.str "g", .str "h"] ++ scs.map V.str)) hl2
      refine ⟨p, l2, _, rfl, W3.pail, (Wl.nep hl2).1, .inl (sq_of upd_same), by simp, by simp; omega, fun i x H4 hx k4 P4 => ?_⟩
      have W4 := W3.keep k4 P4
      obtain ⟨f, hf, rfl⟩ : ∃ f : At, okF scs f ∧ x = f.val := by
        obtain ⟨y, hy, rfl⟩ := any_str (ws := (["g", "h"] : List Str) ++ scs) (by rw [List.map_append]; exact hx)
        refine ⟨.nm y, ?_, rfl⟩
        rcases List.mem_append.mp hy with h | h
        · rcases List.mem_cons.mp h with h | h
          · exact .inl h
          · exact .inr (.inl (by simpa using h))
        · exact .inr (.inr h)
      have kA : Kp [p, b] H H4 := ((k2.trans (Kp.new hl)).trans (Kp.new hl2)).trans (k4.mono (by simp))
      have hm4 : H4 m = some (.lst (scs.map V.str ++ ([0, 1, 3] : List Int).map V.int)) := k4 m _ (by simpa using mp) (by
        rw [upd_ne (ne_of_none (by rw [upd_ne (ne_of_none hm2 hl)]; exact hm2) hl2), upd_ne (ne_of_none hm2 hl)]
        exact hm2)
      refine ⟨_, rfl, _, rfl, sz1 (by simp), fun l3 hl3 => ?_⟩
      have W5 := W4.new (o := .lst [.int 1, .int 1, .int 2, .int 0]) hl3
      refine ⟨p, l3, _, rfl, W5.pail, (W4.nep hl3).1, .inl (sq_of upd_same), by simp, by simp, fun i5 x5 H6 hx6 k6 P6 => ?_⟩
      have W6 := W5.keep k6 P6
      have kB : Kp [p, b] H H6 := (kA.trans (Kp.new hl3)).trans (k6.mono (by simp))
      have hm6 : H6 m = some (.lst (scs.map V.str ++ ([0, 1, 3] : List Int).map V.int)) := k6 m _ (by simpa using mp) (by rw [upd_ne (ne_of_none hm4 hl3)]; exact hm4)
      obtain ⟨c, hc, rfl⟩ : ∃ c : Nat, c ≤ 2 ∧ x5 = .int (c : Int) := by
        rcases List.mem_cons.mp (List.mem_of_getElem? hx6) with h | h
        · exact ⟨1, by decide, h⟩
        rcases List.mem_cons.mp h with h | h
        · exact ⟨1, by decide, h⟩
        rcases List.mem_cons.mp h with h | h
        · exact ⟨2, by decide, h⟩
        · exact ⟨0, by decide, by simpa using h⟩
      refine ⟨_, rfl, by omega, by omega, fun D hD => ?_⟩
      have nD := W6.nep hD
      refine lc_range (lo := 0) (n := ((c : Int)).toNat) (fun i H' => ∃ xs : List At, xs.length = i ∧ (∀ a ∈ xs, okA scs a) ∧ H' D = some (.lst (xs.map At.val)) ∧ Kp [p, b] H6 H' ∧ DW H' p b s scs n ∧ H' m = some (.lst (scs.map V.str ++ ([0, 1, 3] : List Int).map V.int)))
        ⟨[], rfl, by simp, upd_same, Kp.new hD, W6.new hD, by rw [upd_ne (ne_of_none hm6 hD)]; exact hm6⟩ ?_ ?_
      · rintro i H' hi ⟨xs, hl', ho, hDD, kC, WC, hmC⟩
        refine ⟨rfl, lc_yes ⟨_, rfl, _, rfl, p, m, _, rfl, WC.pail, mp, .inl (sq_of hmC), hpos, hlen, fun j y H7 hy k7 P7 => ?_⟩⟩
        obtain ⟨a, oa, rfl⟩ := any_atom hns hy
        have hD7 := k7 D _ (by simpa using nD.1) hDD
        refine ⟨_, hD7, ?_, xs ++ [a], by simp [hl'], ?_, by rw [upd_same, List.map_append]; rfl, (kC.trans (k7.mono (by simp))).mut hD, (WC.keep k7 P7).mut nD.1 nD.2.1 nD.2.2.1, ?_⟩
        · rw [List.length_map, hl']
          exact Nat.lt_of_lt_of_le (show i < 2 by omega) (by decide)
        · intro z hz
          rcases List.mem_append.mp hz with h | h
          · exact ho z h
          · rw [List.mem_singleton.mp h]; exact oa
        · rw [upd_ne (ne_of_none hm6 hD)]
          exact k7 m _ (by simpa using mp) hmC
      · rintro H' ⟨xs, hl', ho, hDD, kC, WC, hmC⟩
        refine ⟨D, _, rfl, .inl ⟨sq_of hDD, fun t1 ht1 => ⟨sz1 (by simp), fun t2 ht2 => ?_⟩⟩⟩
        have Wt := WC.new (o := .tup (xs.map At.val)) ht1
        have kt : Kp [p, b] H' (upd H' t1 (.tup (xs.map At.val))) := Kp.new ht1
        exact kk (.call f xs) n _ _ (okR_call hf (by omega) ho) (((kB.trans kC).trans kt).trans (Kp.new ht2)) (Wt.new ht2).pail (Wt.new ht2).box (Wt.tup ht2 (.cons (.str "call") (.cons (dp_at f) (.cons (WC.tup ht1 (dpa_ats xs)) .nil))))
    -- an atom
    · refine ⟨_, rfl, sz1 (by simp), fun t ht => kk (.one "atom" one) n _ _ (okR_one (by unfold wOne; simp) o1) (k2.trans (Kp.new ht)) (W2.new ht).pail (W2.new ht).box (W2.tup ht (.cons (.str "atom") (.cons (dp_at one) .nil)))⟩
end
end K2

set_option maxHeartbeats 4000000
namespace PG
open PySem L2 Evl DL TL
inductive Sm where
  | lets (x : Str) (r : Rt)
  | says (a : At)
def Sm.enc : Sm → PyData
  | .lets x r => .tuple [.str "let", .str x, r.enc]
  | .says a => .tuple [.str "say", a.enc]
def wrap : List Sm → Bd → Bd
  | [], e => e
  | .lets x r :: ss, e => .lets x r (wrap ss e)
  | .says a :: ss, e => .says a (wrap ss e)
theorem wrap_encs : ∀ (ss : List Sm) (e : Bd), (wrap ss e).encs = ss.map Sm.enc ++ e.encs
  | [], e => rfl
  | .lets x r :: ss, e => by simp only [wrap, Bd.encs, wrap_encs ss e, List.map_cons, Sm.enc, List.cons_append]
  | .says a :: ss, e => by simp only [wrap, Bd.encs, wrap_encs ss e, List.map_cons, Sm.enc, List.cons_append]
theorem wrap_app : ∀ (ss ts : List Sm) (e : Bd), wrap (ss ++ ts) e = wrap ss (wrap ts e)
  | [], ts, e => rfl
  | .lets x r :: ss, ts, e => by simp only [List.cons_append, wrap, wrap_app ss ts e]
  | .says a :: ss, ts, e => by simp only [List.cons_append, wrap, wrap_app ss ts e]
/-- drawn statements: the scope and the box ahead, those behind -/
inductive okSs (dp : Nat) (sc : List Str) (bx : Nat) : List Sm → List Str → Nat → Prop where
  | nil : okSs dp sc bx [] sc bx
  | lets {ss : List Sm} {sc1 : List Str} {b1 b2 : Nat} {r : Rt} : okSs dp sc bx ss sc1 b1 → okR sc1 b1 dp r b2 → okSs dp sc bx (ss ++ [.lets (nN (b2 + 1)) r]) (sc1 ++ [nN (b2 + 1)]) (b2 + 1)
  | says {ss : List Sm} {sc1 : List Str} {b1 : Nat} {a : At} : okSs dp sc bx ss sc1 b1 → okA sc1 a → okSs dp sc bx (ss ++ [.says a]) sc1 b1
theorem okSs_wrap {dp mo : Nat} {sc : List Str} {bx : Nat} {ss : List Sm} {sc1 : List Str} {b1 : Nat} (h : okSs dp sc bx ss sc1 b1) : ∀ (st : Nat) (e : Bd) (bx' : Nat), okB sc1 b1 dp mo st e bx' → okB sc bx dp mo (st + ss.length) (wrap ss e) bx' := by
  induction h with
  | nil => intro st e bx' h; exact h
  | @lets ss sc1 b1 b2 r _ hr ih =>
    intro st e bx' h
    rw [wrap_app, List.length_append]
    have := ih (st + 1) _ bx' (okB_lets hr h)
    have e1 : st + (ss.length + [Sm.lets (nN (b2 + 1)) r].length) = st + 1 + ss.length := by simp only [List.length_singleton]; omega
    rw [e1]
    exact this
  | @says ss sc1 b1 a _ ha ih =>
    intro st e bx' h
    rw [wrap_app, List.length_append]
    have := ih (st + 1) _ bx' (okB_says ha h)
    have e1 : st + (ss.length + [Sm.says a].length) = st + 1 + ss.length := by simp only [List.length_singleton]; omega
    rw [e1]
    exact this
theorem if_two {c : Bool} {F : V → Prop} (h : ∀ e : Int, 0 ≤ e → e ≤ 1 → F (.int e)) : if c = true then F (.int 1) else F (.int 0) := by
  split
  · exact h 1 (by decide) (by decide)
  · exact h 0 (by decide) (by decide)
theorem mxR_le {dp : Nat} (h : dp ≤ 2) : mxR dp ≤ 195 := by
  rcases dp with _ | _ | _ | dp
  · simp [mxR]
  · simp [mxR, mxB]
  · simp [mxR, mxB]
  · omega
theorem mxB_le {dp mo : Nat} (h : dp ≤ 2) (h2 : mo ≤ 1) : mxB dp mo ≤ 2355 := by
  rcases dp with _ | _ | _ | dp <;> rcases mo with _ | _ | mo <;> first | omega | simp [mxB]
/-- bodies drawn one behind another -/
inductive chain (sc : List Str) (dp mo : Nat) (n : Nat) : List Bd → Nat → Prop where
  | nil : chain sc dp mo n [] n
  | snoc {bs : List Bd} {n1 n2 : Nat} {b : Bd} : chain sc dp mo n bs n1 → okB sc n1 dp mo 4 b n2 → chain sc dp mo n (bs ++ [b]) n2
theorem chain_inv {sc : List Str} {dp mo n n2 : Nat} {bs : List Bd} (h : chain sc dp mo n bs n2) : (bs = [] ∧ n2 = n) ∨ ∃ bs' n1 b, bs = bs' ++ [b] ∧ chain sc dp mo n bs' n1 ∧ okB sc n1 dp mo 4 b n2 := by
  cases h with
  | nil => exact .inl ⟨rfl, rfl⟩
  | snoc h1 h2 => exact .inr ⟨_, _, _, rfl, h1, h2⟩
theorem chain_two {sc : List Str} {dp mo n n2 : Nat} {bs : List Bd} (h : chain sc dp mo n bs n2) (hl : bs.length = 2) : ∃ b1 b2 nb, bs = [b1, b2] ∧ okB sc n dp mo 4 b1 nb ∧ okB sc nb dp mo 4 b2 n2 := by
  rcases chain_inv h with ⟨rfl, _⟩ | ⟨b', n1, b, rfl, h1, o2⟩
  · cases hl
  · rw [List.length_append, List.length_singleton] at hl
    rcases chain_inv h1 with ⟨rfl, _⟩ | ⟨b'', n0, b0, rfl, h0, o1⟩
    · cases hl
    · rw [List.length_append, List.length_singleton] at hl
      obtain rfl : b'' = [] := List.length_eq_zero_iff.mp (by omega)
      rcases chain_inv h0 with ⟨_, rfl⟩ | ⟨b3, _, _, e, _⟩
      · exact ⟨b0, b, n1, rfl, o1, o2⟩
      · simp at e
end PG
namespace K2
open PySem L2 Evl DL PG
section
variable {P : Program} {w : World} {K : PySem.W.Frag} {mg : Str → Option Value} {base : Heap}
theorem ok_body (T : Txt K mg) {k dp mo : Nat} (hk : 2 ≤ k) (DR : DefOk P w K mg base CX0 false k "_law_drawn_right" s_law_drawn_right ["pail", "box", "scope", "deep"] (spRight K dp))
    (hB : ∀ mq, mo = mq + 1 → DefOk P w K mg base CX0 false k "_law_drawn_body" s_law_drawn_body ["pail", "box", "scope", "deep", "most"] (spBody K dp mq)) :
    DefOk P w K mg base CX0 false (k + 1) "_law_drawn_body" s_law_drawn_body ["pail", "box", "scope", "deep", "most"] (spBody K dp mo) := by
  have hB' : ∃ spB : Sp, DefOk P w K mg base CX0 false k "_law_drawn_body" s_law_drawn_body ["pail", "box", "scope", "deep", "most"] spB ∧ ∀ mq, mo = mq + 1 → spB = spBody K dp mq := by
    cases mo with
    | zero =>
      obtain ⟨f, fd, F, hm⟩ := T.d_law_drawn_body.ex
      exact ⟨fun _ _ _ _ => False, ⟨f, fd, F, hm, ⟨fun _ _ _ _ h => h.elim, fun _ _ _ _ _ _ _ _ _ _ _ _ _ h => h.elim⟩⟩, fun dq h => nomatch h⟩
    | succ mq => exact ⟨_, hB mq rfl, fun dr h => by cases h; rfl⟩
  obtain ⟨spB, DB, hspB⟩ := hB'
  refine T.d_law_drawn_body.ok scs_law_drawn_body (fun vs H Q E h => ?_) (fun f cdv A outer s0 H vs Q E hr h => ?_)
  · obtain ⟨p, b, s, scs, n, rfl, _⟩ := h
    rfl
  · obtain ⟨p, b, s, scs, n, rfl, W, hdp, hmo, hsc, hn, kk⟩ := h
    have nd := scs_law_drawn_body.nd
    have hr1 : Room 1 _ := hr.mono (by omega)
    have hr2 : Room 2 _ := hr.mono hk
    refine ⟨_, pss_cons (ps_set (i := 5) nd rfl (.inl rfl) (pe_lst pa_nil))
      (pss_cut (ps_for PassesOwn.never rfl (pi_range1 (by rfl) T.b_range (pa_cons (pe_op op_add (pe_callD (ok_deal T) hr1 (.inl rfl) bd_deal pass0 (pa_cons (pv 0) (pa_cons pe_int pa_nil))) (pe_ifExp (pt_cmpR op_gt (pv 4) pe_int (nomark _)) pe_int pe_int)) pa_nil)) (pg_name (i := 6) nd rfl (.inl rfl))
        (pss_one (ps_if (pt_cmpR op_eq (pe_callD (ok_deal T) hr1 (.inl rfl) bd_deal pass0 (pa_cons (pv 0) (pa_cons pe_int pa_nil))) pe_int (nomark _))
          (pss_one (ps_expr (pe_bm PySem.F.plainAttrs_list PySem.F.slot_list_append PySem.F.type_list_append mt_append (pv 5) (pa_cons (pe_tup (pa_cons pe_str (pa_cons (pe_callD (ok_any T) hr2 (.inl rfl) bd_any pass0 (pa_cons (pv 0) (pa_cons (pe_op op_cat (pv 2) (pe_lst (pa_cons pe_int pa_nil))) pa_nil))) pa_nil))) pa_nil))))
          (pss_cons (ps_set (i := 7) nd rfl (.inl rfl) (pe_callD DR hr (.inl rfl) bd_right pass0 (pa_cons (pv 0) (pa_cons (pv 1) (pa_cons (pv 2) (pa_cons (pv 3) pa_nil))))))
          (pss_cons (ps_asg (pe_op op_add (pe_ix ix_list (pv 1) pe_int (fun _ _ => rfl)) pe_int) (pg_sub (pv 1) pe_int set_list))
          (pss_cons (ps_set (i := 8) nd rfl (.inl rfl) (pe_op op_add_str pe_str (pe_callTy call_str_int (by rfl) T.b_str (by decide +kernel) (pa_cons (pe_ix ix_list (pv 1) pe_int (fun _ _ => rfl)) pa_nil))))
          (pss_cons (ps_expr (pe_bm PySem.F.plainAttrs_list PySem.F.slot_list_append PySem.F.type_list_append mt_append (pv 5) (pa_cons (pe_tup (pa_cons pe_str (pa_cons (pv 8) (pa_cons (pv 7) pa_nil)))) pa_nil)))
          (pss_one (ps_set (i := 2) nd rfl (.inr rfl) (pe_op op_cat (pv 2) (pe_lst (pa_cons (pv 8) pa_nil)))))))))))) 
      (pss_cut (ps_par (i := 9) (j := 10) (by rfl) nd rfl rfl (by decide) rfl rfl (pa_cons (pe_callD (ok_deal T) hr1 (.inl rfl) bd_deal pass0 (pa_cons (pv 0) (pa_cons pe_int pa_nil))) (pa_cons (pe_op op_cat (pv 2) (pe_lst (pa_cons pe_int pa_nil))) pa_nil)) (by rfl))
      (pss_cut (ps_if (PW.pt (pw_and (pt_cmpR op_lt (pv 9) pe_int (nomark _)) (pw_and1 (pt_cmpR op_gt (pv 4) pe_int (nomark _)))))
        (pss_cons (ps_setLc (i := 11) (own := [("k", 13)]) (g := gName 13) (tt := tYes) (by rfl) nd rfl rfl (sw_true rfl rfl rfl (by decide +kernel)) (pi_range1 (by rfl) T.b_range (pa_cons pe_int pa_nil))
            (blkOk_by (N := ["pail", "box", "scope", "deep", "most", "found", "turn", "right", "name", "sort", "some", "arms", "called", "k"]) (sc := defScope s_law_drawn_body) (by decide +kernel)) (fun _ _ _ _ _ => pg_name (i := 13) nd rfl (Or.inl rfl)) (fun _ _ _ _ _ => pts_nil)
            (fun _ _ _ _ _ => pe_callD DB hr (.inl rfl) bd_body pass0 (pa_cons (pv 0) (pa_cons (pv 1) (pa_cons (pv 2) (pa_cons (pv 3) (pa_cons (pe_op op_sub (pv 4) pe_int) pa_nil)))))))
        (pss_one (ps_ret (pe_op op_catA (pe_callTy call_tuple_of (by rfl) T.b_tuple (by decide +kernel) (pa_cons (pv 5) pa_nil)) (pe_tup (pa_cons (pe_tup (pa_cons pe_str (pa_cons (pe_callD (ok_any T) hr2 (.inl rfl) bd_any pass0 (pa_cons (pv 0) (pa_cons (pv 10) pa_nil))) (pa_cons (pe_ix ix_list (pv 11) pe_int (fun _ _ => rfl)) (pa_cons (pe_ix ix_list (pv 11) pe_int (fun _ _ => rfl)) pa_nil))))) pa_nil)))))) pss_nil)
      (pss_cons (ps_if (pt_cmpR op_eq (pv 9) pe_int (nomark _))
        (pss_cons (ps_set (i := 12) nd rfl (.inl rfl) (pe_callD (ok_any T) hr2 (.inl rfl) bd_any pass0 (pa_cons (pv 0) (pa_cons (pe_op op_cat (pe_lst (pa_cons pe_str (pa_cons pe_str pa_nil))) (pv 2)) pa_nil))))
        (pss_one (ps_ret (pe_op op_catA (pe_callTy call_tuple_of (by rfl) T.b_tuple (by decide +kernel) (pa_cons (pv 5) pa_nil)) (pe_tup (pa_cons (pe_tup (pa_cons pe_str (pa_cons (pv 12) (pa_cons (pe_tup (pa_cons (pe_callD (ok_any T) hr2 (.inl rfl) bd_any pass0 (pa_cons (pv 0) (pa_cons (pv 10) pa_nil))) pa_nil)) pa_nil)))) pa_nil)))))) pss_nil)
      (pss_one (ps_ret (pe_op op_catA (pe_callTy call_tuple_of (by rfl) T.b_tuple (by decide +kernel) (pa_cons (pv 5) pa_nil)) (pe_tup (pa_cons (pe_tup (pa_cons pe_str (pa_cons (pe_callD (ok_any T) hr2 (.inl rfl) bd_any pass0 (pa_cons (pv 0) (pa_cons (pv 10) pa_nil))) pa_nil))) pa_nil))))))))), ?_⟩
    have fin : ∀ (ss : List Sm) (scs' : List Str) (n' n2 : Nat) (e : Bd) (de : PyData) (H1 : Hp) (vs : List V) (v : V) (s' t1 t2 : Addr), ss.length ≤ 4 → okSs dp scs n ss scs' n' → okB scs' n' dp mo (4 - ss.length) e n2 → e.encs = [de] → Kp [p, b] H H1 → DW H1 p b s' scs' n2 →
        H1 t1 = some (.tup vs) → H1 t2 = some (.tup [v]) → DpAll K (tp H1) vs (ss.map Sm.enc) → Dp K (tp H1) v de → rCatA K (.ref t1) (.ref t2) H1 Q := by
      intro ss scs' n' n2 e de H1 vs v s' t1 t2 hl hss he hde k1 W1 h1 h2 hvs hv
      have hok : okB scs n dp mo 4 (wrap ss e) n2 := by
        have := okSs_wrap hss (4 - ss.length) e n2 he
        rwa [show 4 - ss.length + ss.length = 4 by omega] at this
      have lv : vs.length = ss.length := by rw [dpa_len hvs, List.length_map]
      refine ⟨t1, t2, vs, [v], rfl, rfl, st_of h1, st_of h2, sz1 (by rw [lv]; simp; omega), fun hx => ?_, (fun _ hy => nomatch hy), fun _ _ p3 hp3 => ?_⟩
      · have e0 : ss = [] := by
          cases ss with
          | nil => rfl
          | cons a r => rw [hx] at lv; simp at lv
        subst e0
        refine kk (wrap [] e) n2 _ _ hok k1 W1.pail W1.box ?_
        rw [wrap_encs, hde]
        exact .tup (st_of (tp_of h2)) (dpa_one hv)
      · refine kk (wrap ss e) n2 _ _ hok (k1.trans (Kp.new hp3)) (W1.new hp3).pail (W1.new hp3).box ?_
        rw [wrap_encs, hde]
        exact .tup (st_of (tp_of upd_same)) (dpa_ex (Tp.new hp3).ex (dpa_app hvs (dpa_one hv)))
    refine ⟨sz1 (by simp), fun q hq => ?_⟩
    have Wq := W.new (o := .lst []) hq
    have nq := W.nep hq
    -- the statements
    refine ⟨fun σ' H' => ∃ (ss : List Sm) (scs' : List Str) (n' : Nat) (sA : Addr) (vs : List V) (y6 y7 y8 : Option V), σ' = [some (.ref p), some (.ref b), some (.ref sA), some (.int (dp : Int)), some (.int (mo : Int)), some (.ref q), y6, y7, y8, none, none, none, none, none] ∧
      ss.length ≤ 4 ∧ okSs dp scs n ss scs' n' ∧ Kp [p, b] H H' ∧ DW H' p b sA scs' n' ∧ H' q = some (.lst vs) ∧ DpAll K (tp H') vs (ss.map Sm.enc) ∧ scs'.length ≤ scs.length + 4 ∧ n' ≤ n + 4 * (3 * mxR dp + 3) ∧ q ≠ sA, ?_, ?_⟩
    · refine ⟨_, rfl, p, 4, rfl, Wq.pail, by decide, by decide, fun c H1 c0 c1 k1 P1 => ⟨_, rfl, _, _, rfl, rfl, _, rfl, if_two (F := fun v => tC v _ _ _) fun e e0 e1 => ⟨_, _, rfl, rfl, _, rfl, by omega, by omega, ?_⟩⟩⟩
      have W1 := Wq.keep k1 P1
      have hq1 : H1 q = some (.lst []) := k1 q _ (by simpa using nq.1) upd_same
      refine for_range (lo := 0) (n := (c + e).toNat) (fun i σ' H' => ∃ (ss : List Sm) (scs' : List Str) (n' : Nat) (sA : Addr) (vs : List V) (y6 y7 y8 : Option V), σ' = [some (.ref p), some (.ref b), some (.ref sA), some (.int (dp : Int)), some (.int (mo : Int)), some (.ref q), y6, y7, y8, none, none, none, none, none] ∧
        ss.length = i ∧ okSs dp scs n ss scs' n' ∧ Kp [p, b] H H' ∧ DW H' p b sA scs' n' ∧ H' q = some (.lst vs) ∧ DpAll K (tp H') vs (ss.map Sm.enc) ∧ scs'.length ≤ scs.length + i ∧ n' ≤ n + i * (3 * mxR dp + 3) ∧ q ≠ sA)
        ⟨[], scs, n, s, [], none, none, none, rfl, rfl, .nil, (Kp.new hq).trans (k1.mono (by simp)), W1, hq1, .nil, by omega, by omega, nq.2.2.1⟩ ?_ ?_
      · rintro i σ' H' hi ⟨ss, scs', n', sA, vs, y6, y7, y8, rfl, hl, hss, kH, WH, hqH, hvs, hls, hln, nqs⟩
        have hi4 : i < 4 := by omega
        have lv : vs.length = i := by rw [dpa_len hvs, List.length_map, hl]
        refine ⟨_, rfl, p, 9, rfl, WH.pail, by decide, by decide, fun d H2 d0 d1 k2 P2 => ⟨rfl, _, rfl, ite2 (fun _ => ?_) (fun _ => ?_)⟩⟩
        -- say
        · have W2 := WH.keep k2 P2
          have T2 := k2.tp (by intro a ha; obtain ⟨x, y, z, hp⟩ := WH.pail; exact ⟨_, (List.mem_singleton.mp ha) ▸ hp⟩)
          have hq2 : H2 q = some (.lst vs) := k2 q _ (by simpa using nq.1) hqH
          refine ⟨_, rfl, .inl ⟨rfl, _, sq_of hq2⟩, _, rfl, _, rfl, sz1 (by simp), fun l hl2 => ⟨sA, l, _, _, rfl, rfl, (W2.new hl2).sc, upd_same, sz1 (by simp; omega), fun l3 hl3 => ?_⟩⟩
          have W3 := W2.new (o := .lst [.int 7]) hl2
          have W4 := W3.new (o := .lst (scs'.map V.str ++ [.int 7])) hl3
          refine ⟨p, l3, _, rfl, W4.pail, (W3.nep hl3).1, .inl (sq_of upd_same), by simp, by simp; omega, fun j x H5 hx k5 P5 => ⟨sz1 (by simp), fun t ht => ?_⟩⟩
          obtain ⟨a, oa, rfl⟩ := any_atom (ns := [7]) (by decide) hx
          have W5 := W4.keep k5 P5
          have q5 : H5 q = some (.lst vs) := k5 q _ (by simpa using nq.1) (by rw [upd_ne (ne_of_none (by rw [upd_ne (ne_of_none hq2 hl2)]; exact hq2) hl3), upd_ne (ne_of_none hq2 hl2)]; exact hq2)
          have T5 : Tp H' H5 := T2.trans ((Tp.new hl2).trans ((Tp.new hl3).trans (k5.tp (by intro a ha; obtain ⟨x, y, z, hp⟩ := W4.pail; exact ⟨_, (List.mem_singleton.mp ha) ▸ hp⟩))))
          have K5 : Kp [p, b] H H5 := ((kH.trans (k2.mono (by simp))).trans ((Kp.new hl2).trans (Kp.new hl3))).trans (k5.mono (by simp))
          have qt : (upd H5 t (.tup [.str "say", a.val])) q = some (.lst vs) := by rw [upd_ne (ne_of_none q5 ht)]; exact q5
          have W6 := W5.new (o := .tup [.str "say", a.val]) ht
          refine ⟨q, vs, _, rfl, rfl, qt, by rw [lv]; exact Nat.lt_of_lt_of_le hi4 (by decide), ?_⟩
          refine ⟨ss ++ [.says a], scs', n', sA, vs ++ [.ref t], _, _, _, rfl, by simp [hl], .says hss oa, (K5.trans (Kp.new ht)).mut hq, W6.mut nq.1 nq.2.1 nqs, upd_same, ?_, by omega, Nat.le_trans hln (Nat.add_le_add_left (Nat.mul_le_mul_right _ (Nat.le_succ i)) _), nqs⟩
          have TT : Tp H5 (upd (upd H5 t (.tup [.str "say", a.val])) q (.lst (vs ++ [.ref t]))) := (Tp.new ht).trans (Tp.lst qt)
          rw [List.map_append]
          refine dpa_app (dpa_ex (T5.trans TT).ex hvs) (dpa_one (.tup (st_of (tp_of ?_)) (.cons (.str "say") (.cons (dp_at a) .nil))))
          exact (Tp.lst qt) t _ upd_same
        -- let
        · have W2 := WH.keep k2 P2
          have T2 := k2.tp (by intro a ha; obtain ⟨x, y, z, hp⟩ := WH.pail; exact ⟨_, (List.mem_singleton.mp ha) ▸ hp⟩)
          have hq2 : H2 q = some (.lst vs) := k2 q _ (by simpa using nq.1) hqH
          have hmx := mxR_le hdp
          have hni : n' ≤ n + 3 * 600 := Nat.le_trans hln (Nat.add_le_add_left (Nat.mul_le_mul (by omega) (by omega)) _)
          refine ⟨_, rfl, _, rfl, _, rfl, _, rfl, p, b, sA, scs', n', rfl, W2, hdp, by omega, by unfold LB at hn; unfold LR; omega, fun r n2 v H3 hok k3 P3 b3 hv => ?_⟩
          have W3 := W2.step k3 P3 b3
          have T3 := W2.tpk k3
          have hrs := okR_size hok
          have hrl := okR_le hok
          have q3 : H3 q = some (.lst vs) := k3 q _ nq.2.2.2 hq2
          refine ⟨_, rfl, b, _, 0, _, rfl, rfl, sq_of b3, rfl, _, _, rfl, rfl, _, rfl, b, _, 0, 0, rfl, rfl, b3, rfl, ?_⟩
          have W4 : DW (upd H3 b (.lst [.int ((n2 + 1 : Nat) : Int)])) p b sA scs' (n2 + 1) := W3.boxed
          have T4 : Tp H3 (upd H3 b (.lst [.int ((n2 + 1 : Nat) : Int)])) := Tp.lst b3
          have q4 : (upd H3 b (.lst [.int ((n2 + 1 : Nat) : Int)])) q = some (.lst vs) := by rw [upd_ne nq.2.1]; exact q3
          have hsm : n2 + 1 < 10000000000 := by unfold LB at hn; omega
          refine ⟨_, rfl, b, _, 0, _, rfl, rfl, sq_of W4.box, rfl, _, rfl, num_log hsm, _, _, rfl, rfl, sz1 ?_, ?_⟩
          · have := num_len hsm
            show (Str.ofString "n").length + _ ≤ _
            have e : (Str.ofString "n").length = 1 := rfl
            omega
          refine ⟨_, rfl, .inl ⟨rfl, _, sq_of q4⟩, _, rfl, _, rfl, sz1 (by simp), fun t ht => ⟨q, vs, _, rfl, rfl, by rw [upd_ne (ne_of_none q4 ht)]; exact q4, by rw [lv]; exact Nat.lt_of_lt_of_le hi4 (by decide), ?_⟩⟩
          have qt : (upd (upd H3 b (.lst [.int ((n2 + 1 : Nat) : Int)])) t (.tup [.str "let", .str (nN (n2 + 1)), v])) q = some (.lst vs) := by rw [upd_ne (ne_of_none q4 ht)]; exact q4
          have W5 := (W4.new (o := .tup [.str "let", .str (nN (n2 + 1)), v]) ht).mut (o := .lst (vs ++ [.ref t])) nq.1 nq.2.1 nqs
          have T5 : Tp (upd H3 b (.lst [.int ((n2 + 1 : Nat) : Int)])) (upd (upd (upd H3 b (.lst [.int ((n2 + 1 : Nat) : Int)])) t (.tup [.str "let", .str (nN (n2 + 1)), v])) q (.lst (vs ++ [.ref t]))) := (Tp.new ht).trans (Tp.lst qt)
          refine ⟨_, rfl, _, rfl, sz1 (by simp), fun l hl5 => ⟨sA, l, _, _, rfl, rfl, (W5.new hl5).sc, upd_same, sz1 (by simp; omega), fun s2 hs2 => ?_⟩⟩
          have W6 := W5.new (o := .lst [.str (nN (n2 + 1))]) hl5
          have n6 := W6.nep hs2
          have q6 : (upd (upd (upd H3 b (.lst [.int ((n2 + 1 : Nat) : Int)])) t (.tup [.str "let", .str (nN (n2 + 1)), v])) q (.lst (vs ++ [.ref t]))) q = some (.lst (vs ++ [.ref t])) := upd_same
          have q7 := Ex.new hl5 (o := .lst [.str (nN (n2 + 1))]) q _ q6
          have q8 := Ex.new hs2 (o := .lst (scs'.map V.str ++ [.str (nN (n2 + 1))])) q _ q7
          have K4 : Kp [p, b] H (upd H3 b (.lst [.int ((n2 + 1 : Nat) : Int)])) := ((kH.trans (k2.mono (by simp))).trans k3).upd (by simp)
          have hl6 : (upd (upd (upd H3 b (.lst [.int ((n2 + 1 : Nat) : Int)])) t (.tup [.str "let", .str (nN (n2 + 1)), v])) q (.lst (vs ++ [.ref t]))) l = none := hl5
          have hs6 : (upd (upd (upd (upd H3 b (.lst [.int ((n2 + 1 : Nat) : Int)])) t (.tup [.str "let", .str (nN (n2 + 1)), v])) q (.lst (vs ++ [.ref t]))) l (.lst [.str (nN (n2 + 1))])) s2 = none := hs2
          have K6 := ((((K4.trans (Kp.new ht (o := .tup [.str "let", .str (nN (n2 + 1)), v]))).mut hq (o := .lst (vs ++ [.ref t]))).trans (Kp.new hl6 (o := .lst [.str (nN (n2 + 1))]))).trans (Kp.new hs6 (o := .lst (scs'.map V.str ++ [.str (nN (n2 + 1))]))))
          have T6 := T5.trans ((Tp.new hl6 (o := .lst [.str (nN (n2 + 1))])).trans (Tp.new hs6 (o := .lst (scs'.map V.str ++ [.str (nN (n2 + 1))]))))
          have t6 := ((Tp.lst qt (o := .lst (vs ++ [.ref t]))).trans ((Tp.new hl6 (o := .lst [.str (nN (n2 + 1))])).trans (Tp.new hs6 (o := .lst (scs'.map V.str ++ [.str (nN (n2 + 1))]))))) t _ upd_same
          refine ⟨ss ++ [.lets (nN (n2 + 1)) r], scs' ++ [nN (n2 + 1)], n2 + 1, s2, vs ++ [V.ref t], _, _, _, rfl, by simp [hl], .lets hss hok, K6, (W6.new hs2).other (by rw [upd_same, List.map_append]; rfl) n6.1 n6.2.1, q8, ?_, by simp; omega, ?_, ?_⟩
          · rw [List.map_append]
            exact dpa_app (dpa_ex (T2.trans (T3.trans (T4.trans T6))).ex hvs) (dpa_one (.tup (st_of (tp_of t6)) (.cons (.str "let") (.cons (.str _) (.cons (dp_ex (T4.trans T6).ex hv) .nil)))))
          · rw [Nat.succ_mul]
            omega
          · exact ne_of_none q7 hs2
      · rintro σ' H' ⟨ss, scs', n', sA, vs, y6, y7, y8, rfl, hl, hss, kH, WH, hqH, hvs, hls, hln, nqs⟩
        exact ⟨ss, scs', n', sA, vs, y6, y7, y8, rfl, by omega, hss, kH, WH, hqH, hvs, by omega, Nat.le_trans hln (Nat.add_le_add_left (Nat.mul_le_mul_right _ (by omega)) _), nqs⟩
    rintro σ' H' ⟨ss, scs', n', sA, vs, y6, y7, y8, rfl, hl, hss, kH, WH, hqH, hvs, hls, hln, nqs⟩
    -- sort, some
    refine ⟨fun σ' H2 => ∃ (sort : Int) (m : Addr), σ' = [some (.ref p), some (.ref b), some (.ref sA), some (.int (dp : Int)), some (.int (mo : Int)), some (.ref q), y6, y7, y8, some (.int sort), some (.ref m), none, none, none] ∧
      Kp [p, b] H H2 ∧ DW H2 p b sA scs' n' ∧ H2 q = some (.lst vs) ∧ DpAll K (tp H2) vs (ss.map Sm.enc) ∧ H2 m = some (.lst (scs'.map V.str ++ ([2] : List Int).map V.int)) ∧ m ≠ p ∧ m ≠ b, ?_, ?_⟩
    · refine ⟨_, rfl, p, 6, rfl, WH.pail, by decide, by decide, fun sort H1 _ _ k1 P1 => ?_⟩
      have W1 := WH.keep k1 P1
      have T1 := WH.tpk (k1.mono (qs := [p, b]) (by simp))
      have q1 := k1 q _ (by simpa using nq.1) hqH
      refine ⟨_, rfl, sz1 (by simp), fun l hl1 => ⟨sA, l, _, _, rfl, rfl, (W1.new hl1).sc, upd_same, sz1 (by simp; omega), fun m hm => ⟨_, _, rfl, sort, m, rfl, ?_⟩⟩⟩
      have nm := (W1.new (o := .lst [.int 2]) hl1).nep hm
      exact ⟨((kH.trans (k1.mono (by simp))).trans (Kp.new hl1)).trans (Kp.new hm), (W1.new hl1).new hm, Ex.new hm q _ (Ex.new hl1 q _ q1), dpa_ex (T1.trans ((Tp.new hl1).trans (Tp.new hm))).ex hvs, upd_same, nm.1, nm.2.1⟩
    clear kH WH hqH hvs
    rintro σ' H2 ⟨sort, m, rfl, kH, WH, hqH, hvs, hm, mp, mb⟩
    have hlen : (scs'.map V.str ++ ([2] : List Int).map V.int).length < 1000000 := by simp; omega
    have hpos : 0 < (scs'.map V.str ++ ([2] : List Int).map V.int).length := by simp
    have hns : ∀ n ∈ ([2] : List Int), 0 ≤ n ∧ n ≤ 7 := by decide
    -- an if
    refine ⟨fun σ' H3 => σ' = [some (.ref p), some (.ref b), some (.ref sA), some (.int (dp : Int)), some (.int (mo : Int)), some (.ref q), y6, y7, y8, some (.int sort), some (.ref m), none, none, none] ∧ H3 = H2, ?_, ?_⟩
    · refine ⟨_, rfl, _, _, rfl, rfl, _, rfl, ite2 (fun _ => ⟨_, rfl, _, _, rfl, rfl, _, rfl, ite2 (fun hd => ?_) (fun _ => ⟨rfl, rfl⟩)⟩) (fun _ => ⟨rfl, rfl⟩)⟩
      have hd0 : 0 < mo := by have : (0 : Int) < (mo : Int) := of_decide_eq_true hd; omega
      obtain ⟨mq, rfl⟩ : ∃ mq, mo = mq + 1 := ⟨mo - 1, by omega⟩
      obtain rfl := hspB mq rfl
      have emq : (((mq + 1 : Nat) : Int) - 1) = (mq : Int) := by omega
      have hmx := mxR_le hdp
      have hni : n' ≤ n + 4 * 600 := Nat.le_trans hln (Nat.add_le_add_left (Nat.mul_le_mul (by omega) (by omega)) _)
      refine ⟨2, rfl, by decide, by decide, fun D hD => ?_⟩
      have nD := WH.nep hD
      have qD : q ≠ D := ne_of_none hqH hD
      have mD : m ≠ D := ne_of_none hm hD
      -- both bodies
      have turn : ∀ (n1 : Nat) (H3 : Hp) (xs : List V) (Qt : V → Hp → Prop), n1 ≤ n + 30000 → DW H3 p b sA scs' n1 → H3 D = some (.lst xs) → (∀ b1 n2 v H4, okB scs' n1 dp mq 4 b1 n2 → Kp [p, b] H3 H4 → DW H4 p b sA scs' n2 → Dp K (tp H4) v (.tuple b1.encs) → n2 ≤ n1 + 9000 → Qt v H4) →
          spBody K dp mq [.ref p, .ref b, .ref sA, .int (dp : Int), .int (((mq + 1 : Nat) : Int) - 1)] H3 Qt E0 := by
        intro n1 H3 xs Qt hn1 W3 hD3 hQ
        rw [emq]
        refine ⟨p, b, sA, scs', n1, rfl, W3, hdp, by omega, by omega, by unfold LB at hn ⊢; omega, fun r n2 v H4 hok k4 P4 b4 hv => hQ r n2 v H4 hok k4 (W3.step k4 P4 b4) hv ?_⟩
        have h1 := okB_size hok
        have h2 := okB_le hok
        have h3 : mxB dp mq ≤ 2355 := mxB_le hdp (by omega)
        omega
      refine lc_range (lo := 0) (n := ((2 : Int)).toNat) (fun i H3 => ∃ (bs : List Bd) (n2 : Nat) (xs : List V), bs.length = i ∧ chain scs' dp mq n' bs n2 ∧ n2 ≤ n' + 9000 * i ∧ H3 D = some (.lst xs) ∧ DpAll K (tp H3) xs (bs.map fun b => .tuple b.encs) ∧ Kp [p, b] H2 H3 ∧ DW H3 p b sA scs' n2)
        ⟨[], n', [], rfl, .nil, by omega, upd_same, .nil, Kp.new hD, WH.new hD⟩ ?_ ?_
      · rintro i H3 hi ⟨bs, n2, xs, hbl, hch, hn2, hD3, hxs, k3, W3⟩
        have hi2 : i < 2 := hi
        refine ⟨rfl, lc_yes ⟨_, rfl, _, rfl, _, rfl, _, rfl, _, rfl, _, _, rfl, rfl, turn n2 H3 xs _ (by omega) W3 hD3 fun b1 n3 v H4 hok k4 W4 hv hn3 => ?_⟩⟩
        have D4 := k4 D _ nD.2.2.2 hD3
        have T4 := W3.tpk k4
        refine ⟨xs, D4, ?_, bs ++ [b1], n3, xs ++ [v], by simp [hbl], .snoc hch hok, by omega, upd_same, ?_, (k3.trans k4).mut hD, W4.mut nD.1 nD.2.1 nD.2.2.1⟩
        · rw [dpa_len hxs, List.length_map, hbl]
          exact Nat.lt_of_lt_of_le hi2 (by decide)
        · rw [List.map_append]
          exact dpa_app (dpa_ex (T4.trans (Tp.lst D4)).ex hxs) (dpa_one (dp_ex (Tp.lst D4).ex hv))
      · rintro H3 ⟨bs, n2, xs, hbl, hch, hn2, hD3, hxs, k3, W3⟩
        obtain ⟨b1, b2, nb, rfl, ho1, ho2⟩ := chain_two hch hbl
        obtain ⟨v1, v2, rfl, hv1, hv2⟩ : ∃ v1 v2, xs = [v1, v2] ∧ Dp K (tp H3) v1 (.tuple b1.encs) ∧ Dp K (tp H3) v2 (.tuple b2.encs) := by
          cases hxs with
          | cons h1 r => cases r with
            | cons h2 r => cases r with
              | nil => exact ⟨_, _, rfl, h1, h2⟩
        have T3 := WH.tpk k3
        have q3 := k3 q _ nq.2.2.2 hqH
        have m3 := k3 m _ (by simp [mp, mb]) hm
        refine ⟨_, rfl, q, vs, rfl, .inl ⟨sq_of q3, fun t1 ht1 => ?_⟩⟩
        have W4 := W3.new (o := .tup vs) ht1
        have m4 := Ex.new ht1 (o := .tup vs) m _ m3
        have D4 := Ex.new ht1 (o := .tup vs) D _ hD3
        refine ⟨_, rfl, _, rfl, p, m, _, rfl, W4.pail, mp, .inl (sq_of m4), hpos, hlen, fun i x H5 hx k5 P5 => ?_⟩
        obtain ⟨a, oa, rfl⟩ := any_atom hns hx
        have W5 := W4.keep k5 P5
        have T5 := W4.tpk (k5.mono (qs := [p, b]) (by simp))
        have D5 := k5 D _ (by simpa using nD.1) D4
        refine ⟨_, rfl, D, _, 0, _, rfl, rfl, sq_of D5, rfl, _, rfl, D, _, 1, _, rfl, rfl, sq_of D5, rfl, sz1 (by simp), fun t3 ht3 => ⟨sz1 (by simp), fun t2 ht2 => ?_⟩⟩
        have W6 := (W5.new (o := .tup [.str "if", a.val, v1, v2]) ht3).new (o := .tup [.ref t3]) ht2
        have TA : Tp H3 H5 := (Tp.new ht1).trans T5
        have TB : Tp H5 (upd (upd H5 t3 (.tup [.str "if", a.val, v1, v2])) t2 (.tup [.ref t3])) := (Tp.new ht3).trans (Tp.new ht2)
        refine fin ss scs' n' n2 (.cond a b1 b2) _ _ vs _ sA t1 t2 hl hss (okB_cond oa ho1 ho2) (by rw [Bd.encs]) (((((kH.trans k3).trans (Kp.new ht1)).trans (k5.mono (by simp))).trans (Kp.new ht3)).trans (Kp.new ht2)) W6 (TB t1 _ (T5 t1 _ upd_same)) upd_same
          (dpa_ex (T3.trans (TA.trans TB)).ex hvs) (.tup (st_of (tp_of ((Tp.new ht2) t3 _ upd_same))) (.cons (.str "if") (.cons (dp_at a) (.cons (dp_ex (TA.trans TB).ex hv1) (.cons (dp_ex (TA.trans TB).ex hv2) .nil)))))
    rintro σ' H3 ⟨rfl, rfl⟩
    -- a tail
    refine ⟨_, rfl, rfl, _, rfl, ite2 (fun _ => ?_) (fun _ => ?_)⟩
    · refine ⟨_, rfl, sz1 (by simp), fun l hl1 => ⟨_, rfl, l, sA, _, _, rfl, rfl, upd_same, (WH.new hl1).sc, sz1 (by simp; omega), fun l2 hl2 => ?_⟩⟩
      have Wl := WH.new (o := .lst [.str "g", .str "h"]) hl1
      have W3 := Wl.new (o := .lst ([.str "g", .str "h"] ++ scs'.map V.str)) hl2
      refine ⟨p, l2, _, rfl, W3.pail, (Wl.nep hl2).1, .inl (sq_of upd_same), by simp, by simp; omega, fun i x H4 hx k4 P4 => ?_⟩
      have W4 := W3.keep k4 P4
      obtain ⟨f, hf, rfl⟩ : ∃ f : At, okF scs' f ∧ x = f.val := by
        obtain ⟨y, hy, rfl⟩ := any_str (ws := (["g", "h"] : List Str) ++ scs') (by rw [List.map_append]; exact hx)
        refine ⟨.nm y, ?_, rfl⟩
        rcases List.mem_append.mp hy with h | h
        · rcases List.mem_cons.mp h with h | h
          · exact .inl h
          · exact .inr (.inl (by simpa using h))
        · exact .inr (.inr h)
      have T4 : Tp H3 H4 := ((Tp.new hl1).trans (Tp.new hl2)).trans (W3.tpk (k4.mono (qs := [p, b]) (by simp)))
      have K4 : Kp [p, b] H H4 := ((kH.trans (Kp.new hl1)).trans (Kp.new hl2)).trans (k4.mono (by simp))
      have q4 := k4 q _ (by simpa using nq.1) (Ex.new hl2 q _ (Ex.new hl1 q _ hqH))
      have m4 := k4 m _ (by simpa using mp) (Ex.new hl2 m _ (Ex.new hl1 m _ hm))
      refine ⟨_, rfl, q, vs, rfl, .inl ⟨sq_of q4, fun t1 ht1 => ⟨_, rfl, _, rfl, _, rfl, p, m, _, rfl, (W4.new ht1).pail, mp, .inl (sq_of (Ex.new ht1 m _ m4)), hpos, hlen, fun j y H5 hy k5 P5 => ⟨sz1 (by simp), fun t4 ht4 => ⟨sz1 (by simp), fun t3 ht3 => ⟨sz1 (by simp), fun t2 ht2 => ?_⟩⟩⟩⟩⟩⟩
      obtain ⟨a, oa, rfl⟩ := any_atom hns hy
      have W5 := (W4.new (o := .tup vs) ht1).keep k5 P5
      have T5 : Tp H4 H5 := (Tp.new ht1).trans ((W4.new (o := .tup vs) ht1).tpk (k5.mono (qs := [p, b]) (by simp)))
      have W6 := ((W5.new (o := .tup [a.val]) ht4).new (o := .tup [.str "tail", f.val, .ref t4]) ht3).new (o := .tup [.ref t3]) ht2
      have TB := ((Tp.new ht4 (o := .tup [a.val])).trans (Tp.new ht3 (o := .tup [.str "tail", f.val, .ref t4]))).trans (Tp.new ht2 (o := .tup [.ref t3]))
      have h1 := k5 t1 _ (by simpa using (W4.nep ht1).1) upd_same
      have h3 := (Tp.new ht2 (o := .tup [.ref t3])) t3 _ upd_same
      have h4 := (Tp.new ht2 (o := .tup [.ref t3])) t4 _ ((Tp.new ht3 (o := .tup [.str "tail", f.val, .ref t4])) t4 _ upd_same)
      refine fin ss scs' n' n' (.tail f [a]) _ _ vs _ sA t1 t2 hl hss (okB_tail hf oa) (by rw [Bd.encs]; rfl) (((((K4.trans (Kp.new ht1)).trans (k5.mono (by simp))).trans (Kp.new ht4)).trans (Kp.new ht3)).trans (Kp.new ht2)) W6 (TB t1 _ h1) upd_same
        (dpa_ex (T4.trans (T5.trans TB)).ex hvs) (.tup (st_of (tp_of h3)) (.cons (.str "tail") (.cons (dp_at f) (.cons (.tup (st_of (tp_of h4)) (dpa_one (dp_at a))) .nil))))
    -- a give
    · refine ⟨_, rfl, q, vs, rfl, .inl ⟨sq_of hqH, fun t1 ht1 => ⟨_, rfl, _, rfl, p, m, _, rfl, (WH.new ht1).pail, mp, .inl (sq_of (Ex.new ht1 m _ hm)), hpos, hlen, fun j y H5 hy k5 P5 => ⟨sz1 (by simp), fun t3 ht3 => ⟨sz1 (by simp), fun t2 ht2 => ?_⟩⟩⟩⟩⟩
      obtain ⟨a, oa, rfl⟩ := any_atom hns hy
      have W5 := (WH.new (o := .tup vs) ht1).keep k5 P5
      have T5 : Tp H3 H5 := (Tp.new ht1).trans ((WH.new (o := .tup vs) ht1).tpk (k5.mono (qs := [p, b]) (by simp)))
      have W6 := (W5.new (o := .tup [.str "give", a.val]) ht3).new (o := .tup [.ref t3]) ht2
      have TB := (Tp.new ht3 (o := .tup [.str "give", a.val])).trans (Tp.new ht2 (o := .tup [.ref t3]))
      have h1 := k5 t1 _ (by simpa using (WH.nep ht1).1) upd_same
      have h3 := (Tp.new ht2 (o := .tup [.ref t3])) t3 _ upd_same
      refine fin ss scs' n' n' (.give a) _ _ vs _ sA t1 t2 hl hss (okB_give oa) (by rw [Bd.encs]) ((((kH.trans (Kp.new ht1)).trans (k5.mono (by simp))).trans (Kp.new ht3)).trans (Kp.new ht2)) W6 (TB t1 _ h1) upd_same
        (dpa_ex (T5.trans TB).ex hvs) (.tup (st_of (tp_of h3)) (.cons (.str "give") (.cons (dp_at a) .nil)))
end
end K2

set_option maxHeartbeats 4000000
namespace PG
open PySem L2 Evl DL TL
mutual
/-- its words are those of the language -/
def wfR : Rt → Prop
  | .two w _ _ => w ∈ wTwo
  | .one w _ => w ∈ wOne
  | .call _ _ => True
  | .fn _ b => wfB b
def wfB : Bd → Prop
  | .give _ => True
  | .tail _ _ => True
  | .cond _ b c => wfB b ∧ wfB c
  | .lets _ r rest => wfR r ∧ wfB rest
  | .says _ rest => wfB rest
end
mutual
theorem okR_wf {sc : List Str} {bx dp : Nat} : ∀ {r : Rt} {bx' : Nat}, okR sc bx dp r bx' → wfR r
  | .two _ _ _, _, h => by simp only [okR] at h; simp only [wfR]; exact h.2.1
  | .one _ _, _, h => by simp only [okR] at h; simp only [wfR]; exact h.2.1
  | .call _ _, _, h => by simp only [wfR]
  | .fn ps b, _, h => by
    simp only [okR] at h
    obtain ⟨n, dq, hn, rfl, _, h⟩ := h
    simp only [wfR]
    exact okB_wf h
theorem okB_wf {sc : List Str} {bx dp mo st : Nat} : ∀ {b : Bd} {bx' : Nat}, okB sc bx dp mo st b bx' → wfB b
  | .give _, _, h => by simp only [wfB]
  | .tail _ _, _, h => by simp only [wfB]
  | .cond _ b c, _, h => by
    simp only [okB] at h
    obtain ⟨_, mq, b1, rfl, h1, h2⟩ := h
    simp only [wfB]
    exact ⟨okB_wf h1, okB_wf h2⟩
  | .lets _ r rest, _, h => by
    simp only [okB] at h
    obtain ⟨sq, b1, rfl, h1, _, h2⟩ := h
    simp only [wfB]
    exact ⟨okR_wf h1, okB_wf h2⟩
  | .says _ rest, _, h => by
    simp only [okB] at h
    obtain ⟨sq, rfl, _, h2⟩ := h
    simp only [wfB]
    exact okB_wf h2
end
/-- the sizes of the bodies within, statement by statement -/
def Bd.subs : Bd → List Nat
  | .give _ => [0]
  | .tail _ _ => [0]
  | .cond _ b c => [b.size + c.size]
  | .lets _ r rest => r.size :: rest.subs
  | .says _ rest => 0 :: rest.subs
theorem Bd.subs_size : ∀ b : Bd, b.size = b.encs.length + b.subs.sum
  | .give _ => rfl
  | .tail _ _ => rfl
  | .cond _ b c => by simp only [Bd.size, Bd.encs, Bd.subs, List.length_singleton, List.sum_cons, List.sum_nil]; omega
  | .lets _ r rest => by
    have := Bd.subs_size rest
    simp only [Bd.size, Bd.encs, Bd.subs, List.length_cons, List.sum_cons]; omega
  | .says _ rest => by
    have := Bd.subs_size rest
    simp only [Bd.size, Bd.encs, Bd.subs, List.length_cons, List.sum_cons]; omega
/-- what a statement is, as far as bodies within go -/
inductive Stm (dd : Nat) : PyData → Nat → Prop where
  | letp (x : Str) {w : Str} {r : List PyData} (h : w ≠ "fun") : Stm dd (.tuple [.str "let", .str x, .tuple (.str w :: r)]) 0
  | letf (x : Str) (ps : List Str) (b : Bd) (h : b.deep < dd) (hw : wfB b) : Stm dd (.tuple [.str "let", .str x, .tuple [.str "fun", .tuple (ps.map PyData.str), .tuple b.encs]]) b.size
  | cond (a : At) (b c : Bd) (hb : b.deep < dd) (hc : c.deep < dd) (wb : wfB b) (wc : wfB c) : Stm dd (.tuple [.str "if", a.enc, .tuple b.encs, .tuple c.encs]) (b.size + c.size)
  | other {w : Str} {r : List PyData} (h : w ≠ "let") (h2 : w ≠ "if") : Stm dd (.tuple (.str w :: r)) 0
theorem Stm.mono {d d' : Nat} {x : PyData} {m : Nat} (h : Stm d x m) (hd : d ≤ d') : Stm d' x m := by
  cases h with
  | letp x h => exact .letp x h
  | letf x ps b h hw => exact .letf x ps b (by omega) hw
  | cond a b c hb hc wb wc => exact .cond a b c (by omega) (by omega) wb wc
  | other h h2 => exact .other h h2
theorem stm_right (x : Str) : ∀ {r : Rt} {dd : Nat}, wfR r → r.deep < dd → Stm dd (.tuple [.str "let", .str x, r.enc]) r.size
  | .two w a b, dd, h, _ => by
    simp only [wfR] at h
    simp only [Rt.enc, Rt.size]
    refine .letp x (fun e => ?_)
    subst e
    exact absurd h (by decide +kernel)
  | .one w a, dd, h, _ => by
    simp only [wfR] at h
    simp only [Rt.enc, Rt.size]
    refine .letp x (fun e => ?_)
    subst e
    exact absurd h (by decide +kernel)
  | .call f xs, dd, h, _ => by
    simp only [Rt.enc, Rt.size]
    exact .letp x (by decide +kernel)
  | .fn ps b, dd, h, hd => by
    simp only [wfR] at h
    simp only [Rt.deep] at hd
    simp only [Rt.enc, Rt.size]
    exact .letf x ps b hd h
theorem stm_at : ∀ (b : Bd), wfB b → ∀ (i : Nat) (d : PyData), b.encs[i]? = some d → ∃ m, b.subs[i]? = some m ∧ Stm b.deep d m
  | .give a, _, i, d, h => by
    cases i with
    | zero => simp only [Bd.encs] at h; cases h; exact ⟨0, rfl, .other (by decide +kernel) (by decide +kernel)⟩
    | succ i => simp [Bd.encs] at h
  | .tail f xs, _, i, d, h => by
    cases i with
    | zero => simp only [Bd.encs] at h; cases h; exact ⟨0, rfl, .other (by decide +kernel) (by decide +kernel)⟩
    | succ i => simp [Bd.encs] at h
  | .cond a b c, hw, i, d, h => by
    simp only [wfB] at hw
    cases i with
    | zero => simp only [Bd.encs] at h; cases h; exact ⟨_, rfl, .cond a b c (by simp only [Bd.deep]; omega) (by simp only [Bd.deep]; omega) hw.1 hw.2⟩
    | succ i => simp [Bd.encs] at h
  | .lets x r rest, hw, i, d, h => by
    simp only [wfB] at hw
    cases i with
    | zero => simp only [Bd.encs] at h; cases h; exact ⟨_, rfl, stm_right x hw.1 (by simp only [Bd.deep]; omega)⟩
    | succ i =>
      simp only [Bd.encs, List.getElem?_cons_succ] at h
      obtain ⟨m, h1, h2⟩ := stm_at rest hw.2 i d h
      exact ⟨m, by simpa only [Bd.subs, List.getElem?_cons_succ] using h1, h2.mono (by simp only [Bd.deep]; omega)⟩
  | .says a rest, hw, i, d, h => by
    simp only [wfB] at hw
    cases i with
    | zero => simp only [Bd.encs] at h; cases h; exact ⟨0, rfl, .other (by decide +kernel) (by decide +kernel)⟩
    | succ i =>
      simp only [Bd.encs, List.getElem?_cons_succ] at h
      obtain ⟨m, h1, h2⟩ := stm_at rest hw i d h
      exact ⟨m, by simpa only [Bd.subs, List.getElem?_cons_succ] using h1, h2.mono (by simp only [Bd.deep]; omega)⟩
theorem sum_take_succ : ∀ {l : List Nat} {i m : Nat}, l[i]? = some m → (l.take (i + 1)).sum = (l.take i).sum + m
  | x :: l, 0, m, h => by simp at h; simp [h]
  | x :: l, i + 1, m, h => by
    simp only [List.getElem?_cons_succ] at h
    have := sum_take_succ h
    simp only [List.take_succ_cons, List.sum_cons]
    omega
  | [], 0, m, h => by simp at h
  | [], i + 1, m, h => by simp at h
theorem sum_take_le : ∀ (l : List Nat) (i : Nat), (l.take i).sum ≤ l.sum
  | [], i => by simp
  | x :: l, 0 => by simp
  | x :: l, i + 1 => by
    have := sum_take_le l i
    simp only [List.take_succ_cons, List.sum_cons]
    omega
theorem Bd.subs_len : ∀ b : Bd, b.subs.length = b.encs.length
  | .give _ => rfl
  | .tail _ _ => rfl
  | .cond _ b c => by simp [Bd.encs, Bd.subs]
  | .lets _ r rest => by simp [Bd.encs, Bd.subs, Bd.subs_len rest]
  | .says _ rest => by simp [Bd.encs, Bd.subs, Bd.subs_len rest]
end PG
namespace K2
open PySem L2 Evl DL PG
section
variable {P : Program} {w : World} {K : PySem.W.Frag} {mg : Str → Option Value} {base : Heap}
def spSize (K : PySem.W.Frag) (dd : Nat) : Sp := fun vs H Q _ => ∃ (b : Bd) (v : V), vs = [v] ∧ b.deep ≤ dd ∧ wfB b ∧ b.size ≤ 1000000 ∧ Dp K H v (.tuple b.encs) ∧ ∀ H', Ex H H' → Q (.int (b.size : Int)) H'
theorem bd_size : BindP "_law_size" s_law_size ["body"] := fun _ _ _ _ _ _ us hl => match us, hl with | [_], _ => rfl
theorem ok_size (T : Txt K mg) : ∀ dd : Nat, DefOk P w K mg base CX0 false (dd + 1) "_law_size" s_law_size ["body"] (spSize K dd) := by
  intro dd
  induction dd with
  | zero =>
    obtain ⟨f, fd, F, hm⟩ := T.d_law_size.ex
    refine ⟨f, fd, F, hm, ⟨fun vs H Q E h => ?_, fun _ _ _ _ _ _ vs _ _ _ _ _ _ h => ?_⟩⟩
    · obtain ⟨b, v, rfl, _⟩ := h
      rfl
    · obtain ⟨b, v, rfl, hd, _⟩ := h
      exact absurd (Bd.deep_pos b) (by omega)
  | succ dd ih =>
    refine T.d_law_size.ok scs_law_size (fun vs H Q E h => ?_) (fun f cdv A outer s0 H vs Q E hr h => ?_)
    · obtain ⟨b, v, rfl, _⟩ := h
      rfl
    · obtain ⟨b, v, rfl, hd, hw, hsz, hv, k⟩ := h
      obtain ⟨a, xs, rfl, hS, hxs⟩ := dp_tup hv
      have nd := scs_law_size.nd
      have lx : xs.length = b.encs.length := dpa_len hxs
      refine ⟨_, pss_cons (ps_set (i := 1) nd rfl (.inl rfl) (pe_callB call_len_seq (by rfl) T.b_len PySem.boot_len (pa_cons (pv 0) pa_nil)))
        (pss_cons (ps_for PassesOwn.never rfl (pi_tup (pv 0)) (pg_name (i := 2) nd rfl (.inl rfl))
          (pss_one (ps_if (PW.pt (pw_and (pt_cmpR op_eq (pe_ix ix_tup (pv 2) pe_int (fun _ _ => rfl)) pe_str (nomark _)) (pw_and1 (pt_cmpR op_eq (pe_ix ix_tup (pe_ix ix_tup (pv 2) pe_int (fun _ _ => rfl)) pe_int (fun _ _ => rfl)) pe_str (nomark _)))))
            (pss_one (ps_set (i := 1) nd rfl (.inl rfl) (pe_op op_add (pv 1) (pe_callD ih hr (.inl rfl) bd_size pass0 (pa_cons (pe_ix ix_tup (pe_ix ix_tup (pv 2) pe_int (fun _ _ => rfl)) pe_int (fun _ _ => rfl)) pa_nil)))))
            (pss_one (ps_if (pt_cmpR op_eq (pe_ix ix_tup (pv 2) pe_int (fun _ _ => rfl)) pe_str (nomark _))
              (pss_one (ps_set (i := 1) nd rfl (.inl rfl) (pe_op op_add (pe_op op_add (pv 1) (pe_callD ih hr (.inl rfl) bd_size pass0 (pa_cons (pe_ix ix_tup (pv 2) pe_int (fun _ _ => rfl)) pa_nil))) (pe_callD ih hr (.inl rfl) bd_size pass0 (pa_cons (pe_ix ix_tup (pv 2) pe_int (fun _ _ => rfl)) pa_nil)))))
              pss_nil)))))
        (pss_one (ps_ret (pv 1)))), ?_⟩
      refine ⟨_, rfl, a, xs, rfl, .inr hS, ?_⟩
      refine ⟨_, rfl, a, rfl, ⟨_, hS⟩, for_tup (K := K) (a := a) (xs := xs) (fun i σ H' => ∃ y : Option V, σ = [some (.ref a), some (.int ((b.encs.length + (b.subs.take i).sum : Nat) : Int)), y] ∧ Ex H H')
        ⟨none, by rw [lx]; rfl, Ex.refl H⟩ (fun i σ H' _ z => ?_) ?_ ?_⟩
      · obtain ⟨y, _, e⟩ := z
        exact ex_t e hS
      · rintro i x σ H' hi ⟨y, rfl, e⟩
        obtain ⟨d, hd', hx⟩ := dpa_getV hxs hi
        obtain ⟨m, hm, st⟩ := stm_at b hw i d hd'
        have hsum := sum_take_succ hm
        have hle := sum_take_le b.subs (i + 1)
        have hbs := Bd.subs_size b
        have next : ∀ (z : Int), z = ((b.encs.length + (b.subs.take (i + 1)).sum : Nat) : Int) → ∀ y' : Option V, ∃ y : Option V, [some (V.ref a), some (V.int z), y'] = [some (.ref a), some (.int ((b.encs.length + (b.subs.take (i + 1)).sum : Nat) : Int)), y] ∧ Ex H H' := fun z hz y' => ⟨y', by rw [hz], e⟩
        have same : m = 0 → ∃ y : Option V, [some (V.ref a), some (V.int ((b.encs.length + (b.subs.take i).sum : Nat) : Int)), some x] = [some (.ref a), some (.int ((b.encs.length + (b.subs.take (i + 1)).sum : Nat) : Int)), y] ∧ Ex H H' := fun h => next _ (by rw [hsum, h]; rfl) _
        cases st with
        | letp x0 hne =>
          obtain ⟨c, ys, rfl, hc, hys⟩ := dp_tup hx
          cases hys with | cons h1 hys => cases hys with | cons h2 hys => cases hys with | cons h3 hys => cases hys with | nil =>
          obtain rfl := dp_str h1
          obtain ⟨c3, zs, rfl, hc3, hzs⟩ := dp_tup h3
          cases hzs with | cons g1 hzs =>
          obtain rfl := dp_str g1
          refine ⟨_, rfl, c, _, 0, _, rfl, rfl, ex_t e hc, rfl, rfl, _, rfl, itT (str_eq rfl) ⟨_, rfl, c, _, 2, _, rfl, rfl, ex_t e hc, rfl, c3, _, 0, _, rfl, rfl, ex_t e hc3, atI_nat (j := 0) rfl, rfl, _, rfl, itF (str_ne hne) ?_⟩⟩
          exact ⟨_, rfl, c, _, 0, _, rfl, rfl, ex_t e hc, rfl, rfl, _, rfl, itF (str_ne (by decide +kernel)) (same rfl)⟩
        | letf x0 ps b' hdp hwb =>
          obtain ⟨c, ys, rfl, hc, hys⟩ := dp_tup hx
          cases hys with | cons h1 hys => cases hys with | cons h2 hys => cases hys with | cons h3 hys => cases hys with | nil =>
          obtain rfl := dp_str h1
          obtain ⟨c3, zs, rfl, hc3, hzs⟩ := dp_tup h3
          cases hzs with | cons g1 hzs => cases hzs with | cons g2 hzs => cases hzs with | cons g3 hzs => cases hzs with | nil =>
          obtain rfl := dp_str g1
          refine ⟨_, rfl, c, _, 0, _, rfl, rfl, ex_t e hc, rfl, rfl, _, rfl, itT (str_eq rfl) ⟨_, rfl, c, _, 2, _, rfl, rfl, ex_t e hc, rfl, c3, _, 0, _, rfl, rfl, ex_t e hc3, rfl, rfl, _, rfl, itT (str_eq rfl) ?_⟩⟩
          refine ⟨_, rfl, _, rfl, c, _, 2, _, rfl, rfl, ex_t e hc, rfl, c3, _, 2, _, rfl, rfl, ex_t e hc3, rfl, b', _, rfl, by omega, hwb, by omega, dp_ex e g3, fun H2 e2 => ⟨_, _, rfl, rfl, ?_⟩⟩
          obtain ⟨y1, q1, _⟩ := next (((b.encs.length + (b.subs.take i).sum : Nat) : Int) + (b'.size : Int)) (by rw [hsum]; omega) (some (V.ref c))
          exact ⟨y1, q1, e.trans e2⟩
        | cond a0 b1 b2 hd1 hd2 w1 w2 =>
          obtain ⟨c, ys, rfl, hc, hys⟩ := dp_tup hx
          cases hys with | cons h1 hys => cases hys with | cons h2 hys => cases hys with | cons h3 hys => cases hys with | cons h4 hys => cases hys with | nil =>
          obtain rfl := dp_str h1
          refine ⟨_, rfl, c, _, 0, _, rfl, rfl, ex_t e hc, rfl, rfl, _, rfl, itF (str_ne (by decide +kernel)) ?_⟩
          refine ⟨_, rfl, c, _, 0, _, rfl, rfl, ex_t e hc, rfl, rfl, _, rfl, itT (str_eq rfl) ?_⟩
          refine ⟨_, rfl, _, rfl, c, _, 2, _, rfl, rfl, ex_t e hc, rfl, b1, _, rfl, by omega, w1, by omega, dp_ex e h3, fun H2 e2 => ⟨_, _, rfl, rfl, _, rfl, c, _, 3, _, rfl, rfl, ex_t (e.trans e2) hc, rfl, b2, _, rfl, by omega, w2, by omega, dp_ex (e.trans e2) h4, fun H3 e3 => ⟨_, _, rfl, rfl, ?_⟩⟩⟩
          obtain ⟨y1, q1, _⟩ := next (((b.encs.length + (b.subs.take i).sum : Nat) : Int) + (b1.size : Int) + (b2.size : Int)) (by rw [hsum]; omega) (some (V.ref c))
          exact ⟨y1, q1, (e.trans e2).trans e3⟩
        | other hn1 hn2 =>
          obtain ⟨c, ys, rfl, hc, hys⟩ := dp_tup hx
          cases hys with | cons h1 hys =>
          obtain rfl := dp_str h1
          refine ⟨_, rfl, c, _, 0, _, rfl, rfl, ex_t e hc, atI_nat (j := 0) rfl, rfl, _, rfl, itF (str_ne hn1) ?_⟩
          exact ⟨_, rfl, c, _, 0, _, rfl, rfl, ex_t e hc, atI_nat (j := 0) rfl, rfl, _, rfl, itF (str_ne hn2) (same rfl)⟩
      · rintro σ H' ⟨y, rfl, e⟩
        refine ⟨_, rfl, ?_⟩
        have es : b.encs.length + (b.subs.take xs.length).sum = b.size := by
          have e2 : xs.length = b.subs.length := by rw [lx, Bd.subs_len]
          rw [e2, List.take_length]
          exact (Bd.subs_size b).symm
        show Q (.int ((b.encs.length + (b.subs.take xs.length).sum : Nat) : Int)) H'
        rw [es]
        exact k H' e
end
end K2

set_option maxHeartbeats 4000000
namespace DL
open PySem L2 Evl
/-- two promises of one def -/
theorem DefOk.or {P : Program} {w : World} {K : PySem.W.Frag} {mg : Str → Option Value} {base : Heap} {CX : CXT} {G : Bool} {k : Nat} {x : Str} {st : Stmt} {ps : List Str} {sp sp' : Sp}
    (D : DefOk P w K mg base CX G k x st ps sp) (D' : DefOk P w K mg base CX G k x st ps sp') : DefOk P w K mg base CX G k x st ps (fun vs H Q E => sp vs H Q E ∨ sp' vs H Q E) := by
  obtain ⟨f, fd, F, hm, R⟩ := D.ex
  obtain ⟨f', fd', F', hm', R'⟩ := D'.ex
  obtain rfl : f = f' := by
    have e := hm.symm.trans hm'
    injection e with e
    injection e
  obtain rfl : fd = fd' := by
    obtain ⟨oc, od, kV, doc, pm, an, cdv, ct, osl, rfl, lk, _⟩ := F.ex
    obtain ⟨oc', od', kV', doc', pm', an', cdv', ct', osl', rfl, lk', _⟩ := F'.ex
    have e := lk.symm.trans lk'
    injection e with e
    injection e with _ _ e _
    injection e
  refine ⟨f, fd, F, hm, ?_⟩
  cases G with
  | true => exact ⟨fun vs H Q E z => z.elim (fun h => Rn.len (E := E) R h) (fun h => Rn.len (E := E) R' h), fun A outer s H args us vs Q E hg hr e0 hb r z => z.elim (R.run A outer s H args us vs Q E hg hr e0 hb r) (R'.run A outer s H args us vs Q E hg hr e0 hb r)⟩
  | false => exact ⟨fun vs H Q E z => z.elim (fun h => Rn.len (E := E) R h) (fun h => Rn.len (E := E) R' h), fun A outer s H args us vs Q E hr e0 hb r z => z.elim (R.run A outer s H args us vs Q E hr e0 hb r) (R'.run A outer s H args us vs Q E hr e0 hb r)⟩
theorem erase_perm {α : Type} : ∀ {l : List α} {k : Nat} {y : α}, l[k]? = some y → (y :: l.eraseIdx k).Perm l
  | x :: l, 0, y, h => by simp at h; subst h; exact List.Perm.refl _
  | x :: l, k + 1, y, h => by
    simp only [List.getElem?_cons_succ] at h
    simp only [List.eraseIdx_cons_succ]
    exact (List.Perm.swap x y _).trans (List.Perm.cons x (erase_perm h))
  | [], 0, y, h => by simp at h
  | [], k + 1, y, h => by simp at h
end DL
namespace K2
open PySem L2 Evl DL PG
section
variable {P : Program} {w : World} {K : PySem.W.Frag} {mg : Str → Option Value} {base : Heap}
/-! ### shuffled -/
def spShuf (K : PySem.W.Frag) : Sp := fun vs H Q _ => ∃ p q xs, vs = [.ref p, .ref q] ∧ Pail H p ∧ q ≠ p ∧ SqL K H q xs ∧ xs.length ≤ 1000 ∧
  ∀ ys f H', List.Perm ys xs → H f = none → H' f = some (.lst ys) → Kp [p] H H' → Pail H' p → Q (.ref f) H'
theorem bd_shuf : BindP "_law_shuffled" s_law_shuffled ["pail", "some"] := fun _ _ _ _ _ _ us hl => match us, hl with | [_, _], _ => rfl
theorem ok_shuf (T : Txt K mg) : DefOk P w K mg base CX0 false 2 "_law_shuffled" s_law_shuffled ["pail", "some"] (spShuf K) := by
  refine T.d_law_shuffled.ok scs_law_shuffled (fun vs H Q E h => ?_) (fun f cdv A outer s0 H vs Q E hr h => ?_)
  · obtain ⟨p, q, xs, rfl, _⟩ := h
    rfl
  · obtain ⟨p, q, xs, rfl, hp, hne, hq, hlen, k⟩ := h
    have nd := scs_law_shuffled.nd
    refine ⟨_, pss_cons (ps_par (i := 2) (j := 3) (by rfl) nd rfl rfl (by decide) rfl rfl (pa_cons (pe_callTy call_list_of (by rfl) T.b_list (by decide +kernel) (pa_cons (pv 1) pa_nil)) (pa_cons (pe_lst pa_nil) pa_nil)) (by rfl))
      (pss_cons (ps_for PassesOwn.never rfl (pi_range1 (by rfl) T.b_range (pa_cons (pe_callB call_len_seq (by rfl) T.b_len PySem.boot_len (pa_cons (pv 2) pa_nil)) pa_nil)) (pg_name (i := 4) nd rfl (.inl rfl))
        (pss_one (ps_expr (pe_bm PySem.F.plainAttrs_list PySem.F.slot_list_append PySem.F.type_list_append mt_append (pv 3) (pa_cons (pe_bm PySem.F.plainAttrs_list PySem.F.slot_list_pop PySem.F.type_list_pop mt_popAt (pv 2) (pa_cons (pe_callD (ok_deal T) hr (.inl rfl) bd_deal pass0 (pa_cons (pv 0) (pa_cons (pe_callB call_len_seq (by rfl) T.b_len PySem.boot_len (pa_cons (pv 2) pa_nil)) pa_nil))) pa_nil)) pa_nil)))))
      (pss_one (ps_ret (pv 3)))), ?_⟩
    refine ⟨_, rfl, q, xs, rfl, .inl hq, fun l hl => ⟨sz1 (by simp), fun g hg => ⟨_, _, rfl, ?_⟩⟩⟩
    have lg : l ≠ g := ne_of_none upd_same hg
    obtain ⟨pa, pb, pc, hp0⟩ := id hp
    have pl : p ≠ l := ne_of_none hp0 hl
    have pg : p ≠ g := ne_of_none (by rw [upd_ne pl]; exact hp0) hg
    have l1 : (upd (upd H l (.lst xs)) g (.lst [])) l = some (.lst xs) := by rw [upd_ne lg, upd_same]
    refine ⟨_, rfl, l, xs, rfl, .inl (sq_of l1), _, rfl, by omega, by omega, ?_⟩
    refine for_range (lo := 0) (n := ((xs.length : Int)).toNat) (fun i σ' H' => ∃ (ls fs : List V) (y : Option V), σ' = [some (.ref p), some (.ref q), some (.ref l), some (.ref g), y] ∧ Kp [p] H H' ∧ Pail H' p ∧ H' l = some (.lst ls) ∧ H' g = some (.lst fs) ∧
        List.Perm (fs ++ ls) xs ∧ fs.length = i ∧ ls.length + i = xs.length)
      ⟨xs, [], none, rfl, (Kp.new hl).trans (Kp.new hg), ⟨pa, pb, pc, by rw [upd_ne pg, upd_ne pl]; exact hp0⟩, l1, upd_same, List.Perm.refl _, rfl, rfl⟩ ?_ ?_
    · rintro i σ' H' hi ⟨ls, fs, y, rfl, kH, hpH, hls, hfs, hpm, hfl, hll⟩
      have hi2 : i < xs.length := by omega
      have lpos : 0 < ls.length := by omega
      refine ⟨_, rfl, .inl ⟨rfl, _, sq_of hfs⟩, _, rfl, .inl ⟨rfl, _, sq_of hls⟩, _, rfl, _, rfl, l, ls, rfl, .inl (sq_of hls), p, (ls.length : Int), rfl, hpH, by omega, by omega, fun j H2 j0 j1 k2 P2 => ?_⟩
      obtain ⟨n, rfl⟩ : ∃ n : Nat, j = (n : Int) := ⟨j.toNat, by omega⟩
      have hn : n < ls.length := by omega
      have l2 : H2 l = some (.lst ls) := k2 l _ (by simpa using pl.symm) hls
      have g2 : H2 g = some (.lst fs) := k2 g _ (by simpa using pg.symm) hfs
      have hy : ls[n]? = some ls[n] := List.getElem?_eq_getElem hn
      refine ⟨l, ls, (n : Int), n, ls[n], rfl, rfl, l2, by omega, by omega, (ixN_seq (ixN_nat hn)).1, hy, ?_⟩
      have g3 : (upd H2 l (.lst (ls.eraseIdx n))) g = some (.lst fs) := by rw [upd_ne lg.symm]; exact g2
      refine ⟨g, fs, _, rfl, rfl, g3, by rw [hfl]; exact Nat.lt_of_lt_of_le (show i < 5000 by omega) (sz1 (Nat.le_refl _)), ?_⟩
      obtain ⟨x1, x2, x3, hp2⟩ := P2
      refine ⟨ls.eraseIdx n, fs ++ [ls[n]], _, rfl, ?_, ⟨x1, x2, x3, by rw [upd_ne pg, upd_ne pl]; exact hp2⟩, by rw [upd_ne lg, upd_same], upd_same, ?_, by simp [hfl], ?_⟩
      · exact ((kH.trans k2).mut hl).mut (by cases e : H g with
          | none => rfl
          | some u => rw [Ex.new hl g u e] at hg; cases hg)
      · rw [List.append_assoc]
        exact (List.Perm.append_left fs (erase_perm hy)).trans hpm
      · rw [List.length_eraseIdx_of_lt hn]
        omega
    · rintro σ' H' ⟨ls, fs, y, rfl, kH, hpH, hls, hfs, hpm, hfl, hll⟩
      have e0 : ls = [] := List.length_eq_zero_iff.mp (by omega)
      subst e0
      rw [List.append_nil] at hpm
      exact ⟨_, rfl, k fs g H' hpm (by cases e : H g with
        | none => rfl
        | some u => rw [Ex.new hl g u e] at hg; cases hg) hfs kH hpH⟩
/-! ### bodies, closed -/
theorem ok_body2 (T : Txt K mg) : DefOk P w K mg base CX0 false 12 "_law_drawn_body" s_law_drawn_body ["pail", "box", "scope", "deep", "most"] (spBody K 2 2) ∧ DefOk P w K mg base CX0 false 12 "_law_drawn_body" s_law_drawn_body ["pail", "box", "scope", "deep", "most"] (spBody K 2 1) := by
  have R0 : DefOk P w K mg base CX0 false 3 "_law_drawn_right" s_law_drawn_right ["pail", "box", "scope", "deep"] (spRight K 0) := ok_right T (by decide) (fun dq h => nomatch h)
  have B00 : DefOk P w K mg base CX0 false 4 "_law_drawn_body" s_law_drawn_body ["pail", "box", "scope", "deep", "most"] (spBody K 0 0) := ok_body T (by decide) R0 (fun mq h => nomatch h)
  have B01 : DefOk P w K mg base CX0 false 5 "_law_drawn_body" s_law_drawn_body ["pail", "box", "scope", "deep", "most"] (spBody K 0 1) := ok_body T (by decide) (R0.mono (by decide)) (fun mq h => by cases h; exact B00)
  have R1 : DefOk P w K mg base CX0 false 6 "_law_drawn_right" s_law_drawn_right ["pail", "box", "scope", "deep"] (spRight K 1) := ok_right T (by decide) (fun dq h => by cases h; exact B01)
  have B10 : DefOk P w K mg base CX0 false 7 "_law_drawn_body" s_law_drawn_body ["pail", "box", "scope", "deep", "most"] (spBody K 1 0) := ok_body T (by decide) R1 (fun mq h => nomatch h)
  have B11 : DefOk P w K mg base CX0 false 8 "_law_drawn_body" s_law_drawn_body ["pail", "box", "scope", "deep", "most"] (spBody K 1 1) := ok_body T (by decide) (R1.mono (by decide)) (fun mq h => by cases h; exact B10)
  have R2 : DefOk P w K mg base CX0 false 9 "_law_drawn_right" s_law_drawn_right ["pail", "box", "scope", "deep"] (spRight K 2) := ok_right T (by decide) (fun dq h => by cases h; exact B11)
  have B20 : DefOk P w K mg base CX0 false 10 "_law_drawn_body" s_law_drawn_body ["pail", "box", "scope", "deep", "most"] (spBody K 2 0) := ok_body T (by decide) R2 (fun mq h => nomatch h)
  have B21 : DefOk P w K mg base CX0 false 11 "_law_drawn_body" s_law_drawn_body ["pail", "box", "scope", "deep", "most"] (spBody K 2 1) := ok_body T (by decide) (R2.mono (by decide)) (fun mq h => by cases h; exact B20)
  have B22 : DefOk P w K mg base CX0 false 12 "_law_drawn_body" s_law_drawn_body ["pail", "box", "scope", "deep", "most"] (spBody K 2 2) := ok_body T (by decide) (R2.mono (by decide)) (fun mq h => by cases h; exact B21)
  exact ⟨B22, B21.mono (by decide)⟩
end
end K2

set_option maxHeartbeats 4000000
namespace DL
open PySem L2 Evl
/-! ### evaluating to data of tuples -/
def EvP (K : PySem.W.Frag) (te : TE) (σ : L2.St) (H : Hp) (d : PyData) : Prop := ∀ H1, Ex H H1 → ∀ Q : VK, (∀ v H2, Ex H1 H2 → Dp K (tp H2) v d → Q v H2) → te σ H1 Q
def EvPs (K : PySem.W.Frag) (ta : TA) (σ : L2.St) (H : Hp) (ds : List PyData) : Prop := ∀ H1, Ex H H1 → ∀ Q : List V → Hp → Prop, (∀ vs H2, Ex H1 H2 → DpAll K (tp H2) vs ds → Q vs H2) → ta σ H1 Q
section
variable {K : PySem.W.Frag} {σ : L2.St} {H H' : Hp} {ta tb te : TE} {d : PyData}
theorem evp_var {i : Nat} {v : V} (h : σ[i]? = some (some v)) (hd : Dp K (tp H) v d) : EvP K (tVar i) σ H d := fun H1 e Q q => ⟨v, h, q v H1 (Ex.refl H1) (dp_ex (Tp.of e).ex hd)⟩
theorem evp_ev {v : V} (h : Ev te σ H v) (hd : ∀ {H0 : Hp}, Dp K H0 v d) : EvP K te σ H d := fun H1 e Q q => h H1 e Q fun H2 e2 => q v H2 e2 hd
theorem evps_nil : EvPs K tNil σ H [] := fun H1 e Q q => q [] H1 (Ex.refl H1) .nil
theorem evps_cons {tr : TA} {ds : List PyData} (h : EvP K ta σ H d) (hr : EvPs K tr σ H ds) : EvPs K (tCons ta tr) σ H (d :: ds) := fun H1 e Q q =>
  h H1 e _ fun v H2 e2 hv => hr H2 (e.trans e2) _ fun vs H3 e3 hvs => q (v :: vs) H3 (e2.trans e3) (.cons (dp_ex (Tp.of e3).ex hv) hvs)
theorem evp_tup {ta : TA} {ds : List PyData} (h : EvPs K ta σ H ds) (hl : ds.length ≤ 100000) : EvP K (tTup ta) σ H (.tuple ds) := fun H1 e Q q =>
  h H1 e _ fun vs H2 e2 hvs => ⟨sz_of (by rw [dpa_len hvs]; exact hl), fun p hp => q _ _ (e2.trans (Ex.new hp)) (.tup (st_of (tp_of upd_same)) (dpa_ex (Tp.new hp).ex hvs))⟩
theorem evp_cat {ds es : List PyData} (ha : EvP K ta σ H (.tuple ds)) (hb : EvP K tb σ H (.tuple es)) (h1 : ds ≠ []) (h2 : es ≠ []) (hl : ds.length + es.length ≤ 100000) : EvP K (tOp (rCatA K) ta tb) σ H (.tuple (ds ++ es)) := fun H1 e Q q =>
  ha H1 e _ fun v H2 e2 hv => hb H2 (e.trans e2) _ fun u H3 e3 hu => by
    obtain ⟨a, xs, rfl, sa, da⟩ := dp_tup (dp_ex (Tp.of e3).ex hv)
    obtain ⟨b, ys, rfl, sb, db⟩ := dp_tup hu
    have lx := dpa_len da
    have ly := dpa_len db
    refine ⟨a, b, xs, ys, rfl, rfl, ex_t tp_sub sa, ex_t tp_sub sb, sz_of (by rw [lx, ly]; exact hl), fun hx => ?_, fun _ hy => ?_, fun _ _ p hp => ?_⟩
    · rw [hx] at lx
      exact absurd (List.length_eq_zero_iff.mp lx.symm) h1
    · rw [hy] at ly
      exact absurd (List.length_eq_zero_iff.mp ly.symm) h2
    · exact q _ _ ((e2.trans e3).trans (Ex.new hp)) (.tup (st_of (tp_of upd_same)) (dpa_ex (Tp.new hp).ex (dpa_app da db)))
theorem for_evp {g : TG} {tb : TS} {D : Ends} {ds : List PyData} (h : EvP K te σ H (.tuple ds)) (q : ∀ a xs H2, Ex H H2 → SqT K (tp H2) a xs → DpAll K (tp H2) xs ds → tFor (iTup K (tC (.ref a))) g tb D σ H2) : tFor (iTup K te) g tb D σ H :=
  h H (Ex.refl H) _ fun v H2 e hv => by
    obtain ⟨a, xs, rfl, s, d⟩ := dp_tup hv
    exact q a xs H2 e s d
theorem asg_evp {g : TG} {D : Ends} (h : EvP K te σ H d) (q : ∀ v H2, Ex H H2 → Dp K (tp H2) v d → g v σ H2 D.nx) : tAsg te g D σ H := h H (Ex.refl H) _ q
theorem asg1_evp {g : TG} {D : Ends} (h : EvP K te σ H d) (q : ∀ v H2, Ex H H2 → Dp K (tp H2) v d → ∀ l, H2 l = none → g (.ref l) σ (upd H2 l (.lst [v])) D.nx) : tAsg (tLst (tCons te tNil)) g D σ H :=
  h H (Ex.refl H) _ fun v H2 e hv => ⟨by show 1 ≤ sizeLine; decide, q v H2 e hv⟩
theorem arg_evp {Q : List V → Hp → Prop} (h : EvP K te σ H d) (q : ∀ v H2, Ex H H2 → Dp K (tp H2) v d → Q [v] H2) : tCons te tNil σ H Q := h H (Ex.refl H) _ q
theorem dpa_perm {vs ys : List V} (h : List.Perm ys vs) : ∀ {α : Type} {f : α → PyData} {ts : List α}, DpAll K H vs (ts.map f) → ∃ ts', List.Perm ts' ts ∧ DpAll K H ys (ts'.map f) := by
  intro α f
  induction h with
  | nil => intro ts h; exact ⟨ts, List.Perm.refl _, h⟩
  | @cons x l1 l2 _ ih =>
    intro ts h
    match ts, h with
    | t :: r, .cons a b =>
      obtain ⟨r', p, d⟩ := ih b
      exact ⟨t :: r', p.cons t, .cons a d⟩
  | swap x y l =>
    intro ts h
    match ts, h with
    | t :: u :: r, .cons a (.cons b c) => exact ⟨u :: t :: r, .swap t u r, .cons b (.cons a c)⟩
  | trans _ _ ih1 ih2 =>
    intro ts h
    obtain ⟨t1, p1, d1⟩ := ih2 h
    obtain ⟨t2, p2, d2⟩ := ih1 d1
    exact ⟨t2, p2.trans p1, d2⟩
end
end DL
namespace PG
open PySem L2 Evl DL TL
abbrev Top : Type := Str × List Str × Bd
def tEnc (t : Top) : PyData := .tuple [.str t.1, .tuple (t.2.1.map PyData.str), .tuple t.2.2.encs]
def stepR : List Sm := [.lets "y" (.two "-" (.nm "a") (.num 1)), .lets "t" (.call (.nm "g") [.nm "y"]), .lets "q" (.two "pair" (.nm "a") (.nm "t"))]
def loopB : Bd := .lets "z" (.two "<" (.nm "a") (.num 1)) (.cond (.nm "z") (.give (.num 0)) (wrap stepR (.give (.nm "q"))))
def mB : Bd := .lets "u" (.call (.nm "g") [.nm "m"]) (.give (.nm "u"))
def gB : Bd := .lets "w" (.two "pair" (.nm "a") (.nm "a")) (.tail (.nm "h") [.nm "w", .num 1])
def hB : Bd := .lets "v" (.one "left" (.nm "b")) (.lets "s" (.two "+" (.nm "v") (.nm "c")) (.give (.nm "s")))
/-- a body of a def: drawn, or one of four -/
inductive okT : List Str → Bd → Prop where
  | drawn {sc : List Str} {b : Bd} {n n' mo : Nat} (hm : mo ≤ 2) (h : okB sc n 2 mo 4 b n') (hn : n' ≤ 1000000) : okT sc b
  | loop : okT ["a"] loopB
  | m : okT ["m"] mB
  | g : okT ["a"] gB
  | h : okT ["b", "c"] hB
def okProg (tops : List Top) : Prop := ∃ g h m, List.Perm tops [(("g", ["a"], g) : Top), ("h", ["b", "c"], h), ("main", ["m"], m)] ∧ okT ["a"] g ∧ okT ["b", "c"] h ∧ okT ["m"] m ∧ g.size + h.size + m.size ≤ 90
theorem okT_wf {sc : List Str} {b : Bd} (h : okT sc b) : wfB b := by
  cases h with
  | drawn hm h _ => exact okB_wf h
  | loop => simp only [loopB, stepR, wrap, wfB, wfR]; decide
  | m => simp only [mB, wfB, wfR]; decide
  | g => simp only [gB, wfB, wfR]; decide
  | h => simp only [hB, wfB, wfR]; decide
theorem okT_deep {sc : List Str} {b : Bd} (h : okT sc b) : b.deep ≤ 7 := by
  cases h with
  | drawn hm h _ =>
    have := okB_deep h
    omega
  | loop => simp only [loopB, stepR, wrap, Bd.deep, Rt.deep]; decide
  | m => simp only [mB, Bd.deep, Rt.deep]; decide
  | g => simp only [gB, Bd.deep, Rt.deep]; decide
  | h => simp only [hB, Bd.deep, Rt.deep]; decide
theorem mxB22 : mxB 2 2 ≤ 6000 := by simp [mxB]
theorem mxB21 : mxB 2 1 ≤ 6000 := by simp [mxB]
theorem okT_size {sc : List Str} {b : Bd} (h : okT sc b) : b.size ≤ 6000 := by
  cases h with
  | @drawn _ _ n n' mo hm h _ =>
    have := okB_size h
    have h2 : mxB 2 mo ≤ 6000 := by
      rcases mo with _ | _ | _ | mo
      · simp [mxB]
      · exact mxB21
      · exact mxB22
      · omega
    omega
  | loop => simp only [loopB, stepR, wrap, Bd.size, Rt.size]; decide
  | m => simp only [mB, Bd.size, Rt.size]; decide
  | g => simp only [gB, Bd.size, Rt.size]; decide
  | h => simp only [hB, Bd.size, Rt.size]; decide
/-- the defs made in their order -/
def hdOf : Nat → Str × List Str
  | 0 => ("g", ["a"])
  | 1 => ("h", ["b", "c"])
  | _ => ("main", ["m"])
inductive mk : Nat → List Top → Prop where
  | nil : mk 0 []
  | snoc {i : Nat} {ts : List Top} {b : Bd} : mk i ts → okT (hdOf i).2 b → mk (i + 1) (ts ++ [((hdOf i).1, (hdOf i).2, b)])
theorem mk_len {i : Nat} {ts : List Top} (h : mk i ts) : ts.length = i := by
  induction h with
  | nil => rfl
  | snoc _ _ ih => rw [List.length_append, ih]; rfl
theorem mk_inv {i : Nat} {ts : List Top} (h : mk (i + 1) ts) : ∃ us b, ts = us ++ [((hdOf i).1, (hdOf i).2, b)] ∧ mk i us ∧ okT (hdOf i).2 b := by
  cases h with
  | snoc h1 h2 => exact ⟨_, _, rfl, h1, h2⟩
theorem mk_three {ts : List Top} (h : mk 3 ts) : ∃ g h m, ts = [(("g", ["a"], g) : Top), ("h", ["b", "c"], h), ("main", ["m"], m)] ∧ okT ["a"] g ∧ okT ["b", "c"] h ∧ okT ["m"] m := by
  obtain ⟨t2, m, rfl, h2, om⟩ := mk_inv h
  obtain ⟨t1, h0, rfl, h1, oh⟩ := mk_inv h2
  obtain ⟨t0, g, rfl, h00, og⟩ := mk_inv h1
  obtain rfl : t0 = [] := List.length_eq_zero_iff.mp (mk_len h00)
  exact ⟨g, h0, m, rfl, og, oh, om⟩
end PG
namespace K2
open PySem L2 Evl DL PG
section
variable {P : Program} {w : World} {K : PySem.W.Frag} {mg : Str → Option Value} {base : Heap}
def spProg (K : PySem.W.Frag) : Sp := fun vs H Q _ => ∃ p, vs = [.ref p] ∧ Pail H p ∧ ∀ tops v H', okProg tops → Kp [p] H H' → Pail H' p → Dp K (tp H') v (.tuple (tops.map tEnc)) → Q v H'
theorem bd_prog : BindP "_law_program" s_law_program ["pail"] := fun _ _ _ _ _ _ us hl => match us, hl with | [_], _ => rfl
theorem ok_prog (T : Txt K mg) : DefOk P w K mg base CX0 false 13 "_law_program" s_law_program ["pail"] (spProg K) := by
  have DB := DefOk.or (ok_body2 (P := P) (w := w) (base := base) T).1 (ok_body2 (P := P) (w := w) (base := base) T).2
  refine T.d_law_program.ok scs_law_program (fun vs H Q E h => ?_) (fun f cdv A outer s0 H vs Q E hr h => ?_)
  · obtain ⟨p, rfl, _⟩ := h
    rfl
  · obtain ⟨p, rfl, hp, k⟩ := h
    have nd := scs_law_program.nd
    have hr1 : Room 1 _ := hr.mono (by decide)
    have hr2 : Room 2 _ := hr.mono (by decide)
    have hr8 : Room 8 _ := hr.mono (by decide)
    refine ⟨_, pss_cons (ps_par (i := 1) (j := 2) (by rfl) nd rfl rfl (by decide) rfl rfl (pa_cons (pe_lst (pa_cons pe_int pa_nil)) (pa_cons (pe_lst pa_nil) pa_nil)) (by rfl))
      (pss_cut (ps_for PassesOwn.never rfl (pi_tup (pe_tup (pa_cons (pe_tup (pa_cons pe_str (pa_cons (pe_tup (pa_cons pe_str pa_nil)) pa_nil))) (pa_cons (pe_tup (pa_cons pe_str (pa_cons (pe_tup (pa_cons pe_str (pa_cons pe_str pa_nil))) pa_nil))) (pa_cons (pe_tup (pa_cons pe_str (pa_cons (pe_tup (pa_cons pe_str pa_nil)) pa_nil))) pa_nil))))) (pg_tup (by rfl) (pgs_cons (pg_name (i := 3) nd rfl (.inl rfl)) (pgs_cons (pg_name (i := 4) nd rfl (.inl rfl)) pgs_nil)))
        (pss_one (ps_expr (pe_bm PySem.F.plainAttrs_list PySem.F.slot_list_append PySem.F.type_list_append mt_append (pv 2) (pa_cons (pe_tup (pa_cons (pv 3) (pa_cons (pv 4) (pa_cons
          (pe_callD DB hr (.inl rfl) bd_body pass0 (pa_cons (pv 0) (pa_cons (pv 1) (pa_cons (pe_callTy call_list_of (by rfl) T.b_list (by decide +kernel) (pa_cons (pv 4) pa_nil)) (pa_cons pe_int (pa_cons (pe_ifExp (pt_cmpR op_eq (pv 3) pe_str (nomark _)) pe_int pe_int) pa_nil)))))) pa_nil)))) pa_nil)))))
      (pss_cut (ps_if (pt_cmpR op_eq (pe_callD (ok_deal T) hr1 (.inl rfl) bd_deal pass0 (pa_cons (pv 0) (pa_cons pe_int pa_nil))) pe_int (nomark _))
        (pss_cons (ps_set (i := 5) nd rfl (.inl rfl) (pe_tup (pa_cons (pe_tup (pa_cons pe_str (pa_cons pe_str (pa_cons (pe_tup (pa_cons pe_str (pa_cons pe_str (pa_cons pe_int pa_nil)))) pa_nil)))) (pa_cons (pe_tup (pa_cons pe_str (pa_cons pe_str (pa_cons (pe_tup (pa_cons pe_str (pa_cons pe_str (pa_cons (pe_tup (pa_cons pe_str pa_nil)) pa_nil)))) pa_nil)))) (pa_cons (pe_tup (pa_cons pe_str (pa_cons pe_str (pa_cons (pe_tup (pa_cons pe_str (pa_cons pe_str (pa_cons pe_str pa_nil)))) pa_nil)))) pa_nil)))))
        (pss_cons (ps_set (i := 6) nd rfl (.inl rfl) (pe_tup (pa_cons (pe_tup (pa_cons pe_str (pa_cons pe_str (pa_cons (pe_tup (pa_cons pe_str (pa_cons pe_str (pa_cons pe_int pa_nil)))) pa_nil)))) (pa_cons (pe_tup (pa_cons pe_str (pa_cons pe_str (pa_cons (pe_tup (pa_cons (pe_tup (pa_cons pe_str (pa_cons pe_int pa_nil))) pa_nil)) (pa_cons (pe_op op_catA (pv 5) (pe_tup (pa_cons (pe_tup (pa_cons pe_str (pa_cons pe_str pa_nil))) pa_nil))) pa_nil))))) pa_nil))))
        (pss_one (ps_asg (pe_tup (pa_cons pe_str (pa_cons (pe_tup (pa_cons pe_str pa_nil)) (pa_cons (pv 6) pa_nil)))) (pg_sub (pv 2) pe_int set_list))))) pss_nil)
      (pss_cut (ps_if (pt_cmpR op_gt (pe_callB (cr_sum rfl) (by rfl) T.b_sum (by decide +kernel) (pa_cons
            (pe_lc (own := [("name", 3), ("params", 4), ("body", 7)]) (g := gTup K 3 (gCons (gName 3) (gCons (gName 4) (gCons (gName 7) gNil)))) (tt := tYes) rfl nd (pi_list (pv 2))
              (blkOk_by (N := ["pail", "box", "made", "name", "params", "step", "loop", "body"]) (sc := defScope s_law_program) (by decide +kernel)) (fun _ _ _ _ _ => pg_tup (by rfl) (pgs_cons (pg_name (i := 3) nd rfl (Or.inl rfl)) (pgs_cons (pg_name (i := 4) nd rfl (Or.inl rfl)) (pgs_cons (pg_name (i := 7) nd rfl (Or.inl rfl)) pgs_nil)))) (fun _ _ _ _ _ => pts_nil)
              (fun _ _ _ _ _ => pe_callD (ok_size T 7) hr8 (.inl rfl) bd_size pass0 (pa_cons (pv 7) pa_nil))) pa_nil)) pe_int (nomark _))
        (pss_cons (ps_set (i := 2) nd rfl (.inl rfl) (pe_lst (pa_cons (pe_tup (pa_cons pe_str (pa_cons (pe_tup (pa_cons pe_str pa_nil)) (pa_cons (pe_tup (pa_cons (pe_tup (pa_cons pe_str (pa_cons pe_str (pa_cons (pe_tup (pa_cons pe_str (pa_cons pe_str (pa_cons (pe_tup (pa_cons pe_str pa_nil)) pa_nil)))) pa_nil)))) (pa_cons (pe_tup (pa_cons pe_str (pa_cons pe_str pa_nil))) pa_nil))) pa_nil)))) pa_nil)))
        (pss_cons (ps_expr (pe_bm PySem.F.plainAttrs_list PySem.F.slot_list_append PySem.F.type_list_append mt_append (pv 2) (pa_cons (pe_tup (pa_cons pe_str (pa_cons (pe_tup (pa_cons pe_str pa_nil)) (pa_cons (pe_tup (pa_cons (pe_tup (pa_cons pe_str (pa_cons pe_str (pa_cons (pe_tup (pa_cons pe_str (pa_cons pe_str (pa_cons pe_str pa_nil)))) pa_nil)))) (pa_cons (pe_tup (pa_cons pe_str (pa_cons pe_str (pa_cons (pe_tup (pa_cons pe_str (pa_cons pe_int pa_nil))) pa_nil)))) pa_nil))) pa_nil)))) pa_nil)))
        (pss_one (ps_expr (pe_bm PySem.F.plainAttrs_list PySem.F.slot_list_append PySem.F.type_list_append mt_append (pv 2) (pa_cons (pe_tup (pa_cons pe_str (pa_cons (pe_tup (pa_cons pe_str (pa_cons pe_str pa_nil))) (pa_cons (pe_tup (pa_cons (pe_tup (pa_cons pe_str (pa_cons pe_str (pa_cons (pe_tup (pa_cons pe_str (pa_cons pe_str pa_nil))) pa_nil)))) (pa_cons (pe_tup (pa_cons pe_str (pa_cons pe_str (pa_cons (pe_tup (pa_cons pe_str (pa_cons pe_str (pa_cons pe_str pa_nil)))) pa_nil)))) (pa_cons (pe_tup (pa_cons pe_str (pa_cons pe_str pa_nil))) pa_nil)))) pa_nil)))) pa_nil)))))) pss_nil)
      (pss_one (ps_ret (pe_callTy call_tuple_of (by rfl) T.b_tuple (by decide +kernel) (pa_cons (pe_callD (ok_shuf T) hr2 (.inl rfl) bd_shuf pass0 (pa_cons (pv 0) (pa_cons (pv 2) pa_nil))) pa_nil))))))), ?_⟩
    -- box, made
    refine ⟨sz1 (by simp), fun b hb => ⟨sz1 (by simp), fun c hc => ⟨_, _, rfl, ?_⟩⟩⟩
    obtain ⟨pa, pb0, pc, hp0⟩ := id hp
    have pb : p ≠ b := ne_of_none hp0 hb
    have bc : b ≠ c := ne_of_none upd_same hc
    have hcH : H c = none := by
      cases e : H c with
      | none => rfl
      | some u => rw [Ex.new hb c u e] at hc; cases hc
    have pc : p ≠ c := ne_of_none hp0 hcH
    -- the defs, drawn
    refine ⟨fun σ' H' => ∃ (ts : List Top) (vs : List V) (y3 y4 : Option V), σ' = [some (.ref p), some (.ref b), some (.ref c), y3, y4, none, none, none] ∧ mk 3 ts ∧ Kp [p] H H' ∧ Pail H' p ∧ H' c = some (.lst vs) ∧ DpAll K (tp H') vs (ts.map tEnc), ?_, ?_⟩
    · refine for_evp (evp_tup (evps_cons (evp_tup (evps_cons (evp_ev ev_c (.str _)) (evps_cons (evp_tup (evps_cons (evp_ev ev_c (.str _)) evps_nil) (by simp)) evps_nil)) (by simp)) (evps_cons (evp_tup (evps_cons (evp_ev ev_c (.str _)) (evps_cons (evp_tup (evps_cons (evp_ev ev_c (.str _)) (evps_cons (evp_ev ev_c (.str _)) evps_nil)) (by simp)) evps_nil)) (by simp)) (evps_cons (evp_tup (evps_cons (evp_ev ev_c (.str _)) (evps_cons (evp_tup (evps_cons (evp_ev ev_c (.str _)) evps_nil) (by simp)) evps_nil)) (by simp)) evps_nil))) (by simp)) fun a xs H1 e1 sa da => ?_
      have lx : xs.length = 3 := dpa_len da
      refine ⟨a, rfl, ⟨_, ex_t tp_sub sa⟩, ?_⟩
      refine for_tup (K := K) (a := a) (xs := xs) (fun i σ H' => ∃ (ts : List Top) (vs : List V) (n : Nat) (y3 y4 : Option V), σ = [some (.ref p), some (.ref b), some (.ref c), y3, y4, none, none, none] ∧ mk i ts ∧ n ≤ i * 20000 ∧
          Kp [p] H H' ∧ Tp H1 H' ∧ Pail H' p ∧ H' b = some (.lst [.int (n : Int)]) ∧ H' c = some (.lst vs) ∧ DpAll K (tp H') vs (ts.map tEnc))
        ⟨[], [], 0, none, none, rfl, .nil, by omega, (Kp.new hb).trans ((Kp.new hc).trans (Kp.of e1)), Tp.refl H1, ⟨_, _, _, e1 p _ (by rw [upd_ne pc, upd_ne pb]; exact hp0)⟩, e1 b _ (by rw [upd_ne bc, upd_same]; rfl), e1 c _ upd_same, .nil⟩
        ?_ ?_ ?_
      · rintro i σ H' hi ⟨ts, vs, n, y3, y4, _, _, _, _, kH1, _⟩
        exact ex_t tp_sub (ex_t kH1.ex sa)
      · rintro i x σ H' hi ⟨ts, vs, n, y3, y4, rfl, hmk, hn, kH, kH1, pH, bH, cH, dvs⟩
        have hi3 : i < 3 := by
          have := (List.getElem?_eq_some_iff.mp hi).1
          omega
        obtain ⟨d, hd, hx⟩ := dpa_getV da hi
        have ed : d = .tuple [.str (hdOf i).1, .tuple ((hdOf i).2.map PyData.str)] := by
          rcases i with _ | _ | _ | i
          · exact (Option.some.inj hd).symm
          · exact (Option.some.inj hd).symm
          · exact (Option.some.inj hd).symm
          · omega
        subst ed
        obtain ⟨a1, zs, rfl, s1, d1⟩ := dp_tup hx
        cases d1 with | cons g1 d1 => cases d1 with | cons g2 d1 => cases d1 with | nil =>
        obtain rfl := dp_str g1
        obtain ⟨a2, ws, rfl, s2, d2⟩ := dp_tup g2
        obtain rfl := dpa_strs_eq d2
        have lp : (hdOf i).2.length ≤ 2 := by rcases i with _ | _ | _ | i <;> simp [hdOf]
        obtain ⟨mo, hmo, hsp, hif⟩ : ∃ mo : Nat, mo ≤ 2 ∧ (∀ vs H Q E, spBody K 2 mo vs H Q E → spBody K 2 2 vs H Q E ∨ spBody K 2 1 vs H Q E) ∧
            ∀ (σ : L2.St) (H : Hp) (Q : VK), tC (.int (mo : Int)) σ H Q → if decide (V.str (hdOf i).1 = V.str "main") = true then tC (.int 2) σ H Q else tC (.int 1) σ H Q := by
          by_cases h2 : (hdOf i).1 = "main"
          · exact ⟨2, by decide, fun _ _ _ _ z => .inl z, fun σ H Q z => itT (str_eq h2) z⟩
          · exact ⟨1, by decide, fun _ _ _ _ z => .inr z, fun σ H Q z => itF (str_ne h2) z⟩
        have nbp : b ≠ p := pb.symm
        refine ⟨a1, _, rfl, ex_t tp_sub (ex_t kH1.ex s1), rfl, _, _, rfl, _, _, rfl, rfl, ?_⟩
        refine ⟨_, rfl, .inl ⟨rfl, _, sq_of cH⟩, _, rfl, _, rfl, _, rfl, _, rfl, _, rfl, a2, _, rfl, .inr (ex_t tp_sub (ex_t kH1.ex s2)), fun s hs => ⟨_, rfl, rfl, _, rfl, hif _ _ _ ?_⟩⟩
        have ns : s ≠ p ∧ s ≠ b ∧ s ≠ c := by
          obtain ⟨x1, x2, x3, pp⟩ := pH
          exact ⟨(ne_of_none pp hs).symm, (ne_of_none bH hs).symm, (ne_of_none cH hs).symm⟩
        have W : DW (upd H' s (.lst ((hdOf i).2.map V.str))) p b s (hdOf i).2 n := by
          obtain ⟨x1, x2, x3, pp⟩ := pH
          exact ⟨⟨x1, x2, x3, by rw [upd_ne ns.1.symm]; exact pp⟩, by rw [upd_ne ns.2.1.symm]; exact bH, upd_same, pb, ns.1, ns.2.1⟩
        refine hsp _ _ _ _ ⟨p, b, s, (hdOf i).2, n, rfl, W, by decide, hmo, by omega, ?_, fun r n' v H4 hok k4 P4 b4 dp4 => ?_⟩
        · unfold LB
          omega
        · have hle := (okB_le hok).2
          have hsz := okB_size hok
          have hmx : mxB 2 mo ≤ 6000 := by
            rcases mo with _ | _ | _ | mo
            · simp [mxB]
            · exact mxB21
            · exact mxB22
            · omega
          have T4 : Tp H' H4 := (Tp.new hs).trans (W.tpk k4)
          have c4 : H4 c = some (.lst vs) := k4 c _ (by simp [pc.symm, bc.symm]) (by rw [upd_ne ns.2.2.symm]; exact cH)
          have lv : vs.length = i := by rw [dpa_len dvs, List.length_map, mk_len hmk]
          refine ⟨sz1 (by simp), fun t ht => ⟨c, vs, _, rfl, rfl, by rw [upd_ne (ne_of_none c4 ht)]; exact c4, ?_, ?_⟩⟩
          · rw [lv]
            exact Nat.lt_of_lt_of_le hi3 (by decide)
          have ntp : t ≠ p ∧ t ≠ b ∧ t ≠ c := by
            obtain ⟨x1, x2, x3, pp⟩ := P4
            exact ⟨(ne_of_none pp ht).symm, (ne_of_none b4 ht).symm, (ne_of_none c4 ht).symm⟩
          refine ⟨ts ++ [((hdOf i).1, (hdOf i).2, r)], _, n', _, _, rfl, .snoc hmk (.drawn hmo hok (by omega)), by omega, ?_, ?_, ?_, ?_, upd_same, ?_⟩
          · refine Kp.mut (fun x o nx hx => ?_) hcH
            have nb : x ≠ b := fun e => by rw [e, hb] at hx; cases hx
            have x1 := kH x o nx hx
            have x2 : (upd H' s (.lst ((hdOf i).2.map V.str))) x = some o := by rw [upd_ne (ne_of_none x1 hs)]; exact x1
            have x3 := k4 x o (by simpa [nb] using nx) x2
            rw [upd_ne (ne_of_none x3 ht)]
            exact x3
          · exact kH1.trans (T4.trans ((Tp.new ht).trans (Tp.lst (by rw [upd_ne ntp.2.2.symm]; exact c4))))
          · obtain ⟨x1, x2, x3, pp⟩ := P4
            exact ⟨x1, x2, x3, by rw [upd_ne pc, upd_ne ntp.1.symm]; exact pp⟩
          · rw [upd_ne bc, upd_ne ntp.2.1.symm]
            exact b4
          · have T5 : Tp H4 (upd (upd H4 t (.tup [.str (hdOf i).1, .ref a2, v])) c (.lst (vs ++ [.ref t]))) := (Tp.new ht).trans (Tp.lst (by rw [upd_ne ntp.2.2.symm]; exact c4))
            rw [List.map_append]
            refine dpa_app (dpa_ex (T4.trans T5).ex dvs) (dpa_one ?_)
            refine .tup (st_of (tp_of (by rw [upd_ne ntp.2.2, upd_same]))) (.cons (.str _) (.cons (dp_ex (kH1.trans (T4.trans T5)).ex g2) (.cons (dp_ex T5.ex dp4) .nil)))
      · rintro σ H' ⟨ts, vs, n, y3, y4, rfl, hmk, hn, kH, kH1, pH, bH, cH, dvs⟩
        rw [lx] at hmk
        exact ⟨ts, vs, y3, y4, rfl, hmk, kH, pH, cH, dvs⟩
    rintro σ H1 ⟨ts, vs, y3, y4, rfl, hmk, kH, pH, cH, dvs⟩
    obtain ⟨g, h, m, rfl, og, oh, om⟩ := mk_three hmk
    -- the loop
    refine ⟨fun σ' H' => ∃ (g : Bd) (vs : List V) (y5 y6 : Option V), σ' = [some (.ref p), some (.ref b), some (.ref c), y3, y4, y5, y6, none] ∧ okT ["a"] g ∧ Kp [p] H H' ∧ Pail H' p ∧ H' c = some (.lst vs) ∧ DpAll K (tp H') vs [tEnc ("g", ["a"], g), tEnc ("h", ["b", "c"], h), tEnc ("main", ["m"], m)], ?_, ?_⟩
    · refine ⟨_, rfl, p, 2, rfl, pH, by decide, by decide, fun d H2 d0 d1 k2 P2 => ?_⟩
      have kH2 := kH.trans k2
      have c2 : H2 c = some (.lst vs) := k2 c _ (by simpa using pc.symm) cH
      have T2 : Tp H1 H2 := k2.tp (by intro a ha; obtain ⟨x, y, z, hp⟩ := pH; exact ⟨_, (List.mem_singleton.mp ha) ▸ hp⟩)
      have dvs2 := dpa_ex T2.ex dvs
      refine ⟨rfl, _, rfl, ite2 (fun _ => ?_) (fun _ => ⟨g, vs, none, none, rfl, og, kH2, P2, c2, dvs2⟩)⟩
      refine asg_evp (K := K) (evp_tup (evps_cons (evp_tup (evps_cons (evp_ev ev_c (.str _)) (evps_cons (evp_ev ev_c (.str _)) (evps_cons (evp_tup (evps_cons (evp_ev ev_c (.str _)) (evps_cons (evp_ev ev_c (.str _)) (evps_cons (evp_ev ev_c (.int _)) evps_nil))) (by simp)) evps_nil))) (by simp)) (evps_cons (evp_tup (evps_cons (evp_ev ev_c (.str _)) (evps_cons (evp_ev ev_c (.str _)) (evps_cons (evp_tup (evps_cons (evp_ev ev_c (.str _)) (evps_cons (evp_ev ev_c (.str _)) (evps_cons (evp_tup (evps_cons (evp_ev ev_c (.str _)) evps_nil) (by simp)) evps_nil))) (by simp)) evps_nil))) (by simp)) (evps_cons (evp_tup (evps_cons (evp_ev ev_c (.str _)) (evps_cons (evp_ev ev_c (.str _)) (evps_cons (evp_tup (evps_cons (evp_ev ev_c (.str _)) (evps_cons (evp_ev ev_c (.str _)) (evps_cons (evp_ev ev_c (.str _)) evps_nil))) (by simp)) evps_nil))) (by simp)) evps_nil))) (by simp)) fun v5 H3 e3 h5 => ?_
      have hst : Dp K (tp H3) v5 _ := h5
      refine asg_evp (K := K) (evp_tup (evps_cons (evp_tup (evps_cons (evp_ev ev_c (.str _)) (evps_cons (evp_ev ev_c (.str _)) (evps_cons (evp_tup (evps_cons (evp_ev ev_c (.str _)) (evps_cons (evp_ev ev_c (.str _)) (evps_cons (evp_ev ev_c (.int _)) evps_nil))) (by simp)) evps_nil))) (by simp)) (evps_cons (evp_tup (evps_cons (evp_ev ev_c (.str _)) (evps_cons (evp_ev ev_c (.str _)) (evps_cons (evp_tup (evps_cons (evp_tup (evps_cons (evp_ev ev_c (.str _)) (evps_cons (evp_ev ev_c (.int _)) evps_nil)) (by simp)) evps_nil) (by simp)) (evps_cons (evp_cat (evp_var rfl hst) (evp_tup (evps_cons (evp_tup (evps_cons (evp_ev ev_c (.str _)) (evps_cons (evp_ev ev_c (.str _)) evps_nil)) (by simp)) evps_nil) (by simp)) (by simp) (by simp) (by simp)) evps_nil)))) (by simp)) evps_nil)) (by simp)) fun v6 H4 e4 h6 => ?_
      have hlp : Dp K (tp H4) v6 _ := h6
      refine asg_evp (K := K) (evp_tup (evps_cons (evp_ev ev_c (.str _)) (evps_cons (evp_tup (evps_cons (evp_ev ev_c (.str _)) evps_nil) (by simp)) (evps_cons (evp_var rfl hlp) evps_nil))) (by simp)) fun v7 H5 e5 h7 => ?_
      have e25 := (e3.trans e4).trans e5
      have dvs5 := dpa_ex (Tp.of e25).ex dvs2
      cases dvs5 with | cons q0 dvs5 => cases dvs5 with | cons q1 dvs5 => cases dvs5 with | cons q2 dvs5 => cases dvs5 with | nil =>
        have c5 := e25 c _ c2
        refine ⟨_, rfl, c, _, 0, 0, rfl, rfl, c5, rfl, ?_⟩
        have Tl : ∀ o : HO, Tp H5 (L2.upd H5 c o) := fun o => Tp.lst c5
        refine ⟨loopB, _, _, _, rfl, .loop, Kp.mut (kH2.trans (Kp.of e25)) hcH, ?_, upd_same, .cons (dp_ex (Tl _).ex h7) (.cons (dp_ex (Tl _).ex q1) (.cons (dp_ex (Tl _).ex q2) .nil))⟩
        obtain ⟨x1, x2, x3, pp⟩ := P2
        exact ⟨x1, x2, x3, by rw [upd_ne pc]; exact e25 p _ pp⟩
    clear hmk dvs cH pH kH og
    rintro σ H1 ⟨g, vs, y5, y6, rfl, og, kH, pH, cH, dvs⟩
    -- the size
    refine ⟨fun σ' H' => ∃ (c : Addr) (vs : List V) (ts : List Top) (y3 y4 y5 y6 y7 : Option V), σ' = [some (.ref p), some (.ref b), some (.ref c), y3, y4, y5, y6, y7] ∧ okProg ts ∧ ts.length = 3 ∧ c ≠ p ∧ Kp [p] H H' ∧ Pail H' p ∧ H' c = some (.lst vs) ∧ DpAll K (tp H') vs (ts.map tEnc), ?_, ?_⟩
    · have lvs : vs.length = 3 := dpa_len dvs
      refine ⟨_, rfl, c, rfl, ⟨_, sq_of cH⟩, fun D hD => ?_⟩
      have nD : D ≠ p ∧ D ≠ c := by
        obtain ⟨x1, x2, x3, pp⟩ := pH
        exact ⟨(ne_of_none pp hD).symm, (ne_of_none cH hD).symm⟩
      refine lc_list (K := K) (a := c) (xs := vs) (fun i H' => H' D = some (.lst ((([(g.size : Int), (h.size : Int), (m.size : Int)] : List Int).take i).map V.int)) ∧ Kp [D] H1 H')
        ⟨upd_same, Kp.mut (Kp.refl _) hD⟩ (fun i H' _ z => sq_of (z.2 c _ (by simpa using nD.2.symm) cH)) ?_ ?_
      · rintro i x H' hi ⟨hDD, kD⟩
        have tD : Tp H1 H' := fun a xs e => kD a _ (fun q => by rw [List.mem_singleton.mp q, hD] at e; cases e) e
        have hi3 : i < 3 := by
          have := (List.getElem?_eq_some_iff.mp hi).1
          omega
        obtain ⟨d, hd, hx⟩ := dpa_getV dvs hi
        obtain ⟨z1, z2, bd, ed, hbt, hsz⟩ : ∃ z1 z2 bd, d = tEnc (z1, z2, bd) ∧ (∃ sc, okT sc bd) ∧ ([(g.size : Int), (h.size : Int), (m.size : Int)] : List Int).take (i + 1) = ([(g.size : Int), (h.size : Int), (m.size : Int)] : List Int).take i ++ [(bd.size : Int)] := by
          rcases i with _ | _ | _ | i
          · exact ⟨_, _, _, (Option.some.inj hd).symm, ⟨_, og⟩, rfl⟩
          · exact ⟨_, _, _, (Option.some.inj hd).symm, ⟨_, oh⟩, rfl⟩
          · exact ⟨_, _, _, (Option.some.inj hd).symm, ⟨_, om⟩, rfl⟩
          · omega
        subst ed
        obtain ⟨sc, hbt⟩ := hbt
        obtain ⟨a1, zs, rfl, s1, d1⟩ := dp_tup hx
        cases d1 with | cons g1 d1 => cases d1 with | cons g2 d1 => cases d1 with | cons g3 d1 => cases d1 with | nil =>
        refine ⟨a1, _, rfl, ex_t tp_sub (ex_t tD.ex s1), rfl, _, _, rfl, _, _, rfl, _, _, rfl, rfl, rfl, ?_⟩
        refine lc_yes ⟨_, rfl, bd, _, rfl, okT_deep hbt, okT_wf hbt, Nat.le_trans (okT_size hbt) (by decide), dp_ex tp_sub (dp_ex tD.ex g3), fun H4 e4 => ?_⟩
        refine ⟨_, e4 D _ hDD, ?_, ?_, ?_⟩
        · rw [List.length_map]
          refine Nat.lt_of_le_of_lt (List.length_take_le _ _) (Nat.lt_of_lt_of_le hi3 (by decide))
        · rw [upd_same, hsz, List.map_append]
          rfl
        · exact Kp.mut (kD.trans (Kp.of e4)) hD
      · rintro H' ⟨hDD, kD⟩
        have tD : Tp H1 H' := fun a xs e => kD a _ (fun q => by rw [List.mem_singleton.mp q, hD] at e; cases e) e
        rw [lvs] at hDD
        have kH' : Kp [p] H H' := fun x o nx hx => kD x o (fun q => by
          rw [List.mem_singleton.mp q] at hx nx
          have := kH D o nx hx
          rw [hD] at this
          cases this) (kH x o nx hx)
        have pH' : Pail H' p := by
          obtain ⟨x1, x2, x3, pp⟩ := pH
          exact ⟨x1, x2, x3, kD p _ (by simpa using nD.1.symm) pp⟩
        have cH' : H' c = some (.lst vs) := kD c _ (by simpa using nD.2.symm) cH
        refine ⟨D, _, rfl, sq_of hDD, _, _, rfl, rfl, _, rfl, ite2 (fun _ => ?_) (fun hc => ?_)⟩
        · -- three that are fixed
          refine asg1_evp (K := K) (evp_tup (evps_cons (evp_ev ev_c (.str _)) (evps_cons (evp_tup (evps_cons (evp_ev ev_c (.str _)) evps_nil) (by simp)) (evps_cons (evp_tup (evps_cons (evp_tup (evps_cons (evp_ev ev_c (.str _)) (evps_cons (evp_ev ev_c (.str _)) (evps_cons (evp_tup (evps_cons (evp_ev ev_c (.str _)) (evps_cons (evp_ev ev_c (.str _)) (evps_cons (evp_tup (evps_cons (evp_ev ev_c (.str _)) evps_nil) (by simp)) evps_nil))) (by simp)) evps_nil))) (by simp)) (evps_cons (evp_tup (evps_cons (evp_ev ev_c (.str _)) (evps_cons (evp_ev ev_c (.str _)) evps_nil)) (by simp)) evps_nil)) (by simp)) evps_nil))) (by simp)) fun v1 H2 e1 h1 l hl => ?_
          refine ⟨_, rfl, .inl ⟨rfl, _, sq_of upd_same⟩, arg_evp (K := K) (evp_tup (evps_cons (evp_ev ev_c (.str _)) (evps_cons (evp_tup (evps_cons (evp_ev ev_c (.str _)) evps_nil) (by simp)) (evps_cons (evp_tup (evps_cons (evp_tup (evps_cons (evp_ev ev_c (.str _)) (evps_cons (evp_ev ev_c (.str _)) (evps_cons (evp_tup (evps_cons (evp_ev ev_c (.str _)) (evps_cons (evp_ev ev_c (.str _)) (evps_cons (evp_ev ev_c (.str _)) evps_nil))) (by simp)) evps_nil))) (by simp)) (evps_cons (evp_tup (evps_cons (evp_ev ev_c (.str _)) (evps_cons (evp_ev ev_c (.str _)) (evps_cons (evp_tup (evps_cons (evp_ev ev_c (.str _)) (evps_cons (evp_ev ev_c (.int _)) evps_nil)) (by simp)) evps_nil))) (by simp)) evps_nil)) (by simp)) evps_nil))) (by simp)) fun v2 H3 e2 h2 => ⟨l, _, _, rfl, rfl, e2 l _ upd_same, by show 1 < sizeLine; decide, ?_⟩⟩
          refine ⟨_, rfl, .inl ⟨rfl, _, sq_of upd_same⟩, arg_evp (K := K) (evp_tup (evps_cons (evp_ev ev_c (.str _)) (evps_cons (evp_tup (evps_cons (evp_ev ev_c (.str _)) (evps_cons (evp_ev ev_c (.str _)) evps_nil)) (by simp)) (evps_cons (evp_tup (evps_cons (evp_tup (evps_cons (evp_ev ev_c (.str _)) (evps_cons (evp_ev ev_c (.str _)) (evps_cons (evp_tup (evps_cons (evp_ev ev_c (.str _)) (evps_cons (evp_ev ev_c (.str _)) evps_nil)) (by simp)) evps_nil))) (by simp)) (evps_cons (evp_tup (evps_cons (evp_ev ev_c (.str _)) (evps_cons (evp_ev ev_c (.str _)) (evps_cons (evp_tup (evps_cons (evp_ev ev_c (.str _)) (evps_cons (evp_ev ev_c (.str _)) (evps_cons (evp_ev ev_c (.str _)) evps_nil))) (by simp)) evps_nil))) (by simp)) (evps_cons (evp_tup (evps_cons (evp_ev ev_c (.str _)) (evps_cons (evp_ev ev_c (.str _)) evps_nil)) (by simp)) evps_nil))) (by simp)) evps_nil))) (by simp)) fun v3 H4 e3 h3 => ⟨l, _, _, rfl, rfl, e3 l _ upd_same, by show 2 < sizeLine; decide, ?_⟩⟩
          have nl : l ≠ p := by
            obtain ⟨x1, x2, x3, pp⟩ := pH'
            exact (ne_of_none (e1 p _ pp) hl).symm
          have hlH : H l = none := by
            cases e : H l with
            | none => rfl
            | some u =>
              have := e1 l u (kH' l u (by simpa using nl) e)
              rw [hl] at this
              cases this
          have l2 : (upd H2 l (.lst [v1])) l = some (.lst [v1]) := upd_same
          have T1 : Tp H2 H3 := (Tp.new hl).trans (Tp.of e2)
          have T2 : Tp H3 (upd H3 l (.lst ([v1] ++ [v2]))) := Tp.lst (e2 l _ upd_same)
          have T3 : Tp H3 H4 := T2.trans (Tp.of e3)
          have T4 : Tp H4 (upd H4 l (.lst ([v1] ++ [v2] ++ [v3]))) := Tp.lst (e3 l _ upd_same)
          refine ⟨l, _, [("main", ["m"], mB), ("g", ["a"], gB), ("h", ["b", "c"], hB)], _, _, _, _, _, rfl, ⟨gB, hB, mB, ?_, .g, .h, .m, by decide⟩, rfl, nl, ?_, ?_, upd_same, .cons (dp_ex ((T1.trans T3).trans T4).ex h1) (.cons (dp_ex (T3.trans T4).ex h2) (.cons (dp_ex T4.ex h3) .nil))⟩
          · exact (List.Perm.swap _ _ _).trans ((List.Perm.swap _ _ _).cons _)
          · exact Kp.mut (((Kp.mut ((Kp.mut (kH'.trans (Kp.of e1)) hlH).trans (Kp.of e2)) hlH).trans (Kp.of e3))) hlH
          · obtain ⟨x1, x2, x3, pp⟩ := pH'
            refine ⟨x1, x2, x3, ?_⟩
            rw [upd_ne nl.symm]
            refine e3 p _ ?_
            rw [upd_ne nl.symm]
            refine e2 p _ ?_
            rw [upd_ne nl.symm]
            exact e1 p _ pp
        · refine ⟨c, vs, [("g", ["a"], g), ("h", ["b", "c"], h), ("main", ["m"], m)], _, _, _, _, _, rfl, ⟨g, h, m, List.Perm.refl _, og, oh, om, ?_⟩, rfl, pc.symm, kH', pH', cH', dpa_ex tD.ex dvs⟩
          have hc2 : ¬ ((90 : Int) < ([(g.size : Int), (h.size : Int), (m.size : Int)] : List Int).sum) := of_decide_eq_false (by simpa using hc)
          simp only [List.sum_cons, List.sum_nil] at hc2
          omega
    rintro σ H2 ⟨c2, ws, ts, z3, z4, z5, z6, z7, rfl, ⟨g2, h2, m2, hpm, og2, oh2, om2, hs2⟩, hl3, ncp, kH2, pH2, cH2, dws⟩
    have lws : ws.length = 3 := by rw [dpa_len dws, List.length_map, hl3]
    refine ⟨_, rfl, _, rfl, p, c2, ws, rfl, pH2, ncp, sq_of cH2, by omega, fun ys f2 H3 hperm hf hf3 k3 P3 => ⟨f2, ys, rfl, .inl ⟨sq_of hf3, fun t ht => ?_⟩⟩⟩
    have T3 : Tp H2 H3 := k3.tp (by intro a ha; obtain ⟨x, y, z, hp⟩ := pH2; exact ⟨_, (List.mem_singleton.mp ha) ▸ hp⟩)
    obtain ⟨ts', hts, dys⟩ := dpa_perm hperm (dpa_ex T3.ex dws)
    have ntp : t ≠ p := by
      obtain ⟨x1, x2, x3, pp⟩ := P3
      exact (ne_of_none pp ht).symm
    refine k ts' _ _ ⟨g2, h2, m2, hts.trans hpm, og2, oh2, om2, hs2⟩ ((kH2.trans k3).trans (Kp.new ht)) ?_ (.tup (st_of (tp_of upd_same)) (dpa_ex (Tp.new ht).ex dys))
    obtain ⟨x1, x2, x3, pp⟩ := P3
    exact ⟨x1, x2, x3, by rw [upd_ne ntp.symm]; exact pp⟩
end
end K2

set_option maxHeartbeats 4000000
namespace PG
open PySem L2 Evl DL TL
/-! ### texts of tokens -/
/-- tokens with one blank between -/
def sp (ts : List Str) : Str := Str.join " " ts
theorem tl_sp (ts : List Str) : tl (sp ts) = joinL [32] (ts.map tl) := tl_join " " ts
theorem joinL_cons {S : List Nat} {p : List Nat} {r : List (List Nat)} (h : r ≠ []) : joinL S (p :: r) = p ++ (S ++ joinL S r) := by
  cases r with
  | nil => exact absurd rfl h
  | cons q r => rfl
theorem joinL_app {S : List Nat} : ∀ {a b : List (List Nat)}, a ≠ [] → b ≠ [] → joinL S (a ++ b) = joinL S a ++ (S ++ joinL S b)
  | [], b, h, _ => absurd rfl h
  | [p], b, _, h => by rw [List.singleton_append, joinL_cons h]; rfl
  | p :: q :: r, b, _, h => by
    rw [List.cons_append, joinL_cons (by simp), joinL_app (a := q :: r) (by simp) h, joinL_cons (p := p) (r := q :: r) (by simp)]
    simp only [List.append_assoc]
theorem sp_one (t : Str) : sp [t] = t := rfl
theorem sp_app {a b : List Str} (ha : a ≠ []) (hb : b ≠ []) : sp (a ++ b) = sp a ++ " " ++ sp b := by
  apply ext_tl
  rw [tl_append, tl_append, tl_sp, tl_sp, tl_sp, List.map_append, joinL_app (by simpa using ha) (by simpa using hb), List.append_assoc]
  rfl
theorem sp_cons {t : Str} {b : List Str} (hb : b ≠ []) : sp (t :: b) = t ++ " " ++ sp b := sp_app (a := [t]) (by simp) hb
theorem sp_flat : ∀ {tss : List (List Str)}, (∀ ts ∈ tss, ts ≠ []) → Str.join " " (tss.map sp) = sp tss.flatten
  | [], _ => rfl
  | [ts], _ => by simp only [List.map_cons, List.map_nil, List.flatten_cons, List.flatten_nil, List.append_nil]; rfl
  | ts :: us :: r, h => by
    have ih := sp_flat (tss := us :: r) fun x hx => h x (List.mem_cons_of_mem _ hx)
    have hne : (us :: r).flatten ≠ [] := by
      have := h us (by simp)
      simp only [List.flatten_cons]
      intro e
      exact this (List.append_eq_nil_iff.mp e).1
    rw [List.flatten_cons, sp_app (h ts (by simp)) hne, ← ih]
    rfl
theorem joinL_len : ∀ (ps : List (List Nat)) (B : Nat), (∀ p ∈ ps, p.length ≤ B) → (joinL [32] ps).length ≤ (B + 1) * ps.length
  | [], B, _ => by simp [joinL]
  | [p], B, h => by
    have := h p (by simp)
    simp only [joinL, List.length_singleton]
    omega
  | p :: q :: r, B, h => by
    have ih := joinL_len (q :: r) B fun x hx => h x (List.mem_cons_of_mem _ hx)
    have := h p (by simp)
    rw [joinL_cons (by simp), List.length_append, List.length_append, List.length_cons (a := p), Nat.mul_succ]
    simp only [List.length_singleton]
    omega
/-! ### tokens -/
def ltr (c : Nat) : Bool := decide (97 ≤ c ∧ c ≤ 122)
def dig (c : Nat) : Bool := decide (48 ≤ c ∧ c ≤ 57)
def wdL : List Nat → Bool
  | [] => false
  | c :: r => ltr c && r.all fun d => ltr d || dig d
/-- a word of the language -/
def wd (x : Str) : Prop := wdL (tl x) = true ∧ x.length ≤ 12
def sgs : List Nat := [123, 125, 40, 41, 44, 59, 61, 60, 43, 45, 42]
/-- a token -/
def gtL (l : List Nat) : Bool := wdL l || (match l with | [c] => dig c || sgs.contains c | _ => false)
def gt (x : Str) : Prop := gtL (tl x) = true ∧ x.length ≤ 12
theorem wd.gt {x : Str} (h : wd x) : gt x := ⟨by unfold gtL; rw [h.1]; rfl, h.2⟩
def At.tok : At → Str
  | .num n => Str.ofString (toString n)
  | .nm x => x
def fnA : At → Prop
  | .num n => 0 ≤ n ∧ n ≤ 9
  | .nm x => wd x
theorem fnA_tok : ∀ {a : At}, fnA a → gt a.tok
  | .num n, h => by
    obtain ⟨m, rfl⟩ : ∃ m : Nat, n = (m : Int) := ⟨n.toNat, by have := h.1; omega⟩
    have hm : m < 10 := by have := h.2; omega
    unfold At.tok gt
    rw [len_tl, tl_num, numL_lt hm]
    refine ⟨?_, by simp⟩
    unfold gtL
    have : dig (48 + m) = true := by unfold dig; exact decide_eq_true (by omega)
    simp only [this, Bool.true_or, Bool.or_true]
  | .nm x, h => wd.gt h
mutual
/-- all names are words, numbers have one figure -/
def fnR : Rt → Prop
  | .two w a b => w ∈ wTwo ∧ fnA a ∧ fnA b
  | .one w a => w ∈ wOne ∧ fnA a
  | .call f xs => fnA f ∧ xs.length ≤ 2 ∧ ∀ a ∈ xs, fnA a
  | .fn ps b => ps.length ≤ 2 ∧ (∀ x ∈ ps, wd x) ∧ fnB b
def fnB : Bd → Prop
  | .give a => fnA a
  | .tail f xs => fnA f ∧ xs.length ≤ 2 ∧ ∀ a ∈ xs, fnA a
  | .cond a b c => fnA a ∧ fnB b ∧ fnB c
  | .lets x r rest => wd x ∧ fnR r ∧ fnB rest
  | .says a rest => fnA a ∧ fnB rest
end
/-! ### the tokens of a program -/
def coms : List Str → List Str
  | [] => []
  | [a] => [a]
  | a :: b :: r => a :: "," :: coms (b :: r)
def bdT0 (pss : List (List Str)) : List Str := "{" :: (pss.flatten ++ (["}"] : List Str))
def atsT (xs : List Str) : List Str := "(" :: (coms xs ++ ([")"] : List Str))
mutual
def rtT : Rt → List Str
  | .two w a b => if w = "pair" then ["pair", a.tok, b.tok] else [a.tok, w, b.tok]
  | .one w a => if w = "atom" then [a.tok] else [w, a.tok]
  | .call f xs => f.tok :: atsT (xs.map At.tok)
  | .fn ps b => "fun" :: (atsT ps ++ bdT0 (bdP b))
/-- statement by statement -/
def bdP : Bd → List (List Str)
  | .give a => [["give", a.tok, ";"]]
  | .tail f xs => ["give" :: f.tok :: (atsT (xs.map At.tok) ++ ([";"] : List Str))]
  | .cond a b c => ["if" :: a.tok :: (bdT0 (bdP b) ++ (("else" : Str) :: bdT0 (bdP c)))]
  | .lets x r rest => (x :: "=" :: (rtT r ++ ([";"] : List Str))) :: bdP rest
  | .says a rest => ["say", a.tok, ";"] :: bdP rest
end
def bdT (b : Bd) : List Str := bdT0 (bdP b)
def tpT (t : Top) : List Str := "def" :: t.1 :: (atsT t.2.1 ++ bdT t.2.2)
theorem rtT_ne : ∀ r : Rt, rtT r ≠ []
  | .two w a b => by simp only [rtT]; split <;> simp
  | .one w a => by simp only [rtT]; split <;> simp
  | .call f xs => by simp [rtT]
  | .fn ps b => by simp [rtT]
theorem bdP_ne : ∀ b : Bd, ∀ ts ∈ bdP b, ts ≠ []
  | .give a => by simp [bdP]
  | .tail f xs => by simp [bdP]
  | .cond a b c => by simp [bdP]
  | .lets x r rest => by
    intro ts h
    simp only [bdP] at h
    rcases List.mem_cons.mp h with h | h
    · simp [h]
    · exact bdP_ne rest ts h
  | .says a rest => by
    intro ts h
    simp only [bdP] at h
    rcases List.mem_cons.mp h with h | h
    · simp [h]
    · exact bdP_ne rest ts h
theorem bdP_pos : ∀ b : Bd, bdP b ≠ []
  | .give a => by simp [bdP]
  | .tail f xs => by simp [bdP]
  | .cond a b c => by simp [bdP]
  | .lets x r rest => by simp [bdP]
  | .says a rest => by simp [bdP]
theorem bdP_len : ∀ b : Bd, (bdP b).length = b.encs.length
  | .give a => by simp [bdP, Bd.encs]
  | .tail f xs => by simp [bdP, Bd.encs]
  | .cond a b c => by simp [bdP, Bd.encs]
  | .lets x r rest => by simp [bdP, Bd.encs, bdP_len rest]
  | .says a rest => by simp [bdP, Bd.encs, bdP_len rest]
theorem gt_const {x : Str} (h : (gtL (tl x) && decide (x.length ≤ 12)) = true) : gt x := by
  rw [Bool.and_eq_true] at h
  exact ⟨h.1, of_decide_eq_true h.2⟩
theorem coms_gt : ∀ {xs : List Str}, (∀ x ∈ xs, gt x) → ∀ x ∈ coms xs, gt x
  | [], _, x, h => by simp [coms] at h
  | [a], H, x, h => by simp only [coms, List.mem_singleton] at h; exact h ▸ H a (by simp)
  | a :: b :: r, H, x, h => by
    simp only [coms] at h
    rcases List.mem_cons.mp h with h | h
    · exact h ▸ H a (by simp)
    rcases List.mem_cons.mp h with h | h
    · exact h ▸ gt_const (by decide +kernel)
    · exact coms_gt (fun y hy => H y (List.mem_cons_of_mem _ hy)) x h
theorem coms_len : ∀ xs : List Str, (coms xs).length ≤ 2 * xs.length
  | [] => by simp [coms]
  | [a] => by simp [coms]
  | a :: b :: r => by
    have := coms_len (b :: r)
    simp only [coms, List.length_cons] at this ⊢
    omega
theorem atsT_gt {xs : List Str} (H : ∀ x ∈ xs, gt x) : ∀ x ∈ atsT xs, gt x := fun x h => by
  unfold atsT at h
  rcases List.mem_cons.mp h with h | h
  · exact h ▸ gt_const (by decide +kernel)
  rcases List.mem_append.mp h with h | h
  · exact coms_gt H x h
  · exact (List.mem_singleton.mp h) ▸ gt_const (by decide +kernel)
theorem atsT_len (xs : List Str) : (atsT xs).length ≤ 2 * xs.length + 2 := by
  have := coms_len xs
  unfold atsT
  simp only [List.length_cons, List.length_append, List.length_nil]
  omega
theorem bdT0_gt {pss : List (List Str)} (h : ∀ x ∈ pss.flatten, gt x) : ∀ x ∈ bdT0 pss, gt x := fun x hx => by
  unfold bdT0 at hx
  rcases List.mem_cons.mp hx with h1 | h1
  · exact h1 ▸ gt_const (by decide +kernel)
  rcases List.mem_append.mp h1 with h1 | h1
  · exact h x h1
  · exact (List.mem_singleton.mp h1) ▸ gt_const (by decide +kernel)
theorem bdT0_len (pss : List (List Str)) : (bdT0 pss).length = pss.flatten.length + 2 := by simp [bdT0]
theorem wTwo_gt {w : Str} (h : w ∈ wTwo) : gt w := by
  unfold wTwo wOps at h
  simp only [List.mem_append, List.mem_cons, List.not_mem_nil, or_false] at h
  rcases h with (h | h | h | h | h) | h <;> exact h ▸ gt_const (by decide +kernel)
theorem wOne_gt {w : Str} (h : w ∈ wOne) : gt w := by
  unfold wOne wSides at h
  simp only [List.mem_append, List.mem_cons, List.not_mem_nil, or_false] at h
  rcases h with (h | h | h) | h <;> exact h ▸ gt_const (by decide +kernel)
theorem all_cons {P : Str → Prop} {a : Str} {l : List Str} (h1 : P a) (h2 : ∀ x ∈ l, P x) : ∀ x ∈ a :: l, P x := fun x h => by
  rcases List.mem_cons.mp h with h | h
  · exact h ▸ h1
  · exact h2 x h
theorem all_app {P : Str → Prop} {a l : List Str} (h1 : ∀ x ∈ a, P x) (h2 : ∀ x ∈ l, P x) : ∀ x ∈ a ++ l, P x := fun x h => by
  rcases List.mem_append.mp h with h | h
  · exact h1 x h
  · exact h2 x h
theorem all_nil {P : Str → Prop} : ∀ x ∈ ([] : List Str), P x := fun x h => by simp at h
theorem toks_gt {xs : List At} (h : ∀ a ∈ xs, fnA a) : ∀ x ∈ xs.map At.tok, gt x := fun x hx => by
  obtain ⟨a, ha, rfl⟩ := List.mem_map.mp hx
  exact fnA_tok (h a ha)
mutual
theorem rtT_gt : ∀ {r : Rt}, fnR r → (∀ x ∈ rtT r, gt x) ∧ (rtT r).length ≤ 16 * r.size + 10
  | .two w a b, h => by
    simp only [fnR] at h
    simp only [rtT, Rt.size]
    split
    · exact ⟨all_cons (gt_const (by decide +kernel)) (all_cons (fnA_tok h.2.1) (all_cons (fnA_tok h.2.2) all_nil)), by simp⟩
    · exact ⟨all_cons (fnA_tok h.2.1) (all_cons (wTwo_gt h.1) (all_cons (fnA_tok h.2.2) all_nil)), by simp⟩
  | .one w a, h => by
    simp only [fnR] at h
    simp only [rtT, Rt.size]
    split
    · exact ⟨all_cons (fnA_tok h.2) all_nil, by simp⟩
    · exact ⟨all_cons (wOne_gt h.1) (all_cons (fnA_tok h.2) all_nil), by simp⟩
  | .call f xs, h => by
    simp only [fnR] at h
    simp only [rtT, Rt.size]
    refine ⟨all_cons (fnA_tok h.1) (atsT_gt (toks_gt h.2.2)), ?_⟩
    have := atsT_len (xs.map At.tok)
    rw [List.length_map] at this
    simp only [List.length_cons]
    omega
  | .fn ps b, h => by
    simp only [fnR] at h
    have ih := bdP_gt h.2.2
    simp only [rtT, Rt.size]
    refine ⟨all_cons (gt_const (by decide +kernel)) (all_app (atsT_gt fun x hx => (h.2.1 x hx).gt) (bdT0_gt ih.1)), ?_⟩
    have := atsT_len ps
    simp only [List.length_cons, List.length_append, List.length_nil, bdT0_len]
    omega
theorem bdP_gt : ∀ {b : Bd}, fnB b → (∀ x ∈ (bdP b).flatten, gt x) ∧ (bdP b).flatten.length ≤ 16 * b.size
  | .give a, h => by
    simp only [fnB] at h
    simp only [bdP, Bd.size, List.flatten_cons, List.flatten_nil, List.append_nil]
    exact ⟨all_cons (gt_const (by decide +kernel)) (all_cons (fnA_tok h) (all_cons (gt_const (by decide +kernel)) all_nil)), by simp⟩
  | .tail f xs, h => by
    simp only [fnB] at h
    simp only [bdP, Bd.size, List.flatten_cons, List.flatten_nil, List.append_nil]
    refine ⟨all_cons (gt_const (by decide +kernel)) (all_cons (fnA_tok h.1) (all_app (atsT_gt (toks_gt h.2.2)) (all_cons (gt_const (by decide +kernel)) all_nil))), ?_⟩
    have := atsT_len (xs.map At.tok)
    rw [List.length_map] at this
    simp only [List.length_cons, List.length_append, List.length_nil, bdT0_len]
    omega
  | .cond a b c, h => by
    simp only [fnB] at h
    have ih1 := bdP_gt h.2.1
    have ih2 := bdP_gt h.2.2
    simp only [bdP, Bd.size, List.flatten_cons, List.flatten_nil, List.append_nil]
    refine ⟨all_cons (gt_const (by decide +kernel)) (all_cons (fnA_tok h.1) (all_app (bdT0_gt ih1.1) (all_cons (gt_const (by decide +kernel)) (bdT0_gt ih2.1)))), ?_⟩
    simp only [List.length_cons, List.length_append, List.length_nil, bdT0_len]
    omega
  | .lets x r rest, h => by
    simp only [fnB] at h
    have ih1 := rtT_gt h.2.1
    have ih2 := bdP_gt h.2.2
    simp only [bdP, Bd.size, List.flatten_cons]
    refine ⟨all_app (all_cons h.1.gt (all_cons (gt_const (by decide +kernel)) (all_app ih1.1 (all_cons (gt_const (by decide +kernel)) all_nil)))) ih2.1, ?_⟩
    simp only [List.length_cons, List.length_append, List.length_nil, bdT0_len]
    omega
  | .says a rest, h => by
    simp only [fnB] at h
    have ih2 := bdP_gt h.2
    simp only [bdP, Bd.size, List.flatten_cons]
    refine ⟨all_app (all_cons (gt_const (by decide +kernel)) (all_cons (fnA_tok h.1) (all_cons (gt_const (by decide +kernel)) all_nil))) ih2.1, ?_⟩
    simp only [List.length_cons, List.length_append, List.length_nil, bdT0_len]
    omega
end
end PG

set_option maxHeartbeats 4000000
namespace DL
open PySem L2 Evl
theorem take_snoc {α : Type} {l : List α} {i : Nat} {x : α} (h : l[i]? = some x) : l.take (i + 1) = l.take i ++ [x] := by
  rw [List.take_succ, h]
  rfl
theorem exm {H H4 : Hp} {D : Addr} {o : HO} (e : Ex H H4) (h : H D = none) : Ex H (upd H4 D o) := fun x u hx => by
  rw [upd_ne (ne_of_none hx h)]
  exact e x u hx
end DL
namespace PG
open PySem L2 Evl DL TL
theorem la {x y : Str} {m n : Nat} (h : x.length ≤ m) (h' : y.length ≤ n) : (x ++ y).length ≤ m + n := by
  rw [len_tl, tl_append, List.length_append, ← len_tl, ← len_tl]
  omega
theorem sza {x y : Str} {m n : Nat} (h : x.length ≤ m) (h' : y.length ≤ n) (e : m + n ≤ 1000000) : x.length + y.length ≤ sizeLine :=
  Nat.le_trans (Nat.le_trans (Nat.add_le_add h h') e) (by decide)
theorem sp_len {ts : List Str} {n : Nat} (h : ∀ x ∈ ts, gt x) (hn : ts.length ≤ n) : (sp ts).length ≤ 13 * n := by
  rw [len_tl, tl_sp]
  have := joinL_len (ts.map tl) 12 fun p hp => by
    obtain ⟨x, hx, rfl⟩ := List.mem_map.mp hp
    rw [← len_tl]
    exact (h x hx).2
  rw [List.length_map] at this
  omega
theorem coms_text : ∀ xs : List Str, Str.join " , " xs = sp (coms xs)
  | [] => rfl
  | [a] => rfl
  | a :: b :: r => by
    have ih := coms_text (b :: r)
    have hne : coms (b :: r) ≠ [] := by cases r <;> simp [coms]
    simp only [coms]
    rw [sp_cons (by simp), sp_cons hne, ← ih]
    apply ext_tl
    show tl (a ++ " , " ++ Str.join " , " (b :: r)) = _
    simp only [tl_append, List.append_assoc]
    rfl
theorem atsT_text (xs : List Str) : (("( " : Str) ++ Str.join " , " xs) ++ (if xs = [] then ")" else " )") = sp (atsT xs) := by
  rw [coms_text]
  unfold atsT
  by_cases h : xs = []
  · subst h
    rw [if_pos rfl]
    apply ext_tl
    rfl
  · rw [if_neg h]
    have hne : coms xs ≠ [] := by
      cases xs with
      | nil => exact absurd rfl h
      | cons a r => cases r <;> simp [coms]
    rw [sp_cons (by simp), sp_app hne (by simp)]
    apply ext_tl
    simp only [tl_append, List.append_assoc]
    rfl
theorem bdT_text (b : Bd) : (("{ " : Str) ++ Str.join " " ((bdP b).map sp)) ++ " }" = sp (bdT0 (bdP b)) := by
  have hne : (bdP b).flatten ≠ [] := by
    have h1 := bdP_pos b
    have h2 := bdP_ne b
    cases e : bdP b with
    | nil => exact absurd e h1
    | cons t r =>
      rw [e] at h2
      have := h2 t (by simp)
      rw [List.flatten_cons]
      intro z
      exact this (List.append_eq_nil_iff.mp z).1
  rw [sp_flat (bdP_ne b)]
  unfold bdT0
  rw [sp_cons (by simp), sp_app hne (by simp)]
  apply ext_tl
  simp only [tl_append, List.append_assoc]
  rfl
/-- one statement and its tokens -/
inductive Pt (dd : Nat) : PyData → List Str → Prop where
  | lets (x : Str) (r : Rt) (hx : wd x) (hr : fnR r) (hd : r.deep < dd) (hs : r.size ≤ 90) : Pt dd (.tuple [.str "let", .str x, r.enc]) (x :: "=" :: (rtT r ++ ([";"] : List Str)))
  | tail (f : At) (xs : List At) (hf : fnA f) (hl : xs.length ≤ 2) (hx : ∀ a ∈ xs, fnA a) : Pt dd (.tuple [.str "tail", f.enc, .tuple (xs.map At.enc)]) ("give" :: f.tok :: (atsT (xs.map At.tok) ++ ([";"] : List Str)))
  | cond (a : At) (b c : Bd) (ha : fnA a) (hb : fnB b) (hc : fnB c) (db : b.deep < dd) (dc : c.deep < dd) (sb : b.size ≤ 90) (sc : c.size ≤ 90) : Pt dd (.tuple [.str "if", a.enc, .tuple b.encs, .tuple c.encs]) ("if" :: a.tok :: (bdT0 (bdP b) ++ (("else" : Str) :: bdT0 (bdP c))))
  | two (w : Str) (a : At) (hw : w = "give" ∨ w = "say") (ha : fnA a) : Pt dd (.tuple [.str w, a.enc]) [w, a.tok, ";"]
theorem Pt.mono {d d' : Nat} {x : PyData} {m : List Str} (h : Pt d x m) (hd : d ≤ d') : Pt d' x m := by
  cases h with
  | lets x r hx hr hd hs => exact .lets x r hx hr (by omega) hs
  | tail f xs hf hl hx => exact .tail f xs hf hl hx
  | cond a b c ha hb hc db dc sb sc => exact .cond a b c ha hb hc (by omega) (by omega) sb sc
  | two w a hw ha => exact .two w a hw ha
theorem pt_at : ∀ (b : Bd), fnB b → b.size ≤ 90 → ∀ (i : Nat) (d : PyData), b.encs[i]? = some d → ∃ m, (bdP b)[i]? = some m ∧ Pt b.deep d m
  | .give a, hf, _, i, d, h => by
    simp only [fnB] at hf
    cases i with
    | zero => simp only [Bd.encs] at h; cases h; exact ⟨_, rfl, .two "give" a (.inl rfl) hf⟩
    | succ i => simp [Bd.encs] at h
  | .tail f xs, hf, _, i, d, h => by
    simp only [fnB] at hf
    cases i with
    | zero => simp only [Bd.encs] at h; cases h; exact ⟨_, rfl, .tail f xs hf.1 hf.2.1 hf.2.2⟩
    | succ i => simp [Bd.encs] at h
  | .cond a b c, hf, hs, i, d, h => by
    simp only [fnB] at hf
    simp only [Bd.size] at hs
    cases i with
    | zero => simp only [Bd.encs] at h; cases h; exact ⟨_, rfl, .cond a b c hf.1 hf.2.1 hf.2.2 (by simp only [Bd.deep]; omega) (by simp only [Bd.deep]; omega) (by omega) (by omega)⟩
    | succ i => simp [Bd.encs] at h
  | .lets x r rest, hf, hs, i, d, h => by
    simp only [fnB] at hf
    simp only [Bd.size] at hs
    cases i with
    | zero => simp only [Bd.encs] at h; cases h; exact ⟨_, rfl, .lets x r hf.1 hf.2.1 (by simp only [Bd.deep]; omega) (by omega)⟩
    | succ i =>
      simp only [Bd.encs, List.getElem?_cons_succ] at h
      obtain ⟨m, h1, h2⟩ := pt_at rest hf.2.2 (by omega) i d h
      exact ⟨m, by simpa only [bdP, List.getElem?_cons_succ] using h1, h2.mono (by simp only [Bd.deep]; omega)⟩
  | .says a rest, hf, hs, i, d, h => by
    simp only [fnB] at hf
    simp only [Bd.size] at hs
    cases i with
    | zero => simp only [Bd.encs] at h; cases h; exact ⟨_, rfl, .two "say" a (.inr rfl) hf.1⟩
    | succ i =>
      simp only [Bd.encs, List.getElem?_cons_succ] at h
      obtain ⟨m, h1, h2⟩ := pt_at rest hf.2 (by omega) i d h
      exact ⟨m, by simpa only [bdP, List.getElem?_cons_succ] using h1, h2.mono (by simp only [Bd.deep]; omega)⟩
theorem map_enc_nm (ps : List Str) : (ps.map At.nm).map At.enc = ps.map PyData.str := by rw [List.map_map]; rfl
theorem map_tok_nm (ps : List Str) : (ps.map At.nm).map At.tok = ps := by rw [List.map_map]; exact List.map_id' ps
theorem fnA_log {n : Int} (h : fnA (.num n)) : n.natAbs.log2 < 1920 := by
  obtain ⟨m, rfl⟩ : ∃ m : Nat, n = (m : Int) := ⟨n.toNat, by have := h.1; omega⟩
  exact num_log (by have := h.2; omega)
/-- str(atom) -/
theorem str_tok {a : At} (h : fnA a) {H : Hp} {Q : VK} (q : Q (.str a.tok) H) : (∃ i, [a.val] = [V.int i] ∧ i.natAbs.log2 < 1920 ∧ Q (.str (toString i)) H) ∨ ∃ x, [a.val] = [V.str x] ∧ Q (.str x) H := by
  cases a with
  | num n => exact .inl ⟨n, rfl, fnA_log h, q⟩
  | nm x => exact .inr ⟨x, rfl, q⟩
theorem dpa_ats_eq {K : PySem.W.Frag} {H : Hp} : ∀ {xs : List At} {vs : List V}, DpAll K H vs (xs.map At.enc) → vs = xs.map At.val
  | [], _, .nil => rfl
  | .num n :: r, _, .cons a b => by rw [dp_int a, dpa_ats_eq b]; rfl
  | .nm x :: r, _, .cons a b => by rw [dp_str a, dpa_ats_eq b]; rfl
theorem dp_at_eq {K : PySem.W.Frag} {H : Hp} {a : At} {v : V} (h : Dp K H v a.enc) : v = a.val := by
  cases a with
  | num n => exact dp_int h
  | nm x => exact dp_str h
theorem strOk_of {x : Str} (h : ∀ c ∈ tl x, c < 1114112) : PyData.strOk x = true := by
  unfold PyData.strOk
  rw [← Array.all_toList]
  exact List.all_eq_true.mpr fun c hc => decide_eq_true (h c hc)
theorem wd_low {x : Str} (h : wd x) : ∀ c ∈ tl x, c < 128 := by
  have h1 := h.1
  revert h1
  generalize tl x = l
  intro h1 c hc
  cases l with
  | nil => simp at hc
  | cons d r =>
    simp only [wdL, Bool.and_eq_true, List.all_eq_true, Bool.or_eq_true] at h1
    rcases List.mem_cons.mp hc with e | e
    · subst e
      have := h1.1
      unfold ltr at this
      have := of_decide_eq_true this
      omega
    · rcases h1.2 c e with q | q
      · unfold ltr at q
        have := of_decide_eq_true q
        omega
      · unfold dig at q
        have := of_decide_eq_true q
        omega
theorem ats_shaped : ∀ {xs : List At}, (∀ a ∈ xs, fnA a) → SeqAt.shaped (.tuple (xs.map At.enc)) = true := by
  intro xs hf
  have h1 : PyData.canLayAll0 (xs.map At.enc) = true := by
    induction xs with
    | nil => rfl
    | cons a r ih =>
      have ih := ih fun b hb => hf b (List.mem_cons_of_mem _ hb)
      cases a with
      | num n => simp [At.enc, PyData.canLayAll0, PyData.canLay0, ih]
      | nm x =>
        have hx : PyData.strOk x = true := strOk_of fun c hc => by
          have := wd_low (hf (.nm x) (by simp)) c hc
          omega
        simp [At.enc, PyData.canLayAll0, PyData.canLay0, ih, hx]
  have h2 : PyData.depthAll (xs.map At.enc) ≤ 0 := by
    clear h1
    induction xs with
    | nil => simp [PyData.depthAll]
    | cons a r ih =>
      have ih := ih fun b hb => hf b (List.mem_cons_of_mem _ hb)
      cases a <;> simp_all [At.enc, PyData.depthAll, PyData.depth]
  unfold SeqAt.shaped
  simp only [PyData.canLay0, h1, Bool.true_and, PyData.depth]
  exact decide_eq_true (by omega)
theorem eqv_nil (xs : List At) : PyData.eqv (.tuple (xs.map At.enc)) (.tuple []) = xs.isEmpty := by cases xs <;> simp [PyData.eqv, PyData.eqvAll]
theorem tok_sum : ∀ {xs : List At}, (∀ a ∈ xs, fnA a) → (((xs.map At.tok).map (·.length)).sum ≤ 12 * xs.length)
  | [], _ => by simp
  | a :: r, h => by
    have := tok_sum (xs := r) fun b hb => h b (List.mem_cons_of_mem _ hb)
    have := (fnA_tok (h a (by simp))).2
    simp only [List.map_cons, List.sum_cons, List.length_cons]
    omega
end PG
namespace K2
open PySem L2 Evl DL PG TL
section
variable {P : Program} {w : World} {K : PySem.W.Frag} {mg : Str → Option Value} {base : Heap}
def spAts (K : PySem.W.Frag) : Sp := fun vs H Q _ => ∃ (xs : List At) (v : V), vs = [v] ∧ (∀ a ∈ xs, fnA a) ∧ xs.length ≤ 2 ∧ Dp K H v (.tuple (xs.map At.enc)) ∧ ∀ H', Ex H H' → Q (.str (sp (atsT (xs.map At.tok)))) H'
theorem bd_ats : BindP "_law_atoms_text" s_law_atoms_text ["atoms"] := fun _ _ _ _ _ _ us hl => match us, hl with | [_], _ => rfl
theorem ok_ats (T : Txt K mg) : DefOk P w K mg base CX0 false 1 "_law_atoms_text" s_law_atoms_text ["atoms"] (spAts K) := by
  refine T.d_law_atoms_text.ok scs_law_atoms_text (fun vs H Q E h => ?_) (fun f cdv A outer s0 H vs Q E hr h => ?_)
  · obtain ⟨xs, v, rfl, _⟩ := h
    rfl
  · obtain ⟨xs, v, rfl, hf, hl, hv, k⟩ := h
    obtain ⟨a, vs, rfl, hS, hxs⟩ := dp_tup hv
    have nd := scs_law_atoms_text.nd
    refine ⟨_, pss_one (ps_ret (pe_op op_add_str (pe_op op_add_str pe_str (pe_bm PySem.F.plainAttrs_str PySem.F.slot_str_join PySem.F.type_str_join mt_join pe_str (pa_cons
        (pe_lc (own := [("atom", 1)]) (g := gName 1) (tt := tYes) rfl nd (pi_tup (pv 0))
          (blkOk_by (N := ["atoms", "atom"]) (sc := defScope s_law_atoms_text) (by decide +kernel)) (fun _ _ _ _ _ => pg_name (i := 1) nd rfl (Or.inl rfl)) (fun _ _ _ _ _ => pts_nil)
          (fun _ _ _ _ _ => pe_callTy (CallR.or call_str_int SkE.call_str_str) (by rfl) T.b_str (by decide +kernel) (pa_cons (pv 1) pa_nil))) pa_nil)))
        (pe_ifExp (pt_cmpR (op_neD hr.units) (pv 0) (pe_tup pa_nil) (nomark _)) pe_str pe_str))), ?_⟩
    refine ⟨rfl, _, rfl, a, rfl, ⟨_, hS⟩, fun D hD => ?_⟩
    obtain rfl := dpa_ats_eq hxs
    refine lc_tup (K := K) (a := a) (xs := xs.map At.val) (fun i H' => H' D = some (.lst (((xs.map At.tok).take i).map V.str)) ∧ Ex H H') ⟨upd_same, exm (Ex.refl _) hD⟩ (fun i H' _ z => ex_t z.2 hS) ?_ ?_
    · rintro i x H' hi ⟨hDD, e⟩
      rw [List.getElem?_map] at hi
      obtain ⟨b, hb, rfl⟩ := Option.map_eq_some_iff.mp hi
      have hlt := (List.getElem?_eq_some_iff.mp hb).1
      have fin : ∃ acc, H' D = some (.lst acc) ∧ acc.length < sizeLine ∧ ((upd H' D (.lst (acc ++ [V.str b.tok]))) D = some (.lst (((xs.map At.tok).take (i + 1)).map V.str)) ∧ Ex H (upd H' D (.lst (acc ++ [V.str b.tok])))) := by
        refine ⟨_, hDD, ?_, ?_, exm e hD⟩
        · simp only [List.length_map, List.length_take]
          exact Nat.lt_of_le_of_lt (Nat.min_le_left _ _) (Nat.lt_of_lt_of_le (show i < 2 by omega) (by decide))
        · rw [upd_same, take_snoc (show (xs.map At.tok)[i]? = some b.tok by rw [List.getElem?_map, hb]; rfl), List.map_append]
          rfl
      have hfb := hf b (List.mem_of_getElem? hb)
      refine ⟨rfl, lc_yes ⟨_, rfl, ?_⟩⟩
      cases b with
      | num n => exact .inl ⟨n, rfl, fnA_log hfb, fin⟩
      | nm x => exact .inr ⟨x, rfl, fin⟩
    · rintro H' ⟨hDD, e⟩
      rw [List.length_map] at hDD
      have ht : (xs.map At.tok).take xs.length = xs.map At.tok := by rw [← List.length_map (f := At.tok), List.take_length]
      rw [ht] at hDD
      have hz := tok_sum hf
      have hj : (Str.join " , " (xs.map At.tok)).length ≤ 52 := by
        rw [coms_text]
        refine sp_len (n := 4) (coms_gt (toks_gt hf)) ?_
        have := coms_len (xs.map At.tok)
        rw [List.length_map] at this
        omega
      refine ⟨_, D, xs.map At.tok, rfl, rfl, .inl (sq_of hDD), ?_, ?_⟩
      · rw [List.length_map, show (Str.ofString " , ").length = 3 from rfl]
        omega
      rw [join_eq]
      refine ⟨_, _, rfl, rfl, sza (m := 2) (by decide) hj (by decide), ?_⟩
      refine ⟨_, rfl, by decide, fun t ht2 => ⟨_, .tuple [], dp_ex ((e.trans (Ex.new ht2))) hv, .tup (st_of upd_same) .nil, ats_shaped hf, by decide, ?_⟩⟩
      rw [eqv_nil]
      refine ⟨_, rfl, ?_⟩
      have fin : ∀ c : Str, c = (if xs.map At.tok = [] then ")" else " )") → c.length ≤ 2 → ∃ i j, V.str (("( " : Str) ++ Str.join " , " (xs.map At.tok)) = V.str i ∧ V.str c = V.str j ∧ i.length + j.length ≤ sizeLine ∧ Q (.str (i ++ j)) (upd H' t (.tup [])) := by
        intro c hc h2
        refine ⟨_, _, rfl, rfl, sza (la (m := 2) (by decide) hj) h2 (by decide), ?_⟩
        rw [hc, atsT_text]
        exact k _ (e.trans (Ex.new ht2))
      cases xs with
      | nil => exact fin ")" rfl (by decide)
      | cons a0 r => exact fin " )" rfl (by decide)
end
end K2

set_option maxHeartbeats 4000000
namespace PG
open PySem L2 Evl DL TL
theorem atsT_ne (xs : List Str) : atsT xs ≠ [] := by simp [atsT]
theorem bdT0_ne (p : List (List Str)) : bdT0 p ≠ [] := by simp [bdT0]
theorem tx_fun (a b : List Str) (ha : a ≠ []) (hb : b ≠ []) : ((("fun " : Str) ++ sp a) ++ " ") ++ sp b = sp ("fun" :: (a ++ b)) := by
  rw [sp_cons (by simp [ha]), sp_app ha hb]
  apply ext_tl
  simp only [tl_append, List.append_assoc]
  rfl
theorem tx_cons (x : Str) (a : List Str) (ha : a ≠ []) : (x ++ " ") ++ sp a = sp (x :: a) := (sp_cons ha).symm
theorem tx_three (x y z : Str) : (((x ++ " ") ++ y) ++ " ") ++ z = sp [x, y, z] := by
  rw [sp_cons (by simp), sp_cons (by simp), sp_one]
  apply ext_tl
  simp only [tl_append, List.append_assoc]
theorem tx_let (x : Str) (r : List Str) (hr : r ≠ []) : ((x ++ " = ") ++ sp r) ++ " ;" = sp (x :: "=" :: (r ++ ([";"] : List Str))) := by
  rw [sp_cons (by simp), sp_cons (by simp), sp_app hr (by simp), sp_one]
  apply ext_tl
  simp only [tl_append, List.append_assoc]
  rfl
theorem tx_tail (x : Str) (a : List Str) (ha : a ≠ []) : (((("give " : Str) ++ x) ++ " ") ++ sp a) ++ " ;" = sp ("give" :: x :: (a ++ ([";"] : List Str))) := by
  rw [sp_cons (by simp), sp_cons (by simp), sp_app ha (by simp), sp_one]
  apply ext_tl
  simp only [tl_append, List.append_assoc]
  rfl
theorem tx_if (x : Str) (b c : List Str) (hb : b ≠ []) (hc : c ≠ []) : ((((("if " : Str) ++ x) ++ " ") ++ sp b) ++ " else ") ++ sp c = sp ("if" :: x :: (b ++ (("else" : Str) :: c))) := by
  rw [sp_cons (by simp), sp_cons (by simp), sp_app hb (by simp), sp_cons hc]
  apply ext_tl
  simp only [tl_append, List.append_assoc]
  rfl
theorem tx_two (w x : Str) : ((w ++ " ") ++ x) ++ " ;" = sp [w, x, ";"] := by
  rw [sp_cons (by simp), sp_cons (by simp), sp_one]
  apply ext_tl
  simp only [tl_append, List.append_assoc]
  rfl
theorem tx_def (x : Str) (a b : List Str) (ha : a ≠ []) (hb : b ≠ []) : (((("def " : Str) ++ x) ++ " ") ++ sp a) ++ " " ++ sp b = sp ("def" :: x :: (a ++ b)) := by
  rw [sp_cons (by simp), sp_cons (by simp [ha]), sp_app ha hb]
  apply ext_tl
  simp only [tl_append, List.append_assoc]
  rfl
end PG
namespace K2
open PySem L2 Evl DL PG TL
section
variable {P : Program} {w : World} {K : PySem.W.Frag} {mg : Str → Option Value} {base : Heap}
def spRtT (K : PySem.W.Frag) (dd : Nat) : Sp := fun vs H Q _ => ∃ (r : Rt) (v : V), vs = [v] ∧ r.deep < dd ∧ fnR r ∧ r.size ≤ 90 ∧ Dp K H v r.enc ∧ ∀ H', Ex H H' → Q (.str (sp (rtT r))) H'
def spPtT (K : PySem.W.Frag) (dd : Nat) : Sp := fun vs H Q _ => ∃ (d : PyData) (t : List Str) (v : V), vs = [v] ∧ Pt dd d t ∧ Dp K H v d ∧ ∀ H', Ex H H' → Q (.str (sp t)) H'
def spBdT (K : PySem.W.Frag) (dd : Nat) : Sp := fun vs H Q _ => ∃ (b : Bd) (v : V), vs = [v] ∧ b.deep ≤ dd ∧ fnB b ∧ b.size ≤ 90 ∧ Dp K H v (.tuple b.encs) ∧ ∀ H', Ex H H' → Q (.str (sp (bdT0 (bdP b)))) H'
theorem bd_rtT : BindP "_law_right_text" s_law_right_text ["right"] := fun _ _ _ _ _ _ us hl => match us, hl with | [_], _ => rfl
theorem bd_ptT : BindP "_law_point_text" s_law_point_text ["each"] := fun _ _ _ _ _ _ us hl => match us, hl with | [_], _ => rfl
theorem bd_bdT : BindP "_law_body_text" s_law_body_text ["body"] := fun _ _ _ _ _ _ us hl => match us, hl with | [_], _ => rfl
theorem len_bd {b : Bd} (hf : fnB b) (hs : b.size ≤ 90) : (sp (bdT0 (bdP b))).length ≤ 18746 := by
  have h := bdP_gt hf
  refine sp_len (n := 1442) (bdT0_gt h.1) ?_
  rw [bdT0_len]
  omega
theorem len_rt {r : Rt} (hf : fnR r) (hs : r.size ≤ 90) : (sp (rtT r)).length ≤ 18850 := by
  have h := rtT_gt hf
  exact sp_len (n := 1450) h.1 (by omega)
theorem len_ats {xs : List At} (hf : ∀ a ∈ xs, fnA a) (hl : xs.length ≤ 2) : (sp (atsT (xs.map At.tok))).length ≤ 78 := by
  refine sp_len (n := 6) (atsT_gt (toks_gt hf)) ?_
  have := atsT_len (xs.map At.tok)
  rw [List.length_map] at this
  omega
def rAt : List V → Hp → VK → Prop := fun xs H Q => ∃ a : At, fnA a ∧ xs = [a.val] ∧ Q (.str a.tok) H
theorem call_str_at {X : Cx} : CallR X (.type "str") rAt := fun pins s σ H xs us Q I r h => by
  obtain ⟨a, ha, rfl, q⟩ := h
  exact (CallR.or call_str_int SkE.call_str_str) pins s σ H _ us Q I r (str_tok ha q)
theorem tlc_toks {a : Addr} {xs : List At} {H : Hp} {Q : List V → Hp → Prop} (hf : ∀ a ∈ xs, fnA a) (hl : xs.length ≤ 5) (hS : SqT K H a (xs.map At.val)) (k : ∀ D H', Ex H H' → H' D = some (.lst ((xs.map At.tok).map V.str)) → Q [.ref D] H') :
    tCons (tLc (iTup K (tVar 0)) (gName 1) tYes (tCB rAt (tCons (tVar 1) tNil)) [1]) tNil [some (.ref a), none] H Q := by
  refine ⟨_, rfl, a, rfl, ⟨_, hS⟩, fun D hD => ?_⟩
  refine lc_tup (K := K) (a := a) (xs := xs.map At.val) (fun i H' => H' D = some (.lst (((xs.map At.tok).take i).map V.str)) ∧ Ex H H') ⟨upd_same, exm (Ex.refl _) hD⟩ (fun i H' _ z => ex_t z.2 hS) ?_ ?_
  · rintro i x H' hi ⟨hDD, e⟩
    rw [List.getElem?_map] at hi
    obtain ⟨b, hb, rfl⟩ := Option.map_eq_some_iff.mp hi
    have hlt := (List.getElem?_eq_some_iff.mp hb).1
    refine ⟨rfl, lc_yes ⟨_, rfl, b, hf b (List.mem_of_getElem? hb), rfl, _, hDD, ?_, ?_, exm e hD⟩⟩
    · simp only [List.length_map, List.length_take]
      exact Nat.lt_of_le_of_lt (Nat.min_le_left _ _) (Nat.lt_of_lt_of_le (show i < 5 by omega) (by decide))
    · rw [upd_same, take_snoc (show (xs.map At.tok)[i]? = some b.tok by rw [List.getElem?_map, hb]; rfl), List.map_append]
      rfl
  · rintro H' ⟨hDD, e⟩
    rw [List.length_map] at hDD
    have ht : (xs.map At.tok).take xs.length = xs.map At.tok := by rw [← List.length_map (f := At.tok), List.take_length]
    rw [ht] at hDD
    exact k D H' e hDD
theorem ok_rtT (T : Txt K mg) {k dd : Nat} (hk : 1 ≤ k) (DB : DefOk P w K mg base CX0 false k "_law_body_text" s_law_body_text ["body"] (spBdT K dd)) :
    DefOk P w K mg base CX0 false (k + 1) "_law_right_text" s_law_right_text ["right"] (spRtT K (dd + 1)) := by
  refine T.d_law_right_text.ok scs_law_right_text (fun vs H Q E h => ?_) (fun f cdv A outer s0 H vs Q E hr h => ?_)
  · obtain ⟨r, v, rfl, _⟩ := h
    rfl
  · obtain ⟨r, v, rfl, hd, hf, hs, hv, kk⟩ := h
    have nd := scs_law_right_text.nd
    have hr1 : Room 1 _ := hr.mono hk
    refine ⟨_, pss_cons (ps_if (pt_cmpR op_eq (pe_ix ix_tup (pv 0) pe_int (fun _ _ => rfl)) pe_str (nomark _))
        (pss_one (ps_ret (pe_op op_add_str (pe_op op_add_str (pe_op op_add_str pe_str (pe_callD (ok_ats T) hr1 (.inl rfl) bd_ats pass0 (pa_cons (pe_ix ix_tup (pv 0) pe_int (fun _ _ => rfl)) pa_nil))) pe_str) (pe_callD DB hr (.inl rfl) bd_bdT pass0 (pa_cons (pe_ix ix_tup (pv 0) pe_int (fun _ _ => rfl)) pa_nil))))) pss_nil)
      (pss_cons (ps_if (pt_cmpR op_eq (pe_ix ix_tup (pv 0) pe_int (fun _ _ => rfl)) pe_str (nomark _))
        (pss_one (ps_ret (pe_op op_add_str (pe_op op_add_str (pe_callTy call_str_at (by rfl) T.b_str (by decide +kernel) (pa_cons (pe_ix ix_tup (pv 0) pe_int (fun _ _ => rfl)) pa_nil)) pe_str) (pe_callD (ok_ats T) hr1 (.inl rfl) bd_ats pass0 (pa_cons (pe_ix ix_tup (pv 0) pe_int (fun _ _ => rfl)) pa_nil))))) pss_nil)
      (pss_cons (ps_if (pt_cmpR op_eq (pe_ix ix_tup (pv 0) pe_int (fun _ _ => rfl)) pe_str (nomark _))
        (pss_one (ps_ret (pe_callTy call_str_at (by rfl) T.b_str (by decide +kernel) (pa_cons (pe_ix ix_tup (pv 0) pe_int (fun _ _ => rfl)) pa_nil)))) pss_nil)
      (pss_cons (ps_if (pt_cmpR op_in_seq (pe_ix ix_tup (pv 0) pe_int (fun _ _ => rfl)) (pe_tup (pa_cons pe_str (pa_cons pe_str (pa_cons pe_str (pa_cons pe_str pa_nil))))) (by with_unfolding_all rfl))
        (pss_one (ps_ret (pe_bm PySem.F.plainAttrs_str PySem.F.slot_str_join PySem.F.type_str_join mt_join pe_str (pa_cons
          (pe_lc (own := [("part", 1)]) (g := gName 1) (tt := tYes) rfl nd (pi_tup (pv 0))
            (blkOk_by (N := ["right", "part"]) (sc := defScope s_law_right_text) (by decide +kernel)) (fun _ _ _ _ _ => pg_name (i := 1) nd rfl (Or.inl rfl)) (fun _ _ _ _ _ => pts_nil)
            (fun _ _ _ _ _ => pe_callTy call_str_at (by rfl) T.b_str (by decide +kernel) (pa_cons (pv 1) pa_nil))) pa_nil)))) pss_nil)
      (pss_one (ps_ret (pe_op op_add_str (pe_op op_add_str (pe_op op_add_str (pe_op op_add_str (pe_callTy call_str_at (by rfl) T.b_str (by decide +kernel) (pa_cons (pe_ix ix_tup (pv 0) pe_int (fun _ _ => rfl)) pa_nil)) pe_str) (pe_ix ix_tup (pv 0) pe_int (fun _ _ => rfl))) pe_str)
        (pe_callTy call_str_at (by rfl) T.b_str (by decide +kernel) (pa_cons (pe_ix ix_tup (pv 0) pe_int (fun _ _ => rfl)) pa_nil)))))))), ?_⟩
    cases r with
    | fn ps b =>
      simp only [Rt.enc] at hv
      simp only [fnR] at hf
      simp only [Rt.deep] at hd
      simp only [Rt.size] at hs
      obtain ⟨a, xs, rfl, hS, hxs⟩ := dp_tup hv
      cases hxs with | cons h1 hxs => cases hxs with | cons h2 hxs => cases hxs with | cons h3 hxs => cases hxs with | nil =>
      obtain rfl := dp_str h1
      have hfp : ∀ a ∈ ps.map At.nm, fnA a := fun a ha => by
        obtain ⟨x, hx, rfl⟩ := List.mem_map.mp ha
        exact hf.2.1 x hx
      refine ⟨_, rfl, a, _, 0, _, rfl, rfl, hS, rfl, rfl, _, rfl, itT (str_eq rfl) ?_⟩
      refine ⟨_, rfl, a, _, 1, _, rfl, rfl, hS, rfl, ps.map At.nm, _, rfl, hfp, by simpa using hf.1, by rw [map_enc_nm]; exact h2, fun H1 e1 => ?_⟩
      have l1 := len_ats hfp (by simpa using hf.1)
      refine ⟨_, _, rfl, rfl, sza (m := 4) (by decide) l1 (by decide), _, _, rfl, rfl, sza (n := 1) (la (m := 4) (by decide) l1) (by decide) (by decide), ?_⟩
      refine ⟨_, rfl, a, _, 2, _, rfl, rfl, ex_t e1 hS, rfl, b, _, rfl, by omega, hf.2.2, by omega, dp_ex e1 h3, fun H2 e2 => ?_⟩
      refine ⟨_, _, rfl, rfl, sza (la (n := 1) (la (m := 4) (by decide) l1) (by decide)) (len_bd hf.2.2 (by omega)) (by decide), ?_⟩
      rw [map_tok_nm, tx_fun _ _ (atsT_ne _) (bdT0_ne _)]
      have := kk H2 (e1.trans e2)
      simp only [rtT] at this
      exact this
    | call f xs =>
      simp only [Rt.enc] at hv
      simp only [fnR] at hf
      obtain ⟨a, ys, rfl, hS, hxs⟩ := dp_tup hv
      cases hxs with | cons h1 hxs => cases hxs with | cons h2 hxs => cases hxs with | cons h3 hxs => cases hxs with | nil =>
      obtain rfl := dp_str h1
      obtain rfl := dp_at_eq h2
      refine ⟨_, rfl, a, _, 0, _, rfl, rfl, hS, rfl, rfl, _, rfl, itF (str_ne (by decide +kernel)) ?_⟩
      refine ⟨_, rfl, a, _, 0, _, rfl, rfl, hS, rfl, rfl, _, rfl, itT (str_eq rfl) ?_⟩
      have l1 := len_ats hf.2.2 hf.2.1
      have l0 := (fnA_tok hf.1).2
      refine ⟨_, rfl, a, _, 1, _, rfl, rfl, hS, rfl, f, hf.1, rfl, _, _, rfl, rfl, sza l0 (show (" " : Str).length ≤ 1 by decide) (by decide), ?_⟩
      refine ⟨_, rfl, a, _, 2, _, rfl, rfl, hS, rfl, xs, _, rfl, hf.2.2, hf.2.1, h3, fun H1 e1 => ?_⟩
      refine ⟨_, _, rfl, rfl, sza (la (n := 1) l0 (by decide)) l1 (by decide), ?_⟩
      rw [tx_cons _ _ (atsT_ne _)]
      have := kk H1 e1
      simp only [rtT] at this
      exact this
    | one w a0 =>
      simp only [Rt.enc] at hv
      simp only [fnR] at hf
      obtain ⟨a, ys, rfl, hS, hxs⟩ := dp_tup hv
      cases hxs with | cons h1 hxs => cases hxs with | cons h2 hxs => cases hxs with | nil =>
      obtain rfl := dp_str h1
      obtain rfl := dp_at_eq h2
      have l0 := (fnA_tok hf.2).2
      have hw := hf.1
      by_cases hat : w = "atom"
      · subst hat
        refine ⟨_, rfl, a, _, 0, _, rfl, rfl, hS, rfl, rfl, _, rfl, itF (str_ne (by decide +kernel)) ?_⟩
        refine ⟨_, rfl, a, _, 0, _, rfl, rfl, hS, rfl, rfl, _, rfl, itF (str_ne (by decide +kernel)) ?_⟩
        refine ⟨_, rfl, a, _, 0, _, rfl, rfl, hS, rfl, rfl, _, rfl, itT (str_eq rfl) ?_⟩
        refine ⟨_, rfl, a, _, 1, _, rfl, rfl, hS, rfl, a0, hf.2, rfl, ?_⟩
        have := kk H (Ex.refl H)
        simp only [rtT, if_true, sp_one] at this
        exact this
      · have h3 : w = "left" ∨ w = "right" ∨ w = "paired" := by
          unfold wOne wSides at hw
          simp only [List.mem_append, List.mem_cons, List.not_mem_nil, or_false] at hw
          rcases hw with h | h
          · exact h
          · exact absurd h hat
        have n1 : w ≠ "fun" := by rcases h3 with h | h | h <;> subst h <;> decide +kernel
        have n2 : w ≠ "call" := by rcases h3 with h | h | h <;> subst h <;> decide +kernel
        refine ⟨_, rfl, a, _, 0, _, rfl, rfl, hS, rfl, rfl, _, rfl, itF (str_ne n1) ?_⟩
        refine ⟨_, rfl, a, _, 0, _, rfl, rfl, hS, rfl, rfl, _, rfl, itF (str_ne n2) ?_⟩
        refine ⟨_, rfl, a, _, 0, _, rfl, rfl, hS, rfl, rfl, _, rfl, itF (str_ne hat) ?_⟩
        refine ⟨_, rfl, a, _, 0, _, rfl, rfl, hS, rfl, by decide, fun t ht => ⟨t, _, rfl, .inr (st_of upd_same), rfl, rfl, _, rfl, itT (by rcases h3 with h | h | h <;> subst h <;> decide +kernel) ?_⟩⟩
        have hfx : ∀ a ∈ [At.nm w, a0], fnA a := by
          intro x hx
          rcases List.mem_cons.mp hx with h | h
          · subst h
            exact (by rcases h3 with h | h | h <;> subst h <;> exact ⟨by decide +kernel, by decide⟩ : wd w)
          · exact (List.mem_singleton.mp h) ▸ hf.2
        refine ⟨rfl, tlc_toks (xs := [At.nm w, a0]) hfx (by simp) (ex_t (Ex.new ht) hS) fun D H' e hDD => ?_⟩
        have hz := tok_sum hfx
        refine ⟨_, D, [w, a0.tok], rfl, rfl, .inl (sq_of hDD), ?_, ?_⟩
        · have e1 : (" " : Str).length = 1 := rfl
          simp only [List.map_cons, List.map_nil, At.tok, List.sum_cons, List.sum_nil, List.length_cons, List.length_nil] at hz ⊢
          omega
        rw [join_eq]
        have := kk H' ((Ex.new ht).trans e)
        simp only [rtT, if_neg hat] at this
        exact this
    | two w a0 b0 =>
      simp only [Rt.enc] at hv
      simp only [fnR] at hf
      obtain ⟨a, ys, rfl, hS, hxs⟩ := dp_tup hv
      cases hxs with | cons h1 hxs => cases hxs with | cons h2 hxs => cases hxs with | cons h2b hxs => cases hxs with | nil =>
      obtain rfl := dp_str h1
      obtain rfl := dp_at_eq h2
      obtain rfl := dp_at_eq h2b
      have hw := hf.1
      have l0 := (fnA_tok hf.2.1).2
      have l1 := (fnA_tok hf.2.2).2
      have l2 := (wTwo_gt hw).2
      by_cases hat : w = "pair"
      · subst hat
        refine ⟨_, rfl, a, _, 0, _, rfl, rfl, hS, rfl, rfl, _, rfl, itF (str_ne (by decide +kernel)) ?_⟩
        refine ⟨_, rfl, a, _, 0, _, rfl, rfl, hS, rfl, rfl, _, rfl, itF (str_ne (by decide +kernel)) ?_⟩
        refine ⟨_, rfl, a, _, 0, _, rfl, rfl, hS, rfl, rfl, _, rfl, itF (str_ne (by decide +kernel)) ?_⟩
        refine ⟨_, rfl, a, _, 0, _, rfl, rfl, hS, rfl, by decide, fun t ht => ⟨t, _, rfl, .inr (st_of upd_same), rfl, rfl, _, rfl, itT (by decide +kernel) ?_⟩⟩
        have hfx : ∀ a ∈ [At.nm "pair", a0, b0], fnA a := by
          intro x hx
          rcases List.mem_cons.mp hx with h | h
          · subst h
            exact (⟨by decide +kernel, by decide⟩ : wd "pair")
          rcases List.mem_cons.mp h with h | h
          · exact h ▸ hf.2.1
          · exact (List.mem_singleton.mp h) ▸ hf.2.2
        refine ⟨rfl, tlc_toks (xs := [At.nm "pair", a0, b0]) hfx (by simp) (ex_t (Ex.new ht) hS) fun D H' e hDD => ?_⟩
        have hz := tok_sum hfx
        refine ⟨_, D, ["pair", a0.tok, b0.tok], rfl, rfl, .inl (sq_of hDD), ?_, ?_⟩
        · have e1 : (" " : Str).length = 1 := rfl
          simp only [List.map_cons, List.map_nil, At.tok, List.sum_cons, List.sum_nil, List.length_cons, List.length_nil] at hz ⊢
          omega
        rw [join_eq]
        have := kk H' ((Ex.new ht).trans e)
        simp only [rtT, if_true] at this
        exact this
      · have h3 : w = "+" ∨ w = "-" ∨ w = "*" ∨ w = "<" ∨ w = "=" := by
          unfold wTwo wOps at hw
          simp only [List.mem_append, List.mem_cons, List.not_mem_nil, or_false] at hw
          rcases hw with h | h
          · exact h
          · exact absurd h hat
        have n1 : w ≠ "fun" := by rcases h3 with h | h | h | h | h <;> subst h <;> decide +kernel
        have n2 : w ≠ "call" := by rcases h3 with h | h | h | h | h <;> subst h <;> decide +kernel
        have n3 : w ≠ "atom" := by rcases h3 with h | h | h | h | h <;> subst h <;> decide +kernel
        refine ⟨_, rfl, a, _, 0, _, rfl, rfl, hS, rfl, rfl, _, rfl, itF (str_ne n1) ?_⟩
        refine ⟨_, rfl, a, _, 0, _, rfl, rfl, hS, rfl, rfl, _, rfl, itF (str_ne n2) ?_⟩
        refine ⟨_, rfl, a, _, 0, _, rfl, rfl, hS, rfl, rfl, _, rfl, itF (str_ne n3) ?_⟩
        refine ⟨_, rfl, a, _, 0, _, rfl, rfl, hS, rfl, by decide, fun t ht => ⟨t, _, rfl, .inr (st_of upd_same), rfl, rfl, _, rfl, itF (by rcases h3 with h | h | h | h | h <;> subst h <;> decide +kernel) ?_⟩⟩
        have hS2 := ex_t (K := K) (Ex.new ht (o := .tup [.str "pair", .str "left", .str "right", .str "paired"])) hS
        have c1 : (" " : Str).length ≤ 1 := by decide
        refine ⟨_, rfl, a, _, 1, _, rfl, rfl, hS2, rfl, a0, hf.2.1, rfl, _, _, rfl, rfl, sza l0 c1 (by decide), ?_⟩
        refine ⟨_, rfl, a, _, 0, _, rfl, rfl, hS2, rfl, _, _, rfl, rfl, sza (la l0 c1) l2 (by decide), _, _, rfl, rfl, sza (la (la l0 c1) l2) c1 (by decide), ?_⟩
        refine ⟨_, rfl, a, _, 2, _, rfl, rfl, hS2, rfl, b0, hf.2.2, rfl, _, _, rfl, rfl, sza (la (la (la l0 c1) l2) c1) l1 (by decide), ?_⟩
        rw [tx_three]
        have := kk _ (Ex.new ht (o := .tup [.str "pair", .str "left", .str "right", .str "paired"]))
        simp only [rtT, if_neg hat] at this
        exact this
end
end K2

set_option maxHeartbeats 4000000
namespace K2
open PySem L2 Evl DL PG TL
section
variable {P : Program} {w : World} {K : PySem.W.Frag} {mg : Str → Option Value} {base : Heap}
theorem ok_ptT (T : Txt K mg) {k dd : Nat} (hk : 1 ≤ k) (DR : DefOk P w K mg base CX0 false k "_law_right_text" s_law_right_text ["right"] (spRtT K dd))
    (DB : ∀ dq, dd = dq + 1 → DefOk P w K mg base CX0 false k "_law_body_text" s_law_body_text ["body"] (spBdT K dq)) :
    DefOk P w K mg base CX0 false (k + 1) "_law_point_text" s_law_point_text ["each"] (spPtT K dd) := by
  have hB' : ∃ spB : Sp, DefOk P w K mg base CX0 false k "_law_body_text" s_law_body_text ["body"] spB ∧ ∀ dq, dd = dq + 1 → spB = spBdT K dq := by
    cases dd with
    | zero =>
      obtain ⟨f, fd, F, hm⟩ := T.d_law_body_text.ex
      exact ⟨fun _ _ _ _ => False, ⟨f, fd, F, hm, ⟨fun _ _ _ _ h => h.elim, fun _ _ _ _ _ _ _ _ _ _ _ _ _ h => h.elim⟩⟩, fun dq h => nomatch h⟩
    | succ dq => exact ⟨_, DB dq rfl, fun dr h => by cases h; rfl⟩
  obtain ⟨spB, DB, hspB⟩ := hB'
  refine T.d_law_point_text.ok scs_law_point_text (fun vs H Q E h => ?_) (fun f cdv A outer s0 H vs Q E hr h => ?_)
  · obtain ⟨d, t, v, rfl, _⟩ := h
    rfl
  · obtain ⟨d, t, v, rfl, hp, hv, kk⟩ := h
    have nd := scs_law_point_text.nd
    have hr1 : Room 1 _ := hr.mono hk
    refine ⟨_, pss_cons (ps_if (pt_cmpR op_eq (pe_ix ix_tup (pv 0) pe_int (fun _ _ => rfl)) pe_str (nomark _))
        (pss_one (ps_ret (pe_op op_add_str (pe_op op_add_str (pe_op op_add_str (pe_ix ix_tup (pv 0) pe_int (fun _ _ => rfl)) pe_str) (pe_callD DR hr (.inl rfl) bd_rtT pass0 (pa_cons (pe_ix ix_tup (pv 0) pe_int (fun _ _ => rfl)) pa_nil))) pe_str))) pss_nil)
      (pss_cons (ps_if (pt_cmpR op_eq (pe_ix ix_tup (pv 0) pe_int (fun _ _ => rfl)) pe_str (nomark _))
        (pss_one (ps_ret (pe_op op_add_str (pe_op op_add_str (pe_op op_add_str (pe_op op_add_str pe_str (pe_callTy call_str_at (by rfl) T.b_str (by decide +kernel) (pa_cons (pe_ix ix_tup (pv 0) pe_int (fun _ _ => rfl)) pa_nil))) pe_str) (pe_callD (ok_ats T) hr1 (.inl rfl) bd_ats pass0 (pa_cons (pe_ix ix_tup (pv 0) pe_int (fun _ _ => rfl)) pa_nil))) pe_str))) pss_nil)
      (pss_cons (ps_if (pt_cmpR op_eq (pe_ix ix_tup (pv 0) pe_int (fun _ _ => rfl)) pe_str (nomark _))
        (pss_one (ps_ret (pe_op op_add_str (pe_op op_add_str (pe_op op_add_str (pe_op op_add_str (pe_op op_add_str pe_str (pe_callTy call_str_at (by rfl) T.b_str (by decide +kernel) (pa_cons (pe_ix ix_tup (pv 0) pe_int (fun _ _ => rfl)) pa_nil))) pe_str) (pe_callD DB hr (.inl rfl) bd_bdT pass0 (pa_cons (pe_ix ix_tup (pv 0) pe_int (fun _ _ => rfl)) pa_nil))) pe_str) (pe_callD DB hr (.inl rfl) bd_bdT pass0 (pa_cons (pe_ix ix_tup (pv 0) pe_int (fun _ _ => rfl)) pa_nil))))) pss_nil)
      (pss_one (ps_ret (pe_op op_add_str (pe_op op_add_str (pe_op op_add_str (pe_ix ix_tup (pv 0) pe_int (fun _ _ => rfl)) pe_str) (pe_callTy call_str_at (by rfl) T.b_str (by decide +kernel) (pa_cons (pe_ix ix_tup (pv 0) pe_int (fun _ _ => rfl)) pa_nil))) pe_str))))), ?_⟩
    have c1 : (" " : Str).length ≤ 1 := by decide
    have c2 : (" ;" : Str).length ≤ 2 := by decide
    cases hp with
    | lets x r hx hf hd hs =>
      obtain ⟨a, ys, rfl, hS, hxs⟩ := dp_tup hv
      cases hxs with | cons h1 hxs => cases hxs with | cons h2 hxs => cases hxs with | cons h3 hxs => cases hxs with | nil =>
      obtain rfl := dp_str h1
      obtain rfl := dp_str h2
      refine ⟨_, rfl, a, _, 0, _, rfl, rfl, hS, rfl, rfl, _, rfl, itT (str_eq rfl) ?_⟩
      have l3 : (" = " : Str).length ≤ 3 := by decide
      refine ⟨_, rfl, a, _, 1, _, rfl, rfl, hS, rfl, _, _, rfl, rfl, sza hx.2 l3 (by decide), ?_⟩
      refine ⟨_, rfl, a, _, 2, _, rfl, rfl, hS, rfl, r, _, rfl, hd, hf, hs, h3, fun H1 e1 => ?_⟩
      have l4 := len_rt hf hs
      refine ⟨_, _, rfl, rfl, sza (la hx.2 l3) l4 (by decide), _, _, rfl, rfl, sza (la (la hx.2 l3) l4) c2 (by decide), ?_⟩
      rw [tx_let _ _ (rtT_ne r)]
      exact kk H1 e1
    | tail f0 xs hf hl hx =>
      obtain ⟨a, ys, rfl, hS, hxs⟩ := dp_tup hv
      cases hxs with | cons h1 hxs => cases hxs with | cons h2 hxs => cases hxs with | cons h3 hxs => cases hxs with | nil =>
      obtain rfl := dp_str h1
      obtain rfl := dp_at_eq h2
      have l0 := (fnA_tok hf).2
      have l1 := len_ats hx hl
      have l5 : ("give " : Str).length ≤ 5 := by decide
      refine ⟨_, rfl, a, _, 0, _, rfl, rfl, hS, rfl, rfl, _, rfl, itF (str_ne (by decide +kernel)) ?_⟩
      refine ⟨_, rfl, a, _, 0, _, rfl, rfl, hS, rfl, rfl, _, rfl, itT (str_eq rfl) ?_⟩
      refine ⟨_, rfl, a, _, 1, _, rfl, rfl, hS, rfl, f0, hf, rfl, _, _, rfl, rfl, sza l5 l0 (by decide), _, _, rfl, rfl, sza (la l5 l0) c1 (by decide), ?_⟩
      refine ⟨_, rfl, a, _, 2, _, rfl, rfl, hS, rfl, xs, _, rfl, hx, hl, h3, fun H1 e1 => ?_⟩
      refine ⟨_, _, rfl, rfl, sza (la (la l5 l0) c1) l1 (by decide), _, _, rfl, rfl, sza (la (la (la l5 l0) c1) l1) c2 (by decide), ?_⟩
      rw [tx_tail _ _ (atsT_ne _)]
      exact kk H1 e1
    | cond a0 b c ha hb hc db dc sb sc =>
      obtain ⟨dq, rfl⟩ : ∃ dq, dd = dq + 1 := ⟨dd - 1, by omega⟩
      obtain rfl := hspB dq rfl
      obtain ⟨a, ys, rfl, hS, hxs⟩ := dp_tup hv
      cases hxs with | cons h1 hxs => cases hxs with | cons h2 hxs => cases hxs with | cons h3 hxs => cases hxs with | cons h4 hxs => cases hxs with | nil =>
      obtain rfl := dp_str h1
      obtain rfl := dp_at_eq h2
      have l0 := (fnA_tok ha).2
      have l5 : ("if " : Str).length ≤ 3 := by decide
      have l6 : (" else " : Str).length ≤ 6 := by decide
      have lb := len_bd hb sb
      have lc := len_bd hc sc
      refine ⟨_, rfl, a, _, 0, _, rfl, rfl, hS, rfl, rfl, _, rfl, itF (str_ne (by decide +kernel)) ?_⟩
      refine ⟨_, rfl, a, _, 0, _, rfl, rfl, hS, rfl, rfl, _, rfl, itF (str_ne (by decide +kernel)) ?_⟩
      refine ⟨_, rfl, a, _, 0, _, rfl, rfl, hS, rfl, rfl, _, rfl, itT (str_eq rfl) ?_⟩
      refine ⟨_, rfl, a, _, 1, _, rfl, rfl, hS, rfl, a0, ha, rfl, _, _, rfl, rfl, sza l5 l0 (by decide), _, _, rfl, rfl, sza (la l5 l0) c1 (by decide), ?_⟩
      refine ⟨_, rfl, a, _, 2, _, rfl, rfl, hS, rfl, b, _, rfl, by omega, hb, sb, h3, fun H1 e1 => ?_⟩
      refine ⟨_, _, rfl, rfl, sza (la (la l5 l0) c1) lb (by decide), _, _, rfl, rfl, sza (la (la (la l5 l0) c1) lb) l6 (by decide), ?_⟩
      refine ⟨_, rfl, a, _, 3, _, rfl, rfl, ex_t e1 hS, rfl, c, _, rfl, by omega, hc, sc, dp_ex e1 h4, fun H2 e2 => ?_⟩
      refine ⟨_, _, rfl, rfl, sza (la (la (la (la l5 l0) c1) lb) l6) lc (by decide), ?_⟩
      rw [tx_if _ _ _ (bdT0_ne _) (bdT0_ne _)]
      exact kk H2 (e1.trans e2)
    | two w0 a0 hw ha =>
      obtain ⟨a, ys, rfl, hS, hxs⟩ := dp_tup hv
      cases hxs with | cons h1 hxs => cases hxs with | cons h2 hxs => cases hxs with | nil =>
      obtain rfl := dp_str h1
      obtain rfl := dp_at_eq h2
      have l0 := (fnA_tok ha).2
      have n1 : w0 ≠ "let" := by rcases hw with h | h <;> subst h <;> decide +kernel
      have n2 : w0 ≠ "tail" := by rcases hw with h | h <;> subst h <;> decide +kernel
      have n3 : w0 ≠ "if" := by rcases hw with h | h <;> subst h <;> decide +kernel
      have lw : w0.length ≤ 4 := by rcases hw with h | h <;> subst h <;> decide
      refine ⟨_, rfl, a, _, 0, _, rfl, rfl, hS, rfl, rfl, _, rfl, itF (str_ne n1) ?_⟩
      refine ⟨_, rfl, a, _, 0, _, rfl, rfl, hS, rfl, rfl, _, rfl, itF (str_ne n2) ?_⟩
      refine ⟨_, rfl, a, _, 0, _, rfl, rfl, hS, rfl, rfl, _, rfl, itF (str_ne n3) ?_⟩
      refine ⟨_, rfl, a, _, 0, _, rfl, rfl, hS, rfl, _, _, rfl, rfl, sza lw c1 (by decide), ?_⟩
      refine ⟨_, rfl, a, _, 1, _, rfl, rfl, hS, rfl, a0, ha, rfl, _, _, rfl, rfl, sza (la lw c1) l0 (by decide), _, _, rfl, rfl, sza (la (la lw c1) l0) c2 (by decide), ?_⟩
      rw [tx_two]
      exact kk H (Ex.refl H)
theorem ok_bdT0 (T : Txt K mg) {k dd : Nat} (DP : DefOk P w K mg base CX0 false k "_law_point_text" s_law_point_text ["each"] (spPtT K dd)) :
    DefOk P w K mg base CX0 false (k + 1) "_law_body_text" s_law_body_text ["body"] (spBdT K dd) := by
  refine T.d_law_body_text.ok scs_law_body_text (fun vs H Q E h => ?_) (fun f cdv A outer s0 H vs Q E hr h => ?_)
  · obtain ⟨b, v, rfl, _⟩ := h
    rfl
  · obtain ⟨b, v, rfl, hd, hf, hs, hv, kk⟩ := h
    have nd := scs_law_body_text.nd
    refine ⟨_, pss_one (ps_ret (pe_op op_add_str (pe_op op_add_str pe_str (pe_bm PySem.F.plainAttrs_str PySem.F.slot_str_join PySem.F.type_str_join mt_join pe_str (pa_cons
          (pe_lc (own := [("each", 1)]) (g := gName 1) (tt := tYes) rfl nd (pi_tup (pv 0))
            (blkOk_by (N := ["body", "each"]) (sc := defScope s_law_body_text) (by decide +kernel)) (fun _ _ _ _ _ => pg_name (i := 1) nd rfl (Or.inl rfl)) (fun _ _ _ _ _ => pts_nil)
            (fun _ _ _ _ _ => pe_callD DP hr (.inl rfl) bd_ptT pass0 (pa_cons (pv 1) pa_nil))) pa_nil))) pe_str)), ?_⟩
    obtain ⟨a, xs, rfl, hS, hxs⟩ := dp_tup hv
    have lx : xs.length = (bdP b).length := by rw [dpa_len hxs, bdP_len]
    have hgt := bdP_gt hf
    refine ⟨rfl, _, rfl, a, rfl, ⟨_, hS⟩, fun D hD => ?_⟩
    refine lc_tup (K := K) (a := a) (xs := xs) (fun i H' => H' D = some (.lst ((((bdP b).map sp).take i).map V.str)) ∧ Ex H H') ⟨upd_same, exm (Ex.refl _) hD⟩ (fun i H' _ z => ex_t z.2 hS) ?_ ?_
    · rintro i x H' hi ⟨hDD, e⟩
      obtain ⟨d, hd', hx⟩ := dpa_getV hxs hi
      obtain ⟨m, hm, st⟩ := pt_at b hf hs i d hd'
      have hlt := (List.getElem?_eq_some_iff.mp hi).1
      have hsz := (Bd.encs_len b).1
      have hen : xs.length = b.encs.length := dpa_len hxs
      refine ⟨rfl, lc_yes ⟨_, rfl, d, m, _, rfl, st.mono hd, dp_ex e hx, fun H2 e2 => ⟨_, e2 D _ hDD, ?_, ?_, exm (e.trans e2) hD⟩⟩⟩
      · simp only [List.length_map, List.length_take]
        exact Nat.lt_of_le_of_lt (Nat.min_le_left _ _) (Nat.lt_of_lt_of_le (show i < 100 by omega) (by decide))
      · rw [upd_same, take_snoc (show ((bdP b).map sp)[i]? = some (sp m) by rw [List.getElem?_map, hm]; rfl), List.map_append]
        rfl
    · rintro H' ⟨hDD, e⟩
      have ht : ((bdP b).map sp).take xs.length = (bdP b).map sp := by rw [lx, ← List.length_map (f := sp), List.take_length]
      rw [ht] at hDD
      have htext := bdT_text b
      have hlen := len_bd hf hs
      rw [← htext] at hlen
      have hj : (Str.join " " ((bdP b).map sp)).length ≤ 18746 := by
        have e1 : ((("{ " : Str) ++ Str.join " " ((bdP b).map sp)) ++ " }").length = ("{ " : Str).length + (Str.join " " ((bdP b).map sp)).length + (" }" : Str).length := by
          rw [len_tl, tl_append, tl_append, List.length_append, List.length_append, ← len_tl, ← len_tl, ← len_tl]
        rw [e1] at hlen
        omega
      refine ⟨_, D, (bdP b).map sp, rfl, rfl, .inl (sq_of hDD), ?_, ?_⟩
      · have e1 : (" " : Str).length = 1 := rfl
        rw [e1, List.length_map, List.map_map]
        have hsum : ∀ (pss : List (List Str)), (∀ ps ∈ pss, ∀ x ∈ ps, gt x) → ((pss.map ((fun x : Str => x.length) ∘ sp)).sum ≤ 13 * pss.flatten.length) := by
          intro pss
          induction pss with
          | nil => intro _; simp
          | cons p r ih =>
            intro h
            have h1 := ih fun q hq => h q (List.mem_cons_of_mem _ hq)
            have h2 := sp_len (h p (by simp)) (Nat.le_refl p.length)
            simp only [List.map_cons, List.sum_cons, List.flatten_cons, List.length_append, Function.comp]
            omega
        have h1 := hsum (bdP b) fun ps hps x hx => hgt.1 x (List.mem_flatten.mpr ⟨ps, hps, hx⟩)
        have h2 := (Bd.encs_len b).1
        have h3 := bdP_len b
        have h4 := hgt.2
        omega
      rw [join_eq]
      refine ⟨_, _, rfl, rfl, sza (m := 2) (by decide) hj (by decide), _, _, rfl, rfl, sza (la (m := 2) (by decide) hj) (show (" }" : Str).length ≤ 2 by decide) (by decide), ?_⟩
      rw [htext]
      exact kk H' e
theorem ok_bdT (T : Txt K mg) : ∀ dd, DefOk P w K mg base CX0 false (3 * dd + 3) "_law_body_text" s_law_body_text ["body"] (spBdT K dd) := by
  intro dd
  induction dd with
  | zero =>
    have hR : DefOk P w K mg base CX0 false 1 "_law_right_text" s_law_right_text ["right"] (spRtT K 0) := by
      obtain ⟨f, fd, F, hm⟩ := T.d_law_right_text.ex
      refine ⟨f, fd, F, hm, ⟨fun vs H Q E h => ?_, fun _ _ _ _ _ _ vs _ _ _ _ _ _ h => ?_⟩⟩
      · obtain ⟨r, v, rfl, _⟩ := h
        rfl
      · obtain ⟨r, v, rfl, hd, _⟩ := h
        exact absurd hd (by omega)
    exact ok_bdT0 T (ok_ptT T (by decide) hR fun dq h => nomatch h)
  | succ dd ih => exact (ok_bdT0 T (ok_ptT T (by omega) (ok_rtT T (by omega) ih) fun dq h => by cases h; exact ih.mono (by omega))).mono (by omega)
end
end K2

set_option maxHeartbeats 4000000
namespace PG
open PySem L2 Evl DL TL
theorem wd_nmK {c : Nat} {x : Str} {k : Nat} (e : tl x = c :: numL k) (hc : ltr c = true) (hk : k < 10000000) : wd x := by
  have hl := numL_len (n := k) (k := 7) (by decide) (by omega)
  refine ⟨?_, by rw [len_tl, e, List.length_cons]; omega⟩
  rw [e]
  simp only [wdL, hc, Bool.true_and, List.all_eq_true, Bool.or_eq_true]
  intro d hd
  have := numL_digits k d hd
  refine .inr ?_
  unfold dig
  exact decide_eq_true (by omega)
theorem wd_nN {k : Nat} (hk : k < 10000000) : wd (nN k) := wd_nmK (tl_nN k) (by decide) hk
theorem wd_nP {k : Nat} (hk : k < 10000000) : wd (nP k) := wd_nmK (tl_nP k) (by decide) hk
theorem okA_fn {sc : List Str} (hsc : ∀ x ∈ sc, wd x) : ∀ {a : At}, okA sc a → fnA a
  | .num n, h => ⟨h.1, by have := h.2; omega⟩
  | .nm x, h => hsc x h
theorem okF_fn {sc : List Str} (hsc : ∀ x ∈ sc, wd x) : ∀ {a : At}, okF sc a → fnA a
  | .num n, h => h.elim
  | .nm x, h => by
    rcases h with h | h | h
    · exact h ▸ ⟨by decide +kernel, by decide⟩
    · exact h ▸ ⟨by decide +kernel, by decide⟩
    · exact hsc x h
mutual
theorem okR_fine {bx dp : Nat} : ∀ {sc : List Str} {r : Rt} {bx' : Nat}, (∀ x ∈ sc, wd x) → bx' < 10000000 → okR sc bx dp r bx' → fnR r
  | sc, .two w a b, _, hsc, _, h => by
    simp only [okR] at h
    simp only [fnR]
    exact ⟨h.2.1, okA_fn hsc h.2.2.1, okA_fn hsc h.2.2.2⟩
  | sc, .one w a, _, hsc, _, h => by
    simp only [okR] at h
    simp only [fnR]
    exact ⟨h.2.1, okA_fn hsc h.2.2⟩
  | sc, .call f xs, _, hsc, _, h => by
    simp only [okR] at h
    simp only [fnR]
    exact ⟨okF_fn hsc h.2.1, h.2.2.1, fun a ha => okA_fn hsc (h.2.2.2 a ha)⟩
  | sc, .fn ps b, _, hsc, hn, h => by
    simp only [okR] at h
    obtain ⟨n, dq, hn2, rfl, rfl, h⟩ := h
    have hle := (okB_le h).1
    have hps : ∀ x ∈ nPs bx n, wd x := fun x hx => by
      unfold nPs at hx
      obtain ⟨i, hi, rfl⟩ := List.mem_map.mp hx
      have := List.mem_range.mp hi
      exact wd_nP (by omega)
    simp only [fnR]
    refine ⟨by rw [nPs_len]; exact hn2, hps, okB_fine (fun x hx => ?_) hn h⟩
    rcases List.mem_append.mp hx with h1 | h1
    · exact hsc x h1
    · exact hps x h1
theorem okB_fine {bx dp mo st : Nat} : ∀ {sc : List Str} {b : Bd} {bx' : Nat}, (∀ x ∈ sc, wd x) → bx' < 10000000 → okB sc bx dp mo st b bx' → fnB b
  | sc, .give a, _, hsc, _, h => by
    simp only [okB] at h
    simp only [fnB]
    exact okA_fn hsc h.2
  | sc, .tail f xs, _, hsc, _, h => by
    simp only [okB] at h
    obtain ⟨_, hf, a, rfl, ha⟩ := h
    simp only [fnB]
    exact ⟨okF_fn hsc hf, by simp, fun b hb => (List.mem_singleton.mp hb) ▸ okA_fn hsc ha⟩
  | sc, .cond a b c, _, hsc, hn, h => by
    simp only [okB] at h
    obtain ⟨ha, mq, b1, rfl, h1, h2⟩ := h
    have hle := (okB_le h2).1
    simp only [fnB]
    exact ⟨okA_fn hsc ha, okB_fine hsc (by omega) h1, okB_fine hsc hn h2⟩
  | sc, .lets x r rest, _, hsc, hn, h => by
    simp only [okB] at h
    obtain ⟨sq, b1, rfl, h1, hx, h2⟩ := h
    have hle := (okB_le h2).1
    have hwx : wd x := hx ▸ wd_nN (by omega)
    simp only [fnB]
    refine ⟨hwx, okR_fine hsc (by omega) h1, okB_fine (fun y hy => ?_) hn h2⟩
    rcases List.mem_append.mp hy with h3 | h3
    · exact hsc y h3
    · exact (List.mem_singleton.mp h3) ▸ hwx
  | sc, .says a rest, _, hsc, hn, h => by
    simp only [okB] at h
    obtain ⟨sq, rfl, ha, h2⟩ := h
    simp only [fnB]
    exact ⟨okA_fn hsc ha, okB_fine hsc hn h2⟩
end
theorem wd_c {x : Str} (h : (wdL (tl x) && decide (x.length ≤ 12)) = true) : wd x := by
  rw [Bool.and_eq_true] at h
  exact ⟨h.1, of_decide_eq_true h.2⟩
theorem okT_fn {sc : List Str} {b : Bd} (hsc : ∀ x ∈ sc, wd x) (h : okT sc b) : fnB b := by
  cases h with
  | drawn hm h hn => exact okB_fine hsc (by omega) h
  | loop =>
    simp only [loopB, stepR, wrap, fnB, fnR, fnA, List.mem_singleton, forall_eq, List.length_singleton]
    refine ⟨wd_c (by decide +kernel), ⟨by decide +kernel, wd_c (by decide +kernel), by decide⟩, wd_c (by decide +kernel), by decide, wd_c (by decide +kernel), ⟨by decide +kernel, wd_c (by decide +kernel), by decide⟩, wd_c (by decide +kernel), ⟨wd_c (by decide +kernel), by decide, wd_c (by decide +kernel)⟩, wd_c (by decide +kernel), ⟨by decide +kernel, wd_c (by decide +kernel), wd_c (by decide +kernel)⟩, wd_c (by decide +kernel)⟩
  | m =>
    simp only [mB, fnB, fnR, fnA, List.mem_singleton, forall_eq, List.length_singleton]
    exact ⟨wd_c (by decide +kernel), ⟨wd_c (by decide +kernel), by decide, wd_c (by decide +kernel)⟩, wd_c (by decide +kernel)⟩
  | g =>
    simp only [gB, fnB, fnR, fnA]
    refine ⟨wd_c (by decide +kernel), ⟨by decide +kernel, wd_c (by decide +kernel), wd_c (by decide +kernel)⟩, wd_c (by decide +kernel), by simp, fun a ha => ?_⟩
    rcases List.mem_cons.mp ha with h | h
    · exact h ▸ wd_c (by decide +kernel)
    · exact (List.mem_singleton.mp h) ▸ (by decide : (0 : Int) ≤ 1 ∧ (1 : Int) ≤ 9)
  | h =>
    simp only [hB, fnB, fnR, fnA]
    exact ⟨wd_c (by decide +kernel), ⟨by decide +kernel, wd_c (by decide +kernel)⟩, wd_c (by decide +kernel), ⟨by decide +kernel, wd_c (by decide +kernel), wd_c (by decide +kernel)⟩, wd_c (by decide +kernel)⟩
/-! ### the text of a program -/
def progT (tops : List Top) : List Str := (tops.map tpT).flatten
theorem tpT_ne (t : Top) : tpT t ≠ [] := by simp [tpT]
structure okTop (t : Top) : Prop where
  nm : wd t.1
  ps : ∀ x ∈ t.2.1, wd x
  pl : t.2.1.length ≤ 2
  fn : fnB t.2.2
  sz : t.2.2.size ≤ 90
  dp : t.2.2.deep ≤ 7
theorem ok_tops {tops : List Top} (h : okProg tops) : (∀ t ∈ tops, okTop t) ∧ tops.length = 3 ∧ (tops.map fun t => t.2.2.size).sum ≤ 90 := by
  obtain ⟨g, h0, m, hp, og, oh, om, hs⟩ := h
  refine ⟨fun t ht => ?_, hp.length_eq, ?_⟩
  · have ht2 := hp.mem_iff.mp ht
    have hsc1 : ∀ x ∈ (["a"] : List Str), wd x := fun x hx => (List.mem_singleton.mp hx) ▸ wd_c (by decide +kernel)
    have hsc2 : ∀ x ∈ (["m"] : List Str), wd x := fun x hx => (List.mem_singleton.mp hx) ▸ wd_c (by decide +kernel)
    have hsc3 : ∀ x ∈ (["b", "c"] : List Str), wd x := fun x hx => by
      rcases List.mem_cons.mp hx with h | h
      · exact h ▸ wd_c (by decide +kernel)
      · exact (List.mem_singleton.mp h) ▸ wd_c (by decide +kernel)
    rcases List.mem_cons.mp ht2 with h | h
    · exact h ▸ ⟨(wd_c (by decide +kernel) : wd "g"), hsc1, Nat.le_of_ble_eq_true rfl, okT_fn hsc1 og, by show g.size ≤ 90; omega, okT_deep og⟩
    rcases List.mem_cons.mp h with h | h
    · exact h ▸ ⟨(wd_c (by decide +kernel) : wd "h"), hsc3, Nat.le_of_ble_eq_true rfl, okT_fn hsc3 oh, by show h0.size ≤ 90; omega, okT_deep oh⟩
    · exact (List.mem_singleton.mp h) ▸ ⟨(wd_c (by decide +kernel) : wd "main"), hsc2, Nat.le_of_ble_eq_true rfl, okT_fn hsc2 om, by show m.size ≤ 90; omega, okT_deep om⟩
  · rw [(hp.map fun t => t.2.2.size).sum_nat]
    simp only [List.map_cons, List.map_nil, List.sum_cons, List.sum_nil]
    omega
theorem tpT_gt {t : Top} (h : okTop t) : (∀ x ∈ tpT t, gt x) ∧ (tpT t).length ≤ 16 * t.2.2.size + 10 := by
  have hb := bdP_gt h.fn
  unfold tpT bdT
  refine ⟨all_cons (gt_const (by decide +kernel)) (all_cons h.nm.gt (all_app (atsT_gt fun x hx => (h.ps x hx).gt) (bdT0_gt hb.1))), ?_⟩
  have := atsT_len t.2.1
  have := h.pl
  simp only [List.length_cons, List.length_append, bdT0_len]
  omega
theorem progT_gt : ∀ {tops : List Top}, (∀ t ∈ tops, okTop t) → (∀ x ∈ progT tops, gt x) ∧ (progT tops).length ≤ 16 * (tops.map fun t => t.2.2.size).sum + 10 * tops.length
  | [], _ => ⟨by simp [progT], by simp [progT]⟩
  | t :: r, h => by
    have h1 := tpT_gt (h t (by simp))
    have h2 := progT_gt (tops := r) fun x hx => h x (List.mem_cons_of_mem _ hx)
    unfold progT at h2 ⊢
    simp only [List.map_cons, List.flatten_cons, List.sum_cons, List.length_cons, List.length_append]
    exact ⟨all_app h1.1 h2.1, by omega⟩
theorem prog_sum : ∀ {tops : List Top}, (∀ t ∈ tops, okTop t) → (((tops.map fun t => sp (tpT t)).map (·.length)).sum ≤ 20000 * tops.length)
  | [], _ => by simp
  | t :: r, h => by
    have h1 := tpT_gt (h t (by simp))
    have h3 := (h t (by simp)).sz
    have h4 := sp_len h1.1 (n := 1450) (by omega)
    have h2 := prog_sum (tops := r) fun x hx => h x (List.mem_cons_of_mem _ hx)
    simp only [List.map_cons, List.sum_cons, List.length_cons]
    omega
end PG
namespace K2
open PySem L2 Evl DL PG TL
section
variable {P : Program} {w : World} {K : PySem.W.Frag} {mg : Str → Option Value} {base : Heap}
def spText (K : PySem.W.Frag) : Sp := fun vs H Q _ => ∃ (tops : List Top) (v : V), vs = [v] ∧ okProg tops ∧ Dp K H v (.tuple (tops.map tEnc)) ∧ ∀ H', Ex H H' → Q (.str (sp (progT tops))) H'
theorem bd_text : BindP "_law_text" s_law_text ["program"] := fun _ _ _ _ _ _ us hl => match us, hl with | [_], _ => rfl
theorem ok_text (T : Txt K mg) : DefOk P w K mg base CX0 false 25 "_law_text" s_law_text ["program"] (spText K) := by
  refine T.d_law_text.ok scs_law_text (fun vs H Q E h => ?_) (fun f cdv A outer s0 H vs Q E hr h => ?_)
  · obtain ⟨b, v, rfl, _⟩ := h
    rfl
  · obtain ⟨tops, v, rfl, hp, hv, kk⟩ := h
    obtain ⟨hok, hlen, hsum⟩ := ok_tops hp
    have nd := scs_law_text.nd
    have hr1 : Room 1 _ := hr.mono (by decide)
    have DB := ok_bdT (P := P) (w := w) (base := base) T 7
    refine ⟨_, pss_cons (ps_set (i := 1) nd rfl (.inl rfl) (pe_lst pa_nil))
      (pss_cons (ps_for PassesOwn.never rfl (pi_tup (pv 0)) (pg_tup (by rfl) (pgs_cons (pg_name (i := 2) nd rfl (.inl rfl)) (pgs_cons (pg_name (i := 3) nd rfl (.inl rfl)) (pgs_cons (pg_name (i := 4) nd rfl (.inl rfl)) pgs_nil))))
        (pss_one (ps_expr (pe_bm PySem.F.plainAttrs_list PySem.F.slot_list_append PySem.F.type_list_append mt_append (pv 1) (pa_cons
          (pe_op op_add_str (pe_op op_add_str (pe_op op_add_str (pe_op op_add_str (pe_op op_add_str pe_str (pv 2)) pe_str) (pe_callD (ok_ats T) hr1 (.inl rfl) bd_ats pass0 (pa_cons (pv 3) pa_nil))) pe_str) (pe_callD DB hr (.inl rfl) bd_bdT pass0 (pa_cons (pv 4) pa_nil))) pa_nil)))))
      (pss_one (ps_ret (pe_bm PySem.F.plainAttrs_str PySem.F.slot_str_join PySem.F.type_str_join mt_join pe_str (pa_cons (pv 1) pa_nil))))), ?_⟩
    obtain ⟨a, xs, rfl, hS, hxs⟩ := dp_tup hv
    have lx : xs.length = tops.length := by rw [dpa_len hxs, List.length_map]
    refine ⟨sz1 (by simp), fun q hq => ?_⟩
    refine ⟨_, rfl, a, rfl, ⟨_, ex_t (Ex.new hq) hS⟩, ?_⟩
    refine for_tup (K := K) (a := a) (xs := xs) (fun i σ H' => ∃ y2 y3 y4 : Option V, σ = [some (.ref a), some (.ref q), y2, y3, y4] ∧ Ex H H' ∧ H' q = some (.lst (((tops.map fun t => sp (tpT t)).take i).map V.str)))
      ⟨none, none, none, rfl, Ex.new hq, upd_same⟩ (fun i σ H' _ z => by obtain ⟨_, _, _, _, e, _⟩ := z; exact ex_t e hS) ?_ ?_
    · rintro i x σ H' hi ⟨y2, y3, y4, rfl, e, hqq⟩
      obtain ⟨d, hd, hx⟩ := dpa_getV hxs hi
      rw [List.getElem?_map] at hd
      obtain ⟨t, ht, rfl⟩ := Option.map_eq_some_iff.mp hd
      have hlt := (List.getElem?_eq_some_iff.mp hi).1
      have hot := hok t (List.mem_of_getElem? ht)
      obtain ⟨a1, zs, rfl, s1, d1⟩ := dp_tup hx
      cases d1 with | cons g1 d1 => cases d1 with | cons g2 d1 => cases d1 with | cons g3 d1 => cases d1 with | nil =>
      obtain rfl := dp_str g1
      refine ⟨a1, _, rfl, ex_t e s1, rfl, _, _, rfl, _, _, rfl, _, _, rfl, rfl, ?_⟩
      have hfp : ∀ a ∈ t.2.1.map At.nm, fnA a := fun a ha => by
        obtain ⟨x, hx, rfl⟩ := List.mem_map.mp ha
        exact hot.ps x hx
      have l4 : ("def " : Str).length ≤ 4 := by decide
      have c1 : (" " : Str).length ≤ 1 := by decide
      have l1 := len_ats hfp (by simpa using hot.pl)
      have lb := len_bd hot.fn hot.sz
      refine ⟨_, rfl, .inl ⟨rfl, _, sq_of hqq⟩, _, rfl, _, _, rfl, rfl, sza l4 hot.nm.2 (by decide), _, _, rfl, rfl, sza (la l4 hot.nm.2) c1 (by decide), ?_⟩
      refine ⟨_, rfl, t.2.1.map At.nm, _, rfl, hfp, by simpa using hot.pl, by rw [map_enc_nm]; exact dp_ex e g2, fun H2 e2 => ?_⟩
      refine ⟨_, _, rfl, rfl, sza (la (la l4 hot.nm.2) c1) l1 (by decide), _, _, rfl, rfl, sza (la (la (la l4 hot.nm.2) c1) l1) c1 (by decide), ?_⟩
      refine ⟨_, rfl, t.2.2, _, rfl, hot.dp, hot.fn, hot.sz, dp_ex (e.trans e2) g3, fun H3 e3 => ?_⟩
      refine ⟨_, _, rfl, rfl, sza (la (la (la (la l4 hot.nm.2) c1) l1) c1) lb (by decide), ?_⟩
      refine ⟨q, _, _, rfl, rfl, e3 q _ (e2 q _ hqq), ?_, _, _, _, rfl, exm ((e.trans e2).trans e3) hq, ?_⟩
      · simp only [List.length_map, List.length_take]
        exact Nat.lt_of_le_of_lt (Nat.min_le_left _ _) (Nat.lt_of_lt_of_le (show i < 4 by omega) (by decide))
      · rw [upd_same, take_snoc (show (tops.map fun t => sp (tpT t))[i]? = some (sp (tpT t)) by rw [List.getElem?_map, ht]; rfl), List.map_append, map_tok_nm, tx_def _ _ _ (atsT_ne _) (bdT0_ne _)]
        rfl
    · rintro σ H' ⟨y2, y3, y4, rfl, e, hqq⟩
      have hfull : (tops.map fun t => sp (tpT t)).take xs.length = tops.map fun t => sp (tpT t) := by rw [lx, ← List.length_map (f := fun t => sp (tpT t)), List.take_length]
      rw [hfull] at hqq
      refine ⟨rfl, _, rfl, _, q, tops.map fun t => sp (tpT t), rfl, rfl, .inl (sq_of hqq), ?_, ?_⟩
      · have e1 : (" " : Str).length = 1 := rfl
        have h1 := prog_sum hok
        rw [e1, List.length_map]
        omega
      · rw [join_eq]
        have e2 : (tops.map fun t => sp (tpT t)) = (tops.map tpT).map sp := by rw [List.map_map]; rfl
        rw [e2, sp_flat (fun ts h => by
          obtain ⟨t, _, rfl⟩ := List.mem_map.mp h
          exact tpT_ne t)]
        exact kk H' e
end
end K2

set_option maxHeartbeats 4000000
namespace DL
open PySem L2 Evl PySem.Spec PyProof.Rows TL
def sgV (x : Str) : List V := (tl x).map fun c => V.str ⟨#[c]⟩
section
variable {X : Cx}
theorem sgV_get {x : Str} {j : Nat} {u : Value} (h : SignAt x j u) : ∃ v, (sgV x)[j]? = some v ∧ RelV v u := by
  obtain ⟨c, t, hc, rfl⟩ := h
  refine ⟨.str ⟨#[c]⟩, ?_, t, rfl⟩
  unfold sgV
  rw [List.getElem?_map, show (tl x)[j]? = some c by rw [← hc]; exact Array.getElem?_toList]
  rfl
theorem vals_sg : ∀ {vs : List V} {us : List Value}, vs.length = us.length → (∀ (j : Nat) (u : Value), us[j]? = some u → ∃ v, vs[j]? = some v ∧ RelV v u) → Vals vs us
  | [], [], _, _ => .nil
  | v :: vs, u :: us, hl, h => by
    obtain ⟨v', e, r⟩ := h 0 u rfl
    cases e
    exact .cons r (vals_sg (by simpa using hl) fun j w hw => by simpa using h (j + 1) w (by simpa using hw))
  | [], _ :: _, hl, _ => by simp at hl
  | _ :: _, [], hl, _ => by simp at hl
theorem call_list_txt (hc : X.calm = true) : CallR X (.type "list") (fun xs H Q => ∃ x, xs = [.str x] ∧ x.length ≤ sizeLine ∧ ∀ l, H l = none → Q (.ref l) (upd H l (.lst (sgV x)))) := by
  intro pins s σ H xs us Q I r h
  obtain ⟨x, rfl, hz, q⟩ := h
  obtain ⟨u, rfl, t, rfl⟩ := vals1 r
  refine call_list_str (I.ok.hd hc) x t (fun h' tk acc c' hk e hi => ?_) hz
  have hv : Vals (sgV x) acc.toList := by
    refine vals_sg ?_ fun j u hj => sgV_get (hi.2 j u (by rw [← hj, Array.getElem?_toList]))
    unfold sgV
    rw [List.length_map, Array.length_toList, Array.length_toList, hi.1]
  exact ⟨.ref s.heap.objs.size, _, I.laid hk (Nat.le_refl _) (show ObjOk X.prog X.w _ _ _ (.lst (sgV x)) from ⟨by unfold sgV; rw [List.length_map]; exact hz, acc.toList, c', hv, by rw [Array.toArray_toList]; exact e⟩), rfl, q _ (I.hok.fresh (Nat.le_refl _))⟩
end
end DL
namespace PG
open PySem L2 Evl DL TL
/-! ### reading, as the program does -/
def al (c : Nat) : Bool := ltr c || dig c
def wht (c : Nat) : Bool := c == 32 || c == 10
def sgn (c : Nat) : Bool := sgs.contains c
def toksP : List Nat → Option (List (List Nat))
  | [] => some []
  | c :: r => if wht c = true then toksP r else if al c = true then (toksP (r.dropWhile al)).map ((c :: r.takeWhile al) :: ·) else if sgn c = true then (toksP r).map ([c] :: ·) else none
termination_by l => l.length
decreasing_by
  all_goals simp only [List.length_cons]
  all_goals first | omega | (have := (List.dropWhile_suffix (p := al) (l := r)).length_le; omega)
inductive Tk where
  | bad
  | run
  | ok (ts : List (List Nat))
def Tk.add (w : List Nat) : Tk → Tk
  | .ok ts => .ok (w :: ts)
  | t => t
def ltrHead : List Nat → Bool
  | c :: _ => ltr c
  | [] => false
/-- reading, as the law does -/
def toksL : List Nat → Tk
  | [] => .ok []
  | c :: r =>
    if ltr c = true then (toksL (r.dropWhile al)).add (c :: r.takeWhile al)
    else if dig c = true then (if (ltrHead (r.dropWhile dig) || (decide (1 < (c :: r.takeWhile dig).length) && c == 48)) = true then .run else (toksL (r.dropWhile dig)).add (c :: r.takeWhile dig))
    else if sgn c = true then (toksL r).add [c]
    else if wht c = true then toksL r else .bad
termination_by l => l.length
decreasing_by
  all_goals simp only [List.length_cons]
  all_goals first | omega | (have := (List.dropWhile_suffix (p := al) (l := r)).length_le; omega) | (have := (List.dropWhile_suffix (p := dig) (l := r)).length_le; omega)
theorem al_dig {r : List Nat} (h : ltrHead (r.dropWhile dig) = false) : r.takeWhile al = r.takeWhile dig ∧ r.dropWhile al = r.dropWhile dig := by
  induction r with
  | nil => exact ⟨rfl, rfl⟩
  | cons c r ih =>
    by_cases hd : dig c = true
    · have ha : al c = true := by unfold al; rw [hd, Bool.or_true]
      simp only [List.dropWhile_cons, hd, if_true] at h
      simp only [List.takeWhile_cons, List.dropWhile_cons, hd, ha, if_true]
      exact ⟨by rw [(ih h).1], (ih h).2⟩
    · have hl : ltr c = false := by
        simp only [List.dropWhile_cons, hd, if_neg, Bool.false_eq_true, not_false_eq_true] at h
        exact h
      have ha : al c = false := by unfold al; rw [hl]; simpa using hd
      simp only [List.takeWhile_cons, List.dropWhile_cons, hd, ha]
      exact ⟨rfl, rfl⟩
theorem wht_not {c : Nat} (h : wht c = true) : ltr c = false ∧ dig c = false ∧ sgn c = false := by
  unfold wht at h
  simp only [Bool.or_eq_true, beq_iff_eq] at h
  rcases h with h | h <;> subst h <;> decide
theorem al_not {c : Nat} (h : al c = true) : wht c = false := by
  cases hw : wht c with
  | false => rfl
  | true =>
    have := wht_not hw
    unfold al at h
    rw [this.1, this.2.1] at h
    exact absurd h (by decide)
theorem sgn_not {c : Nat} (h : sgn c = true) : wht c = false := by
  cases hw : wht c with
  | false => rfl
  | true =>
    have := wht_not hw
    rw [this.2.2] at h
    exact absurd h (by decide)
/-- the two readings -/
theorem toks_agree : ∀ l : List Nat, match toksL l with
    | .bad => toksP l = none
    | .run => ∃ c ∈ l, wht c = false
    | .ok ts => toksP l = some ts ∧ (ts = [] → ∀ c ∈ l, wht c = true)
  | [] => by
    rw [toksL, toksP]
    exact ⟨rfl, fun _ c h => by simp at h⟩
  | c :: r => by
    rw [toksL]
    by_cases hl : ltr c = true
    · have ha : al c = true := by unfold al; rw [hl, Bool.true_or]
      have ih := toks_agree (r.dropWhile al)
      rw [if_pos hl, toksP, if_neg (by rw [al_not ha]; decide), if_pos ha]
      revert ih
      cases toksL (r.dropWhile al) with
      | bad => intro ih; simp only at ih; simp only [Tk.add, ih, Option.map_none]
      | run => intro ih; exact ⟨c, by simp, al_not ha⟩
      | ok ts => intro ih; exact ⟨by rw [ih.1]; rfl, fun h => nomatch h⟩
    · rw [if_neg hl]
      by_cases hd : dig c = true
      · have ha : al c = true := by unfold al; rw [hd, Bool.or_true]
        rw [if_pos hd]
        by_cases hn : (ltrHead (r.dropWhile dig) || (decide (1 < (c :: r.takeWhile dig).length) && c == 48)) = true
        · rw [if_pos hn]
          exact ⟨c, by simp, al_not ha⟩
        · rw [if_neg hn]
          simp only [Bool.or_eq_true, not_or] at hn
          have e := al_dig (r := r) (by simpa using hn.1)
          have ih := toks_agree (r.dropWhile dig)
          rw [toksP, if_neg (by rw [al_not ha]; decide), if_pos ha, e.1, e.2]
          revert ih
          cases toksL (r.dropWhile dig) with
          | bad => intro ih; simp only at ih; simp only [Tk.add, ih, Option.map_none]
          | run => intro ih; exact ⟨c, by simp, al_not ha⟩
          | ok ts => intro ih; exact ⟨by rw [ih.1]; rfl, fun h => nomatch h⟩
      · rw [if_neg hd]
        have ha : ¬ al c = true := by
          unfold al
          simp only [Bool.or_eq_true, not_or]
          exact ⟨hl, hd⟩
        by_cases hs : sgn c = true
        · have ih := toks_agree r
          rw [if_pos hs, toksP, if_neg (by rw [sgn_not hs]; decide), if_neg ha, if_pos hs]
          revert ih
          cases toksL r with
          | bad => intro ih; simp only at ih; simp only [Tk.add, ih, Option.map_none]
          | run => intro ih; exact ⟨c, by simp, sgn_not hs⟩
          | ok ts => intro ih; exact ⟨by rw [ih.1]; rfl, fun h => nomatch h⟩
        · rw [if_neg hs]
          by_cases hw : wht c = true
          · have ih := toks_agree r
            rw [if_pos hw, toksP, if_pos hw]
            revert ih
            cases toksL r with
            | bad => intro ih; exact ih
            | run =>
              intro ih
              obtain ⟨d, h1, h2⟩ := ih
              exact ⟨d, List.mem_cons_of_mem _ h1, h2⟩
            | ok ts =>
              intro ih
              refine ⟨ih.1, fun h d hd => ?_⟩
              rcases List.mem_cons.mp hd with e | e
              · exact e ▸ hw
              · exact ih.2 h d e
          · rw [if_neg hw, toksP, if_neg hw, if_neg ha, if_neg hs]
termination_by l => l.length
decreasing_by
  all_goals simp only [List.length_cons]
  all_goals first | omega | (have := (List.dropWhile_suffix (p := al) (l := r)).length_le; omega) | (have := (List.dropWhile_suffix (p := dig) (l := r)).length_le; omega)
end PG

set_option maxHeartbeats 4000000
namespace PG
open PySem L2 Evl DL TL
theorem range_mem (a n c : Nat) : c ∈ List.range' a n ↔ a ≤ c ∧ c < a + n := List.mem_range'_1
theorem in_letters (c : Nat) : decide (c ∈ tl "abcdefghijklmnopqrstuvwxyz") = ltr c := by
  have e : tl "abcdefghijklmnopqrstuvwxyz" = List.range' 97 26 := by decide +kernel
  rw [e]
  unfold ltr
  exact decide_eq_decide.mpr (by rw [range_mem]; omega)
theorem in_figures (c : Nat) : decide (c ∈ tl "0123456789") = dig c := by
  have e : tl "0123456789" = List.range' 48 10 := by decide +kernel
  rw [e]
  unfold dig
  exact decide_eq_decide.mpr (by rw [range_mem]; omega)
theorem in_signs (c : Nat) : decide (c ∈ tl "{}(),;=<+-*") = sgn c := by
  have e : tl "{}(),;=<+-*" = sgs := by decide +kernel
  rw [e]
  unfold sgn
  cases h : sgs.contains c with
  | true => exact decide_eq_true (by simpa using h)
  | false => exact decide_eq_false (by intro z; rw [List.contains_iff_mem.mpr z] at h; cases h)
theorem one_inj {c d : Nat} : (V.str ⟨#[c]⟩ = V.str ⟨#[d]⟩) ↔ c = d := by
  constructor
  · intro h
    injection h with h
    injection h with h
    have := congrArg Array.toList h
    simpa using this
  · rintro rfl; rfl
theorem in_parting (c : Nat) : inV (.str ⟨#[c]⟩) [.str " ", .str "\n"] = wht c := by
  unfold inV wht
  have e1 : (Str.ofString " ") = ⟨#[32]⟩ := ext_tl (by decide +kernel)
  have e2 : (Str.ofString "\n") = ⟨#[10]⟩ := ext_tl (by decide +kernel)
  rw [e1, e2]
  have h : ∀ d : Nat, eqV (.str ⟨#[d]⟩) (.str ⟨#[c]⟩) = (c == d) := fun d => by
    show ((⟨#[d]⟩ : Str) == ⟨#[c]⟩) = (c == d)
    by_cases e : c = d
    · subst e
      simp
    · have : ¬ ((⟨#[d]⟩ : Str) = ⟨#[c]⟩) := fun z => e (one_inj.mp (congrArg V.str z)).symm
      rw [show ((⟨#[d]⟩ : Str) == ⟨#[c]⟩) = false from beq_eq_false_iff_ne.mpr this, show (c == d) = false from beq_eq_false_iff_ne.mpr e]
  simp only [List.any_cons, List.any_nil, Bool.or_false, h]
theorem tw_at {p : Nat → Bool} : ∀ {l : List Nat} {j c : Nat}, (l.takeWhile p)[j]? = some c → l[j]? = some c ∧ p c = true
  | [], j, c, h => by simp at h
  | x :: l, j, c, h => by
    by_cases hp : p x = true
    · simp only [List.takeWhile_cons, hp, if_true] at h
      cases j with
      | zero => simp at h; subst h; exact ⟨rfl, hp⟩
      | succ j =>
        simp only [List.getElem?_cons_succ] at h
        have := tw_at h
        exact ⟨by simpa using this.1, this.2⟩
    · simp only [List.takeWhile_cons, hp] at h
      simp at h
theorem tw_end {p : Nat → Bool} : ∀ {l : List Nat} {c : Nat}, l[(l.takeWhile p).length]? = some c → p c = false
  | [], c, h => by simp at h
  | x :: l, c, h => by
    by_cases hp : p x = true
    · simp only [List.takeWhile_cons, hp, if_true, List.length_cons, List.getElem?_cons_succ] at h
      exact tw_end h
    · simp only [List.takeWhile_cons, hp] at h
      simp at h
      subst h
      simpa using hp
theorem tw_take {p : Nat → Bool} : ∀ l : List Nat, l.take (l.takeWhile p).length = l.takeWhile p
  | [] => rfl
  | x :: l => by
    by_cases hp : p x = true
    · simp only [List.takeWhile_cons, hp, if_true, List.length_cons, List.take_succ_cons, tw_take l]
    · simp [List.takeWhile_cons, hp]
theorem tw_drop {p : Nat → Bool} : ∀ l : List Nat, l.drop (l.takeWhile p).length = l.dropWhile p
  | [] => rfl
  | x :: l => by
    by_cases hp : p x = true
    · simp only [List.takeWhile_cons, List.dropWhile_cons, hp, if_true, List.length_cons, List.drop_succ_cons, tw_drop l]
    · simp [List.takeWhile_cons, List.dropWhile_cons, hp]
theorem tw_le {p : Nat → Bool} (l : List Nat) : (l.takeWhile p).length ≤ l.length := (List.takeWhile_prefix p).length_le
/-- x[n:n+k] -/
theorem cut_nk (x : Str) (n k : Nat) (h : n + k ≤ x.length) : cutS x (some (n : Int)) (some ((n + k : Nat) : Int)) = ⟨(((tl x).drop n).take k).toArray⟩ := by
  unfold cutS
  simp only [HT.sIx_nat, Nat.min_eq_left h, Nat.min_eq_left (show n ≤ x.length by omega), show n + k - n = k by omega]
end PG
namespace K2
open PySem L2 Evl DL PG TL
section
variable {P : Program} {w : World} {K : PySem.W.Frag} {mg : Str → Option Value} {base : Heap}
def spRun : Sp := fun vs H Q _ => ∃ (x : Str) (n : Nat), vs = [.str x, .int (n : Int)] ∧ n ≤ x.length ∧ x.length ≤ 1000000 ∧ Q (.str ⟨(((tl x).drop n).takeWhile al).toArray⟩) H
theorem bd_run : BindP "run_at" s_run_at ["text", "at"] := fun _ _ _ _ _ _ us hl => match us, hl with | [_, _], _ => rfl
theorem ok_run (T : Txt K mg) : DefOk P w K mg base CX0 false 1 "run_at" s_run_at ["text", "at"] spRun := by
  refine T.d_run_at.ok scs_run_at (fun vs H Q E h => ?_) (fun f cdv A outer s0 H vs Q E hr h => ?_)
  · obtain ⟨b, v, rfl, _⟩ := h
    rfl
  · obtain ⟨x, n, rfl, hn, hx, kk⟩ := h
    have nd := scs_run_at.nd
    have hz : x.length ≤ sizeLine := Nat.le_trans hx (by decide)
    refine ⟨_, pss_cons (ps_set (i := 2) nd rfl (.inl rfl) (pv 1))
      (pss_cons (ps_while PassesOwn.never (PW.pt (pw_and (pt_cmpR op_lt (pv 2) (pe_callB call_len_str (by rfl) T.b_len PySem.boot_len (pa_cons (pv 0) pa_nil)) (nomark _))
          (pw_and1 (PW.pt (pw_or (pt_cmpR op_in_sign (pe_ix ix_str (pv 0) (pv 2) (fun _ _ => rfl)) (pe_const T.c_LETTERS) (by with_unfolding_all rfl)) (pw_or1 (pt_cmpR op_in_sign (pe_ix ix_str (pv 0) (pv 2) (fun _ _ => rfl)) (pe_const T.c_FIGURES) (by with_unfolding_all rfl))))))))
        (pss_one (ps_set (i := 2) nd rfl (.inl rfl) (pe_op op_add (pv 2) pe_int))))
      (pss_one (ps_ret (pe_slice sl_str (pv 0) (po_some (pv 1)) (po_some (pv 2)))))), ?_⟩
    have lx : x.length = (tl x).length := len_tl x
    have hL := tw_le (p := al) ((tl x).drop n)
    rw [List.length_drop] at hL
    refine ⟨_, rfl, fun m σ H' => ∃ j, j ≤ (((tl x).drop n).takeWhile al).length ∧ σ = [some (.str x), some (.int (n : Int)), some (.int ((n + j : Nat) : Int))] ∧ H' = H ∧ m = (((tl x).drop n).takeWhile al).length - j, ⟨_, 0, Nat.zero_le _, rfl, rfl, rfl⟩, ?_⟩
    rintro m σ H' ⟨j, hj, rfl, rfl, rfl⟩
    have fin : j = (((tl x).drop n).takeWhile al).length → tSl rSlS (tVar 0) (tPart (tVar 1)) (tPart (tVar 2)) [some (V.str x), some (.int (n : Int)), some (.int ((n + j : Nat) : Int))] H' Q := by
      intro e
      refine ⟨_, rfl, _, rfl, _, rfl, _, rfl, _, rfl, x, rfl, hz, ?_⟩
      rw [cut_nk x n j (by omega), e, tw_take]
      exact kk
    refine ⟨_, rfl, _, rfl, x, rfl, hz, _, _, rfl, rfl, _, rfl, ?_⟩
    by_cases hlt : n + j < x.length
    · have hc : (tl x)[n + j]? = some ((tl x)[n + j]'(by omega)) := List.getElem?_eq_getElem _
      generalize (tl x)[n + j]'(by omega) = c at hc
      refine itT (decide_eq_true (by omega)) ?_
      refine ⟨_, rfl, _, rfl, x, _, c, rfl, rfl, hz, atI_nat hc, c, _, rfl, rfl, _, rfl, ?_⟩
      have step : al c = true → ∃ N : L2.St → Hp → Prop, (∀ σ' H'', N σ' H'' → ∃ m', m' < (((tl x).drop n).takeWhile al).length - j ∧ ∃ j, j ≤ (((tl x).drop n).takeWhile al).length ∧ σ' = [some (.str x), some (.int (n : Int)), some (.int ((n + j : Nat) : Int))] ∧ H'' = H' ∧ m' = (((tl x).drop n).takeWhile al).length - j) ∧ N [some (.str x), some (.int (n : Int)), some (.int ((n + (j + 1) : Nat) : Int))] H' := by
        intro ha
        have hjL : j < (((tl x).drop n).takeWhile al).length := by
          refine Nat.lt_of_le_of_ne hj fun e => ?_
          have := tw_end (p := al) (l := (tl x).drop n) (c := c) (by rw [← e, List.getElem?_drop]; exact hc)
          rw [ha] at this
          cases this
        exact ⟨fun σ' H'' => σ' = [some (.str x), some (.int (n : Int)), some (.int ((n + (j + 1) : Nat) : Int))] ∧ H'' = H', fun σ' H'' ⟨e1, e2⟩ => ⟨_, by omega, j + 1, hjL, e1, e2, rfl⟩, rfl, rfl⟩
      have stop : al c = false → j = (((tl x).drop n).takeWhile al).length := by
        intro ha
        refine Nat.le_antisymm hj (Nat.le_of_not_lt fun hjL => ?_)
        have h1 := tw_at (p := al) (l := (tl x).drop n) (List.getElem?_eq_getElem hjL)
        rw [List.getElem?_drop, hc] at h1
        rw [← Option.some.inj h1.1, ha] at h1
        exact absurd h1.2 (by decide)
      by_cases hl : ltr c = true
      · exact itT ((in_letters c).trans hl) (itT rfl (by
          obtain ⟨N, h1, h2⟩ := step (by unfold al; rw [hl, Bool.true_or])
          exact ⟨N, h1, _, rfl, _, _, rfl, rfl, h2⟩))
      · refine itF ((in_letters c).trans (by simpa using hl)) ⟨_, rfl, _, rfl, x, _, c, rfl, rfl, hz, atI_nat hc, c, _, rfl, rfl, _, rfl, ?_⟩
        by_cases hd : dig c = true
        · exact itT ((in_figures c).trans hd) (by
            obtain ⟨N, h1, h2⟩ := step (by unfold al; rw [hd, Bool.or_true])
            exact ⟨N, h1, _, rfl, _, _, rfl, rfl, h2⟩)
        · exact itF ((in_figures c).trans (by simpa using hd)) (fin (stop (by unfold al; simp [hl, hd])))
    · refine itF (decide_eq_false (by omega)) (itF rfl (fin ?_))
      omega
/-- texts of signs -/
def ofs (ts : List (List Nat)) : List Str := ts.map fun t => ⟨t.toArray⟩
theorem toksP_word {c : Nat} {r : List Nat} (hw : wht c = false) (ha : al c = true) : toksP (c :: r) = (toksP (r.dropWhile al)).map ((c :: r.takeWhile al) :: ·) := by
  rw [toksP, if_neg (by rw [hw]; decide), if_pos ha]
theorem toksP_sign {c : Nat} {r : List Nat} (hw : wht c = false) (ha : al c = false) (hs : sgn c = true) : toksP (c :: r) = (toksP r).map ([c] :: ·) := by
  rw [toksP, if_neg (by rw [hw]; decide), if_neg (by rw [ha]; decide), if_pos hs]
theorem toksP_bad {c : Nat} {r : List Nat} (hw : wht c = false) (ha : al c = false) (hs : sgn c = false) : toksP (c :: r) = none := by
  rw [toksP, if_neg (by rw [hw]; decide), if_neg (by rw [ha]; decide), if_neg (by rw [hs]; decide)]
theorem toksP_wht {c : Nat} {r : List Nat} (hw : wht c = true) : toksP (c :: r) = toksP r := by
  rw [toksP, if_pos hw]
def spIn (K : PySem.W.Frag) : Sp := fun vs H Q _ => ∃ (x : Str), vs = [.str x] ∧ x.length ≤ 1000000 ∧
  (∀ ts f l H', toksP (tl x) = some ts → Ex H H' → H' f = some (.lst ((ofs ts).map V.str)) → H' l = some (.lst [.ref f]) → Q (.ref l) H') ∧ (∀ l H', toksP (tl x) = none → Ex H H' → H' l = some (.lst []) → Q (.ref l) H')
theorem bd_in : BindP "tokens_in" s_tokens_in ["text"] := fun _ _ _ _ _ _ us hl => match us, hl with | [_], _ => rfl
theorem ok_in (T : Txt K mg) : DefOk P w K mg base CX0 false 2 "tokens_in" s_tokens_in ["text"] (spIn K) := by
  refine T.d_tokens_in.ok scs_tokens_in (fun vs H Q E h => ?_) (fun f cdv A outer s0 H vs Q E hr h => ?_)
  · obtain ⟨b, rfl, _⟩ := h
    rfl
  · obtain ⟨x, rfl, hx, kS, kN⟩ := h
    have nd := scs_tokens_in.nd
    have hz : x.length ≤ sizeLine := Nat.le_trans hx (by decide)
    refine ⟨_, pss_cons (ps_par (i := 1) (j := 2) (by rfl) nd rfl rfl (by decide) rfl rfl (pa_cons (pe_lst pa_nil) (pa_cons pe_int pa_nil)) (by rfl))
      (pss_cons (ps_while PassesOwn.never (pt_cmpR op_lt (pv 2) (pe_callB call_len_str (by rfl) T.b_len PySem.boot_len (pa_cons (pv 0) pa_nil)) (nomark _))
        (pss_cons (ps_if (pt_cmpR op_in_seq (pe_ix ix_str (pv 0) (pv 2) (fun _ _ => rfl)) (pe_tupc T.c_PARTING) (by with_unfolding_all rfl))
          (pss_cons (ps_set (i := 2) nd rfl (.inl rfl) (pe_op op_add (pv 2) pe_int)) (pss_one ps_continue)) pss_nil)
        (pss_cut (ps_set (i := 3) nd rfl (.inl rfl) (pe_orT (pe_callD (ok_run T) hr (.inl rfl) bd_run pass0 (pa_cons (pv 0) (pa_cons (pv 2) pa_nil)))
            (pe_one (pe_ifExp (pt_cmpR op_in_sign (pe_ix ix_str (pv 0) (pv 2) (fun _ _ => rfl)) (pe_const T.c_SIGNS) (by with_unfolding_all rfl)) (pe_ix ix_str (pv 0) (pv 2) (fun _ _ => rfl)) pe_str))))
        (pss_cons (ps_if (pt_cmpR op_eq (pv 3) pe_str (nomark _)) (pss_one (ps_ret (pe_lst pa_nil))) pss_nil)
        (pss_cons (ps_expr (pe_bm PySem.F.plainAttrs_list PySem.F.slot_list_append PySem.F.type_list_append mt_append (pv 1) (pa_cons (pv 3) pa_nil)))
        (pss_one (ps_set (i := 2) nd rfl (.inl rfl) (pe_op op_add (pv 2) (pe_callB call_len_str (by rfl) T.b_len PySem.boot_len (pa_cons (pv 3) pa_nil))))))))))
      (pss_one (ps_ret (pe_lst (pa_cons (pv 1) pa_nil))))), ?_⟩
    have lx : x.length = (tl x).length := len_tl x
    refine ⟨sz1 (by simp), fun g hg => ⟨_, _, rfl, ?_⟩⟩
    -- the places
    refine ⟨fun m σ H' => ∃ (n : Nat) (ts : List (List Nat)) (y : Option V), n ≤ x.length ∧ ts.length ≤ n ∧ σ = [some (.str x), some (.ref g), some (.int (n : Int)), y] ∧ Ex H H' ∧ H' g = some (.lst ((ofs ts).map V.str)) ∧
        toksP (tl x) = (toksP ((tl x).drop n)).map (ts ++ ·) ∧ m = x.length - n, ⟨_, 0, [], none, Nat.zero_le _, Nat.le_refl _, rfl, exm (Ex.refl H) hg, upd_same, by rw [List.drop_zero]; cases toksP (tl x) <;> rfl, rfl⟩, ?_⟩
    rintro m σ H' ⟨n, ts, y, hn, hts, rfl, e, hgg, htk, rfl⟩
    refine ⟨_, rfl, _, rfl, x, rfl, hz, _, _, rfl, rfl, _, rfl, ?_⟩
    by_cases hlt : n < x.length
    · have hc : (tl x)[n]? = some ((tl x)[n]'(by omega)) := List.getElem?_eq_getElem _
      have hdr : (tl x).drop n = (tl x)[n]'(by omega) :: (tl x).drop (n + 1) := List.drop_eq_getElem_cons (by omega)
      revert hc hdr
      generalize (tl x)[n]'(by omega) = c
      intro hc hdr
      refine itT (decide_eq_true (by omega)) ?_
      refine ⟨fun σ' H'' => ∃ (n' : Nat) (ts : List (List Nat)) (y : Option V), n < n' ∧ n' ≤ x.length ∧ ts.length ≤ n' ∧ σ' = [some (.str x), some (.ref g), some (.int (n' : Int)), y] ∧ Ex H H'' ∧ H'' g = some (.lst ((ofs ts).map V.str)) ∧
        toksP (tl x) = (toksP ((tl x).drop n')).map (ts ++ ·), fun σ' H'' ⟨n', ts, y, h1, h2, h3, h4, h5, h6, h7⟩ => ⟨_, by omega, n', ts, y, h2, h3, h4, h5, h6, h7, rfl⟩, ?_⟩
      refine ⟨_, rfl, _, rfl, x, _, c, rfl, rfl, hz, atI_nat hc, fun pa hpa => ⟨pa, _, rfl, .inr (hpa _), rfl, rfl, _, rfl, ?_⟩⟩
      by_cases hw : wht c = true
      · refine itT ((in_parting c).trans hw) ⟨_, rfl, _, _, rfl, rfl, ?_⟩
        exact ⟨n + 1, ts, y, by omega, by omega, by omega, rfl, e, hgg, by rw [htk, hdr, toksP_wht hw]⟩
      · have hw : wht c = false := by simpa using hw
        refine itF ((in_parting c).trans hw) ?_
        refine ⟨fun σ' H'' => H'' = H' ∧ ∃ tok : List Nat, σ' = [some (.str x), some (.ref g), some (.int (n : Int)), some (.str ⟨tok.toArray⟩)] ∧ ((tok = [] ∧ toksP (c :: (tl x).drop (n + 1)) = none) ∨
          (tok ≠ [] ∧ n + tok.length ≤ x.length ∧ toksP (c :: (tl x).drop (n + 1)) = (toksP ((tl x).drop (n + tok.length))).map (tok :: ·))), ?_, ?_⟩
        · refine ⟨_, rfl, _, rfl, x, n, rfl, hn, hx, ?_⟩
          rw [hdr]
          by_cases ha : al c = true
          · have e1 : (c :: (tl x).drop (n + 1)).takeWhile al = c :: ((tl x).drop (n + 1)).takeWhile al := by rw [List.takeWhile_cons, if_pos ha]
            rw [e1]
            have hle := tw_le (p := al) ((tl x).drop (n + 1))
            rw [List.length_drop] at hle
            have hlen : (⟨(c :: ((tl x).drop (n + 1)).takeWhile al).toArray⟩ : Str).length = (((tl x).drop (n + 1)).takeWhile al).length + 1 := by
              rw [len_tl]
              rfl
            refine ⟨_, ⟨by rw [hlen]; omega, rfl⟩, itT (by rw [hlen]; simp; omega) ⟨rfl, _, rfl, .inr ⟨by simp, ?_, ?_⟩⟩⟩
            · simp only [List.length_cons]
              omega
            · rw [toksP_word hw ha, ← tw_drop, List.drop_drop]
              simp only [List.length_cons]
              rw [show n + 1 + (((tl x).drop (n + 1)).takeWhile al).length = n + ((((tl x).drop (n + 1)).takeWhile al).length + 1) by omega]
          · have ha : al c = false := by simpa using ha
            have e1 : (c :: (tl x).drop (n + 1)).takeWhile al = [] := by rw [List.takeWhile_cons, if_neg (by rw [ha]; decide)]
            rw [e1]
            refine ⟨_, ⟨by decide, rfl⟩, itF rfl ⟨_, rfl, _, rfl, x, _, c, rfl, rfl, hz, atI_nat hc, c, _, rfl, rfl, _, rfl, ?_⟩⟩
            by_cases hs : sgn c = true
            · refine itT ((in_signs c).trans hs) ⟨_, rfl, _, rfl, x, _, c, rfl, rfl, hz, atI_nat hc, rfl, [c], rfl, .inr ⟨by simp, by simp; omega, ?_⟩⟩
              rw [toksP_sign hw ha hs]
              rfl
            · have hs : sgn c = false := by simpa using hs
              exact itF ((in_signs c).trans hs) ⟨rfl, [], rfl, .inl ⟨rfl, toksP_bad hw ha hs⟩⟩
        · rintro σ2 H2 ⟨rfl, tok, rfl, ht⟩
          rcases ht with ⟨rfl, hb⟩ | ⟨h1, h2, h3⟩
          · refine ⟨_, rfl, rfl, _, rfl, itT (str_eq rfl) ⟨sz1 (by simp), fun l hl => ?_⟩⟩
            exact kN l _ (by rw [htk, hdr, hb]; rfl) (e.trans (Ex.new hl)) upd_same
          · have hne : (⟨tok.toArray⟩ : Str) ≠ "" := fun z => h1 ((congrArg tl z : tok = tl "").trans rfl)
            refine ⟨_, rfl, rfl, _, rfl, itF (str_ne hne) ?_⟩
            have hlen : (⟨tok.toArray⟩ : Str).length = tok.length := by rw [len_tl]
            refine ⟨_, rfl, .inl ⟨rfl, _, sq_of hgg⟩, _, rfl, g, _, _, rfl, rfl, hgg, ?_, ?_⟩
            · unfold ofs
              rw [List.length_map, List.length_map]
              exact Nat.lt_of_lt_of_le (Nat.lt_of_le_of_lt hts hlt) hz
            have hpos : 0 < tok.length := List.length_pos_iff.mpr h1
            refine ⟨_, rfl, _, rfl, _, rfl, by rw [hlen]; omega, _, _, rfl, rfl, n + tok.length, ts ++ [tok], some (.str ⟨tok.toArray⟩), by omega, h2, by simp; omega, ?_, exm e hg, ?_, ?_⟩
            · rw [hlen, Int.natCast_add]
              rfl
            · rw [upd_same]
              unfold ofs
              simp
            · rw [htk, hdr, h3]
              cases toksP ((tl x).drop (n + tok.length)) with
              | none => rfl
              | some r => simp
    · refine itF (decide_eq_false (by omega)) ?_
      have hd : (tl x).drop n = [] := List.drop_eq_nil_of_le (by omega)
      refine ⟨_, rfl, sz1 (by simp), fun l hl => ?_⟩
      refine kS ts g l _ ?_ (e.trans (Ex.new hl)) (by rw [upd_ne (ne_of_none hgg hl)]; exact hgg) upd_same
      rw [htk, hd, toksP]
      simp
end
end K2

set_option maxHeartbeats 4000000
namespace DL
open PySem L2 Evl PySem.Spec PyProof.Rows PySem.W PySem.Calls
/-! ### super().__init__(x) of an exception -/
section
variable {prog : Program} {w : World} {A : Around} {E : Value → Shared → Prop} {h : Heap} {g : Array GenState} {d : Drawn} {t : Nat} {os : OsState}
variable {nm q : Str} {C N : Addr} {bs bm bmB : List Value} {hdct : Bool} {sn : List Str} {sub : List Value} {ab : Bool} {col : Option Bool} {dd : Option Addr} {k0 k1 k2 k3 k5 : Option Value} {B newId initId : String}
theorem call_mw (hl : initId.startsWith "lifetime." = false) (FB : ExcBaseFacts B newId initId bmB) {u e t0 : Addr} {rest : List Value} {Q : Value → Shared → Prop}
    (hC : h.get? C = some (excClassObj nm q C N bs bm hdct sn sub ab col dd k0 k1 k2 k3 k5 newId)) (he : h.get? e = some (HandSPX.excO C t0)) (hu : h.get? u = some (kxs_mw initId e)) (hz : rest.length ≤ sizeLine)
    (hq : ∀ h2 t1, (∀ b o, b ≠ e → h.get? b = some o → h2.get? b = some o) → h2.get? e = some (HandSPX.excO C t1) → Q .none ⟨h2, g, d, t, os⟩) :
    wpAny (model prog w) A (call (.ref u) rest) Q E ⟨h, g, d, t, os⟩ := by
  refine wpAny_call (codeAny_of_tree ?_)
  show wpAny _ A.in1 (callAny (.ref u) ⟨rest, []⟩) _ _ _
  simp only [callAny]
  refine wpAny_bind (wpAny_load hu ?_)
  have isMw : (Value.type "method-wrapper" == Value.type "method" || Value.type "method-wrapper" == Value.type "builtin_function_or_method" || Value.type "method-wrapper" == Value.type "method-wrapper") = true := by decide
  simp only [kxs_mw, isMw, if_true]
  refine KFB.if_so (by decide) (wpAny_bind (check_bound_init FB.toExcCallFacts hC he rfl (wpAny_pure ?_)))
  refine ⟨Code.quiet_builtin _ hl, codeAny_builtin FB.initEntry ?_⟩
  rw [Around.under_plainId FB.init.plain _]
  wp_walk
  refine hq _ h.objs.size (fun b o hb ho => ?_) ?_
  · exact (Heap.get?_update_other _ _ (Ne.symm hb)).trans (Heap.get?_push_of_some _ ho)
  · exact Heap.get?_update_self _ (Heap.get?_push_of_some _ he) rfl
end
/-! ### the def __init__(self, x): super().__init__(x); self.f = x -/
section
variable {P : Program} {w : World} {K : Frag} {mg : Str → Option Value} {base : Heap} {A : Around} {outer : List Env} {s : Shared} {H : Hp}
/-- the context of its body -/
def cxS (P : Program) (w : World) (K : Frag) (mg : Str → Option Value) (base : Heap) (N : List Str) (qual : Str) (scope : Scope) (f : Addr) (cdv : Value) (cc : Addr) (A : Around) (outer : List Env) (s : Shared) (H : Hp) : Cx where
  prog := P
  w := w
  K := K
  mg := mg
  base := base
  A := A.deeper (ksEnv qual scope s.heap.objs.size f cdv cc)
  N := N
  s_0 := s
  H_0 := H
  env := ksEnv qual scope s.heap.objs.size f cdv cc
  outer := outer
  stack := ksEnv qual scope s.heap.objs.size f cdv cc :: outer
  ex := []
  fn := fun x => x != "__class__"
  calm := true
  pn := []
  xe := fun _ _ => False
/-- what the def's scope is -/
structure SupScope (a x : Str) (sc : Scope) : Prop where
  kind : sc.kind = .function
  co : sc.isCoroutine = false
  gen : sc.isGenerator = false
  ne : a ≠ x
  nc : a ≠ "__class__"
  nx : x ≠ "__class__"
  cell : ∀ y ∈ sc.names, y.2 ≠ .cell
  free : ∀ y ∈ sc.names, y.2 = .free → y.1 = "__class__"
  la : sc.names.lookup a = some .local
  lx : sc.names.lookup x = some .local
  lc : sc.names.lookup ("__class__" : Str) = some .free
  ls : sc.names.lookup ("super" : Str) = some .globalImplicit
theorem inv_super {a x qual : Str} {scope : Scope} {f cc : Addr} {cdv ua ux : Value} {va vx : V} {h0 : Heap} {tk : Nat} {oc : Obj} {vcell : Option Value} (S : SupScope a x scope) (hd : A.handled = none) (e0 : Env0 P w K mg base A outer s H) (ra : RelV va ua) (rx : RelV vx ux)
    (hcc : K.lookup cc = some oc) (hoc : oc.data = .cell vcell)
    (hns : h0.Ns s.heap.objs.size (fun y => ([(a, ua), (x, ux)] : List (Str × Value)).reverse.lookup y)) (hk : ∀ b o, s.heap.get? b = some o → h0.get? b = some o) :
    L2.Inv (cxS P w K mg base [a, x] qual scope f cdv cc A outer s H) [] [some va, some vx] H { s with heap := h0, toks := tk } := by
  have KB := e0.mod.kin _ _ hcc
  have hHcc := (e0.bs _ _ KB).2
  have lk1 : ∀ (y : Str) (c : Addr), ([("__class__", cc)] : List (Str × Addr)).lookup y = some c → y = "__class__" ∧ c = cc := by
    intro y c h
    by_cases e : y = "__class__"
    · subst e
      simp [List.lookup] at h
      exact ⟨rfl, h.symm⟩
    · have : (y == ("__class__" : Str)) = false := by simpa using e
      simp [List.lookup, this] at h
  have noA : ∀ b : Addr, b ∉ (cxS P w K mg base [a, x] qual scope f cdv cc A outer s H).ex := fun b z => absurd (show b ∈ ([] : List Addr) from z) (by simp)
  have cdf : h0.get? cc = some oc := hk _ _ (e0.bs _ _ KB).1
  refine ⟨⟨e0.mod, S.kind, rfl, rfl, Nat.le_refl _, fun y z c h1 h2 => ?_, fun y hy => ?_, fun y c hfn h => ?_, fun _ => hd, Around.frames_deeper e0.frames, .inr ⟨rfl, rfl⟩, fun b z => absurd z (noA b), e0.bs, e0.bsz, fun b _ _ => noA b, fun b z => absurd z (noA b), e0.funs, e0.frf⟩,
    rfl, e0.bare, Un.kept hk, ⟨_, hns, fun i y v h1 h2 h3 => ?_⟩, fun y c h => ⟨vcell, ?_⟩, e0.hok.fresh (Nat.le_refl _), fun y c h => ?_, fun p hp => absurd (show p ∈ ([] : List (Addr × Obj)) from hp) (by simp), e0.hok.kept hk, rfl⟩
  · rw [(lk1 _ _ h1).1, (lk1 _ _ h2).1]
  · have hy : scope.names.lookup y = some .cell ∨ scope.names.lookup y = some .free := hy
    rcases hy with hy | hy
    · exact absurd rfl (S.cell _ (PySem.mem_of_lookup hy))
    · have := S.free _ (PySem.mem_of_lookup hy) rfl
      exact ⟨cc, by rw [show y = "__class__" from this]; rfl⟩
  · have e := (lk1 _ _ h).1
    subst e
    exact absurd (show (("__class__" : Str) != "__class__") = true from hfn) (by decide +kernel)
  · have nxa : (x == a) = false := by simpa using fun e : x = a => S.ne e.symm
    have nax : (a == x) = false := by simpa using S.ne
    match i, h1, h2 with
    | 0, h1, h2 =>
      have e1 : y = a := (Option.some.inj h1).symm
      have e2 : v = va := by simpa using h2.symm
      subst e1; subst e2
      refine ⟨ua, ra, .inl ⟨S.la, ?_⟩⟩
      simp [List.lookup, nax]
    | 1, h1, h2 =>
      have e1 : y = x := (Option.some.inj h1).symm
      have e2 : v = vx := by simpa using h2.symm
      subst e1; subst e2
      refine ⟨ux, rx, .inl ⟨S.lx, ?_⟩⟩
      simp [List.lookup]
    | n + 2, h1, h2 => simp at h2
  · have e := (lk1 _ _ h).2
    subst e
    exact ⟨oc, cdf, hoc⟩
  · rw [(lk1 _ _ h).2]
    exact hHcc
/-- what __init__ wishes: the exception that is being made, the value -/
def spInit (K : Frag) (D : Addr) (fld : Str) : Sp := fun vs H Q _ => ∃ (e C : Addr) (y : V), vs = [.ref e, y] ∧ H e = some (exo e C none) ∧ OexC K C ∧ findIn K (.ref C) fld = some none ∧ mroIn K C (.ref D) = some true ∧
  ks_superIn K C D "__init__" = some (some (.builtin "ValueError.__init__")) ∧ subIn K (.ref C) (.type "ValueError") = some true ∧
  ∀ dx, H dx = none → dx ≠ e → Q .non (upd (upd H dx (exd dx [(fld, y)])) e (exo e C (some dx)))
variable {CX : CXT} {k : Nat} {f cc cda D : Addr} {name qual fld a x file : Str} {params : Arguments} {body : List Stmt} {scope : Scope} {dV kV doc pm ct oc ccl cl : Value} {an od cdd cld : Option Addr} {osl ccs csl : Array (Option Value)} {ar : Arg} {vs : Array Value} {tf : Tok} {cdD : ClassData}
  {p0 p1 p2 p3 p4 p5 p6 p7 p8 p9 : Pos}
theorem fn_super (lk : K.lookup f = some ⟨oc, od, .func (ksFn name qual params body scope dV kV doc pm an (.ref cda) ct cc), osl⟩)
    (hbd : body = [.Expr (.Call (.Attribute (.Call (.Name "super" p0) [] [] p1) "__init__" p2) [.Name x p3] [] p4) p5, .Assign [.Attribute (.Name a p6) fld p7] (.Name x p8) p9])
    (hcd : codeIn K (.ref cda) qual = true) (S : SupScope a x scope) (hp : (params.posonlyargs ++ params.args).head? = some ar) (har : ar.arg = a)
    (hcode : K.lookup cda = some ⟨ccl, cdd, .fields vs, ccs⟩) (hvs : vs[2]? = some (.str file tf)) (hfile : ((P.main.file : Str) == file) = true)
    (hcell : K.lookup cc = some ⟨cl, cld, .cell (some (.ref D)), csl⟩) (hD : clsIn K D = some cdD) (hsm : mg "super" = none) (htop : (P.main.scope.names.lookup ("super" : Str)).isSome = false) (hot : nsIn K cStatics "thirdparty.any" = some none)
    {pl : Addr → Sem Bool} (hc : ∀ L : Addr, eval (.Call (.Attribute (.Call (.Name "super" p0) [] [] p1) "__init__" p2) [.Name x p3] [] p4) (ksEnv qual scope L f (.ref cda) cc) = (do
      let ov ← attributeBase (.Call (.Name "super" p0) [] [] p1) "__init__" (ksEnv qual scope L f (.ref cda) cc) (eval (.Call (.Name "super" p0) [] [] p1) (ksEnv qual scope L f (.ref cda) cc))
      standAt p2.atName
      let (m, first) ← holding [ov] (getMethod ov "__init__" (pl L))
      callWith p4 m first (backTo p4 (starEach [.Name x p3] (ksEnv qual scope L f (.ref cda) cc))) []))
    (hda : (a == ("__debug__" : Str)) = false) (hca : (a == ("__classdict__" : Str)) = false) (hdx : (x == ("__debug__" : Str)) = false) (hcx : (x == ("__classdict__" : Str)) = false) :
    FnOk P w K mg base CX (k + 1) f (ksFn name qual params body scope dV kV doc pm an (.ref cda) ct cc) [a, x] (spInit K D fld) := by
  subst hbd
  refine ⟨fun vs H Q E h => ?_, fun A outer s H args us vals Q E hr e0 hb r hsp => ?_⟩
  · obtain ⟨e, C, y, rfl, _⟩ := h
    rfl
  obtain ⟨e, C, y, rfl, he, T, hno, hmro, hsup, hsub, kk⟩ := hsp
  obtain ⟨ue, uy, rfl, re, ry⟩ := vals2 r
  obtain rfl : ue = Value.ref e := re
  have KX : K.In s.heap := e0.mod.kin.keeps fun b o z => (e0.bs b o z).1
  have lim : s.heap.NoLimit := e0.mod.nolimit.keeps fun b o z => (e0.bs b o z).1
  refine ks_codeAny_call_defAt (fd := ksFn name qual params _ scope dV kV doc pm an (.ref cda) ct cc) (binds := [(a, .ref e), (x, uy)]) hr.depth (KX _ _ lk) rfl lim (codeRec_of KX hcd) rfl hb S.cell (fun z hz => ?_) (fun h0 hns hk => ?_) S.co S.gen S.kind
  · rcases List.mem_cons.mp hz with z1 | z1
    · rw [z1]; exact S.la
    · rw [List.mem_singleton.mp z1]; exact S.lx
  have I0 := inv_super (qual := qual) (f := f) (cdv := .ref cda) (tk := s.toks + 2) S hr.hd e0 (va := .ref e) (ua := .ref e) (ra := rfl) (rx := ry) hcell rfl hns hk
  have KI : K.In h0 := I0.kIn
  obtain ⟨nm, q, N, bs, bm, sn, sub, ab, col, dd, k0, k1, k2, k3, k5, hC, hbm⟩ := T.cls
  obtain ⟨t1, ho⟩ := exo_at I0.hok he
  obtain ⟨hp0, g0, d0, t0, os0⟩ := s
  have hEnv : callEnv (ksFn name qual params [.Expr (.Call (.Attribute (.Call (.Name "super" p0) [] [] p1) "__init__" p2) [.Name x p3] [] p4) p5, .Assign [.Attribute (.Name a p6) fld p7] (.Name x p8) p9] scope dV kV doc pm an (.ref cda) ct cc) hp0.objs.size f = ksEnv qual scope hp0.objs.size f (.ref cda) cc := rfl
  rw [hEnv]
  obtain ⟨mb, bl1, bl2⟩ := I0.mod.blt
  obtain ⟨oD, hD1, hD2⟩ : ∃ oD, h0.get? D = some oD ∧ oD.data = .cls cdD := by
    unfold clsIn at hD
    split at hD
    · rename_i c1 d1 cd1 sl1 hl1
      exact ⟨_, KI _ _ hl1, congrArg Data.cls (Option.some.inj hD)⟩
    · cases hD
  have hne : (x == a) = false := by simpa using fun z : x = a => S.ne z.symm
  have hna : (a == x) = false := by simpa using S.ne
  refine ks_wpAt_execs_cons (ks_wpAt_Expr_any (ks_wpAt_MethodCall (ks_wpAt_super_base (env := ksEnv qual scope hp0.objs.size f (.ref cda) cc) S.ls S.lc (by decide +kernel) rfl (KI _ _ lk) rfl hp rfl (KI _ _ hcode) rfl hvs hfile htop ?_) (hc _)) ?_ ?_)
  · refine ks_loadName_global S.kind S.ls (loadGlobal_builtin (I0.mod.glob.keeps I0.bk) hsm (bl1.keeps I0.bk) ((bl2 _ (by decide +kernel)).trans (by decide +kernel)) ⟨rfl, ?_⟩)
    refine wpAny_loadName_free S.kind S.lc rfl ⟨_, KI _ _ hcell, rfl⟩ ?_
    rw [har]
    refine wpAny_loadName_local S.kind S.la hns (v := .ref e) (by simp [List.lookup, hna]) ?_
    refine ks_wpAny_isType_cls hD1 hD2 ⟨rfl, ?_⟩
    refine ks_wpAny_call_super hD1 hD2 ho rfl (fun c z => nomatch z) (looks_mroIn KI hmro) (fun h1 hso k1 => ?_)
    have K1 : K.In h1 := KI.keeps k1
    have ho1 := k1 _ _ ho
    have hsz : h0.objs.size < h1.objs.size := Heap.lt_size hso
    cases hcl : clsIn K C with
    | none =>
      unfold ks_superIn at hsup
      rw [hcl] at hsup
      cases hsup
    | some cd =>
      unfold ks_superIn at hsup
      rw [hcl] at hsup
      have inst : InstAt h1 e { cls := .ref C, dict := none, data := .fields #[.ref t1, .none, .none, .none, .bool false, .none] } C none := ⟨ho1, rfl, rfl, trivial⟩
      refine kxs_getMethod kxs_ValueError hso (looks_opaque K1 hot) (l₀ := cd.mro) (fun A Q E s k q => wpAny_bind ((looks_clsIn K1 hcl) A _ E s k (wpAny_pure q))) rfl K1 hsup (inst.type.andThen (looks_subIn K1 hsub)) (ks_ne K1 inst hcl) (by decide +kernel) ?_
      have hee : starEach [.Name x p3] (ksEnv qual scope hp0.objs.size f (.ref cda) cc) = (false, eval (.Name x p3) (ksEnv qual scope hp0.objs.size f (.ref cda) cc)) :: starEach [] (ksEnv qual scope hp0.objs.size f (.ref cda) cc) := rfl
      have k2 : ∀ b o, h1.get? b = some o → (h1.push (kxs_mw "ValueError.__init__" e)).get? b = some o := fun b o z => Heap.get?_push_of_some _ z
      show wpAny _ _ (callWith p4 (.ref h1.objs.size) [] (backTo p4 (starEach [.Name x p3] (ksEnv qual scope hp0.objs.size f (.ref cda) cc))) []) _ _ _
      refine kxs_callWith (i := "ValueError.__init__") (x := e) rfl (evalArgs_plain (spliced_cons ?_))
      refine wpAny_Name (wpAny_loadName_local S.kind S.lx (hns.keeps fun b o z => k2 _ _ (k1 _ _ z)) (v := uy) (by simp [List.lookup]) (spliced_nil ?_)) hdx
      have hu : (h1.push (kxs_mw "ValueError.__init__" e)).get? h1.objs.size = some (kxs_mw "ValueError.__init__" e) := Heap.get?_push_at rfl rfl
      refine ⟨hu, ?_⟩
      show wpAny _ _ (call (.ref h1.objs.size) [uy]) _ _ _
      refine call_mw (by decide +kernel) F.excBase_ValueError (k2 _ _ (K1 _ _ hC)) (k2 _ _ ho1) hu (by show 1 ≤ sizeLine; decide) (fun h3 t3 k3 hx3 => ?_)
      have k4 : ∀ b o, b ≠ e → h0.get? b = some o → h3.get? b = some o := fun b o hb z => k3 b o hb (k2 _ _ (k1 _ _ z))
      have J := fun tk : Nat => I0.write (t' := tk) (x := e) (e := e) (o := exo e C none) (by rw [he]; exact True.intro) (.inl rfl) k4 ⟨_, hx3⟩ (exo_ok hx3)
      have eu : upd H e (exo e C none) = H := by
        funext b
        by_cases hb : b = e
        · rw [hb, upd_same, he]
        · rw [upd_ne hb]
      rw [eu] at J
      refine PySem.wpAt_of_wpAny ?_
      have st : PSs (cxS P w K mg base [a, x] qual scope f (.ref cda) cc A outer ⟨hp0, g0, d0, t0, os0⟩ H) [.Assign [.Attribute (.Name a p6) fld p7] (.Name x p8) p9] _ :=
        pss_one (ps_ost (pe_var (i := 0) rfl (.inl S.la) hda hca) (pe_var (i := 1) rfl (.inl S.lx) hdx hcx))
      refine wpAny_mono (st.run [] _ _ H { nx := fun _ H' => Q .non H', rt := Q } (J _) ?_) (fun fl s' hs => ?_) (fun _ _ z => z.elim)
      · exact ⟨_, rfl, _, rfl, e, C, rfl, T, hno, .inl ⟨he, fun dx n ne => kk dx n ne⟩⟩
      · cases fl with
        | ret u =>
          obtain ⟨v, σ', H', J, rv, z⟩ := hs
          exact ⟨v, H', J.os, J.bare, J.base, J.hok, rv, z⟩
        | next =>
          obtain ⟨σ', H', J, z⟩ := hs
          exact ⟨.non, H', J.os, J.bare, J.base, J.hok, rfl, z⟩
        | brk => obtain ⟨_, _, _, z⟩ := hs; exact z.elim
        | cont => obtain ⟨_, _, _, z⟩ := hs; exact z.elim
  · exact I0.quiet
  · rfl
end
end DL

set_option maxHeartbeats 4000000
namespace DL
open PySem L2 Evl PySem.Spec PyProof.Rows
/-- an error class that keeps what it was given, at its name -/
structure ErrAt (P : Program) (w : World) (K : PySem.W.Frag) (mg : Str → Option Value) (base : Heap) (x fld : Str) (C : Addr) : Prop where
  here : mg x = some (.ref C)
  cls : OexC K C
  init : ∃ fI fd, PySem.W.findIn K (.ref C) "__init__" = some (some (.ref fI)) ∧ PySem.W.typeIn K (.ref fI) = some (.type "function") ∧ Binds K fd ["self", fld] [] ∧ ∀ (CX : CXT) (k : Nat), FnOk P w K mg base CX (k + 1) fI fd ["self", fld] (spInit K C fld)
  bare : PySem.W.findIn K (.ref C) fld = some none
  mro : PySem.W.mroIn K C (.ref C) = some true
  sup : PySem.W.ks_superIn K C C "__init__" = some (some (.builtin "ValueError.__init__"))
  sub : PySem.W.subIn K (.ref C) (.type "ValueError") = some true
  xf : XfC K C
  hit : PySem.W.exmOne K (.ref C) (.ref C) = some true
section
variable {X : Cx} {x fld : Str} {C : Addr} {e : Expr} {te : TE} {p pos : Pos} {P : Program} {w : World} {K : PySem.W.Frag} {mg : Str → Option Value} {base : Heap}
theorem pmk_err (T : ErrAt X.prog X.w X.K X.mg X.base x fld C) (hr : Room 2 X.A) (ha : PE X e te) (hg : Gl X x := by rfl) (hdb : (x == ("__debug__" : Str)) = false := by decide)
    (he : starEach [e] X.env = (false, eval e X.env) :: starEach [] X.env := by rfl) : PMk X (.Call (.Name x p) [e] [] pos) (tMkO C (spInit X.K C fld) [] (tCons te tNil)) := by
  obtain ⟨fI, fd, h1, h2, h3, h4⟩ := T.init
  exact pmk_oex (CX := CX0) (k := 1) T.cls h1 h2 (h4 _ 0) hr h3 .nil pass0 hg T.here (pa_cons ha pa_nil he) hdb he rfl
theorem err_ev (T : ErrAt P w K mg base x fld C) {σ : L2.St} {H : Hp} {v : V} {Q : XK} (h : Ev te σ H v) (q : ∀ d H', Ex H H' → H' d = some (.xd [(fld, v)]) → Q (.ref C) (some d) H') :
    tMkO C (spInit K C fld) [] (tCons te tNil) σ H Q := by
  refine h H (Ex.refl H) _ fun H1 e1 => ⟨by show 1 ≤ 1000; decide, fun a ha => ⟨a, C, v, rfl, upd_same, T.cls, T.bare, T.mro, T.sup, T.sub, fun d hd nd => ⟨rfl, d, [(fld, v)], upd_same, by rw [upd_ne nd, upd_same], ?_, ?_⟩⟩⟩
  · rw [upd_ne nd] at hd
    exact hd
  · rw [upd_ne nd] at hd
    refine q d _ (fun b o hb => ?_) upd_same
    have nbd : b ≠ d := ne_of_none (e1 b o hb) hd
    have nba : b ≠ a := ne_of_none (e1 b o hb) ha
    rw [upd_ne nbd, del_ne nba, upd_ne nba, upd_ne nbd, upd_ne nba]
    exact e1 b o hb
end
end DL

set_option maxHeartbeats 4000000
namespace DL
open PySem L2 Evl PySem.Spec PyProof.Rows
section
variable {X : Cx} {CX : CXT} {G : Bool} {k : Nat} {st : Stmt} {ps ks : List Str} {sp : Sp} {E : L2.St → XK} {x : Str} {p pos : Pos} {e : Expr} {es : List Expr} {t : TA}
/-- f(e, ..) in a try's body: what leaves it is taken at the slots -/
theorem pe_callDS (D : DefOk X.prog X.w X.K X.mg X.base CX G k x st ps sp) (hr : Room k X.A) (hgd : G = false ∨ X.A.guards = some []) (hb : BindP x st ps) (hx : ∀ σ, PassesAt CX X σ (E σ)) (ha : PA X (e :: es) t) (hg : Gl X x := by rfl)
    (hdb : (x == ("__debug__" : Str)) = false := by decide) (he : starEach (e :: es) X.env = (false, eval e X.env) :: starEach es X.env := by rfl) (hpl : (backTo pos (starEach es X.env)).any (·.1) = false := by rfl) :
    PE X (.Call (.Name x p) (e :: es) [] pos) (tCallS sp E t) := by
  obtain ⟨f, fd, F, hm, R⟩ := D.ex
  refine ⟨fun pins s σ H Q I h => wpAny_Call_Name_kw (ld_glob I hg hm ?_ hdb)⟩
  refine PySem.W.callWith_K (h₀ := X.base) I.ok.mod.kin F.kp (thn (ha.run pos pins s σ H _ I h) fun us s1 z => ?_) he hpl
  obtain ⟨vs, H1, I1, r, q⟩ := z
  refine ⟨I1.kIn, ?_⟩
  have q' : sp vs H1 Q (E σ) := q
  have hl : us.length = ps.length := by rw [← r.length]; exact R.len q'
  obtain ⟨oc, od, kV, doc, pm, an, cdv, ct, osl, rfl, lk, hcd⟩ := F.ex
  have hbt : BindsTo s1 _ ⟨[] ++ us, []⟩ (ps.zip us) := .of_eq (hb kV doc pm an cdv ct us hl)
  refine wpAny_call (codeAny_mono (show codeAny (model X.prog X.w) X.A (.call (.ref f) ⟨[] ++ us, []⟩) (CR CX X.stack X.prog X.w H1 s1 Q (E σ)) s1 from ?_) fun r s' hq => ?_)
  · cases G with
    | true => exact R.run X.A X.stack s1 H1 _ us vs Q (E σ) (hgd.resolve_left (by decide)) hr I1.env0 hbt r q'
    | false => exact R.run X.A X.stack s1 H1 _ us vs Q (E σ) hr I1.env0 hbt r q'
  · cases r with
    | error e => exact hx σ pins H1 s1 e s' I1 hq
    | ok fl => cases fl with
      | ret u => exact I1.after hq
      | next => exact hq
      | brk => exact hq
      | cont => exact hq
end
end DL

set_option maxHeartbeats 4000000
namespace K2
open PySem L2 Evl DL PG TL
section
variable {P : Program} {w : World} {K : PySem.W.Frag} {mg : Str → Option Value} {base : Heap} {C : Addr}
/-- a value that is no text -/
def NoTxt (K : PySem.W.Frag) (H : Hp) (v : V) : Prop := ∃ n, TyX K H v (.type n) ∧ kitB n "str" = some false
def spChk (K : PySem.W.Frag) (C : Addr) : Sp := fun vs H Q E => (∃ x, vs = [V.str x] ∧ x.length ≤ 1000000 ∧ (∀ ts f H', toksP (tl x) = some ts → Ex H H' → H' f = some (.lst ((ofs ts).map V.str)) → Q (.ref f) H') ∧
    (toksP (tl x) = none → ∀ d H', Ex H H' → H' d = some (.xd [("given", .str x)]) → E (.ref C) (some d) H')) ∨
  (∃ v, vs = [v] ∧ NoTxt K H v ∧ ∀ d H', Ex H H' → H' d = some (.xd [("given", v)]) → E (.ref C) (some d) H')
theorem bd_chk : BindP "check_text" s_check_text ["value"] := fun _ _ _ _ _ _ us hl => match us, hl with | [_], _ => rfl
theorem ok_chk (T : Txt K mg) (R : ErrAt P w K mg base "InvalidText" "given" C) : DefOk P w K mg base (L2.CX P w) false 3 "check_text" s_check_text ["value"] (spChk K C) := by
  refine T.d_check_text.okX scs_check_text (fun vs H Q E h => ?_) (fun f cdv A outer s0 H vs Q E hr h => ?_)
  · rcases h with ⟨x, rfl, _⟩ | ⟨v, rfl, _⟩ <;> rfl
  · have nd := scs_check_text.nd
    refine ⟨_, pss_cons (ps_for (passes_of rfl) rfl (pi_list (pe_ifExp (pt_val (pe_callB call_isi (by rfl) T.b_isinstance (by decide +kernel) (pa_cons (pv 0) (pa_cons (pe_bltn (v := .ty "str") (by rfl) T.b_str (by decide +kernel) rfl) pa_nil))))
          (pe_callD (ok_in T) hr (.inl rfl) bd_in pass0 (pa_cons (pv 0) pa_nil)) (pe_lst pa_nil))) (pg_name (i := 1) nd rfl (.inl rfl))
        (pss_one (ps_ret (pv 1))))
      (pss_one (ps_raise rfl (takes_of rfl rfl rfl rfl) (pmk_err R hr (pv 0)))), ?_⟩
    have raises : ∀ (v : V) (y : Option V) (H1 : Hp), (∀ d H', Ex H1 H' → H' d = some (.xd [("given", v)]) → E (.ref C) (some d) H') → tMkO C (spInit K C "given") [] (tCons (tVar 0) tNil) [some v, y] H1 (fun cls d H' => E cls d H') :=
      fun v y H1 q => err_ev R (ev_var rfl) q
    rcases h with ⟨x, rfl, hx, kS, kE⟩ | ⟨v, rfl, hv, kE⟩
    · refine ⟨_, rfl, _, .ty "str", _, _, _, rfl, .ty "str", .base (.str x), kit_ty (by decide +kernel), _, rfl, itT rfl ?_⟩
      refine ⟨_, rfl, x, rfl, hx, fun ts g l H' e1 e2 e3 e4 => ?_, fun l H' e1 e2 e3 => ?_⟩
      · refine ⟨l, rfl, ⟨_, sq_of e4⟩, for_list (K := K) (a := l) (xs := [.ref g]) (fun i σ H2 => i = 0 ∧ σ = [some (.str x), none] ∧ H2 = H') ⟨rfl, rfl, rfl⟩ (fun i σ H2 _ z => by rw [z.2.2]; exact sq_of e4) ?_ (fun σ H2 z => by cases z.1)⟩
        rintro i y σ H2 hi ⟨rfl, rfl, rfl⟩
        cases hi
        exact ⟨_, rfl, kS ts g _ e1 e2 e3⟩
      · refine ⟨l, rfl, ⟨_, sq_of e3⟩, for_list (K := K) (a := l) (xs := []) (fun i σ H2 => σ = [some (.str x), none] ∧ H2 = H') ⟨rfl, rfl⟩ (fun i σ H2 _ z => by rw [z.2]; exact sq_of e3) (fun i y σ H2 hi _ => by simp at hi) ?_⟩
        rintro σ H2 ⟨rfl, rfl⟩
        exact raises _ _ _ fun d H3 e4 e5 => kE e1 d H3 (e2.trans e4) e5
    · obtain ⟨n, ty, hk⟩ := hv
      refine ⟨_, rfl, _, .ty "str", _, _, _, rfl, .ty "str", ty, kit_ty hk, _, rfl, itF rfl ?_⟩
      refine ⟨sz1 (by simp), fun l hl => ⟨l, rfl, ⟨_, sq_of upd_same⟩, ?_⟩⟩
      refine for_list (K := K) (a := l) (xs := []) (fun i σ H2 => σ = [some v, none] ∧ H2 = upd H l (.lst [])) ⟨rfl, rfl⟩ (fun i σ H2 _ z => by rw [z.2]; exact sq_of upd_same) (fun i y σ H2 hi _ => by simp at hi) ?_
      rintro σ H2 ⟨rfl, rfl⟩
      exact raises _ _ _ fun d H3 e4 e5 => kE d H3 ((Ex.new hl).trans e4) e5
/-- tokens -/
def strD (ts : List (List Nat)) : PyData := .tuple ((ofs ts).map PyData.str)
def spTks (K : PySem.W.Frag) (C : Addr) : Sp := fun vs H Q E => (∃ x, vs = [V.str x] ∧ x.length ≤ 1000000 ∧ (∀ ts v H', toksP (tl x) = some ts → Ex H H' → Dp K H' v (strD ts) → (∃ a xs, v = .ref a ∧ SqT K H' a xs ∧ xs = (ofs ts).map V.str) → Q v H') ∧
    (toksP (tl x) = none → ∀ d H', Ex H H' → H' d = some (.xd [("given", .str x)]) → E (.ref C) (some d) H')) ∨
  (∃ v, vs = [v] ∧ NoTxt K H v ∧ ∀ d H', Ex H H' → H' d = some (.xd [("given", v)]) → E (.ref C) (some d) H')
theorem bd_tks : BindP "tokens" s_tokens ["text"] := fun _ _ _ _ _ _ us hl => match us, hl with | [_], _ => rfl
theorem bk_tks : BindK "tokens" s_tokens ["text"] ["text"] (fun l => l) := fun _ _ _ _ _ _ us hl => match us, hl with | [_], _ => rfl
theorem ok_tks (T : Txt K mg) (R : ErrAt P w K mg base "InvalidText" "given" C) : DefOk P w K mg base (L2.CX P w) false 4 "tokens" s_tokens ["text"] (spTks K C) := by
  refine T.d_tokens.okX scs_tokens (fun vs H Q E h => ?_) (fun f cdv A outer s0 H vs Q E hr h => ?_)
  · rcases h with ⟨x, rfl, _⟩ | ⟨v, rfl, _⟩ <;> rfl
  · refine ⟨_, pss_one (ps_ret (pe_callTy call_tuple_of (by rfl) T.b_tuple (by decide +kernel) (pa_cons (pe_callD (ok_chk T R) hr (.inl rfl) bd_chk (passes_call (takes_of rfl rfl rfl rfl) (fun _ _ _ _ z => z)) (pa_cons (pv 0) pa_nil)) pa_nil))), ?_⟩
    rcases h with ⟨x, rfl, hx, kS, kE⟩ | ⟨v, rfl, hv, kE⟩
    · refine ⟨_, rfl, .inl ⟨x, rfl, hx, fun ts g H' e1 e2 e3 => ⟨g, _, rfl, .inl ⟨sq_of e3, fun t ht => ?_⟩⟩, kE⟩⟩
      exact kS ts _ _ e1 (e2.trans (Ex.new ht)) (.tup (st_of upd_same) (dpa_strs _)) ⟨t, _, rfl, st_of upd_same, rfl⟩
    · exact ⟨_, rfl, .inr ⟨v, rfl, hv, kE⟩⟩
end
end K2

set_option maxHeartbeats 4000000
namespace K2
open PySem L2 Evl DL PG TL
section
variable {P : Program} {w : World} {K : PySem.W.Frag} {mg : Str → Option Value} {base : Heap} {C : Addr}
def toldOf : PyData → PyData
  | .str x => match toksP (tl x) with
    | some ts => .list [.str "told", strD ts]
    | none => .list [.str "text", .str x]
  | d => .list [.str "text", d]
theorem toldOf_some {x : Str} {ts : List (List Nat)} (h : toksP (tl x) = some ts) : toldOf (.str x) = .list [.str "told", strD ts] := by
  unfold toldOf
  simp only [h]
theorem toldOf_none {x : Str} (h : toksP (tl x) = none) : toldOf (.str x) = .list [.str "text", .str x] := by
  unfold toldOf
  simp only [h]
def spTold (K : PySem.W.Frag) : Sp := fun vs H Q _ => ∃ v d, vs = [v] ∧ Dp K H v d ∧ ((∃ x, v = V.str x ∧ x.length ≤ 1000000) ∨ (NoTxt K H v ∧ toldOf d = .list [.str "text", d])) ∧
  ∀ l k z dz H', Ex H H' → H l = none → H' l = some (.lst [.str k, z]) → toldOf d = .list [.str k, dz] → Dp K H' z dz → ((∃ x, v = V.str x) ∨ (z = v ∧ dz = d)) → Q (.ref l) H'
theorem bd_told : BindP "_law_told" s_law_told ["value"] := fun _ _ _ _ _ _ us hl => match us, hl with | [_], _ => rfl
theorem bk_told : BindK "_law_told" s_law_told ["value"] ["value"] (fun l => l) := fun _ _ _ _ _ _ us hl => match us, hl with | [_], _ => rfl
theorem ok_told (T : Txt K mg) (R : ErrAt P w K mg base "InvalidText" "given" C) : DefOk P w K mg base CX0 false 5 "_law_told" s_law_told ["value"] (spTold K) := by
  refine T.d_law_told.ok scs_law_told (fun vs H Q E h => ?_) (fun f cdv A outer s0 H vs Q E hr h => ?_)
  · obtain ⟨v, d, rfl, _⟩ := h
    rfl
  · obtain ⟨v, d, rfl, hv, hd, kk⟩ := h
    have nd := scs_law_told.nd
    refine ⟨_, pss_one (ps_try_as (Wout := fun _ _ _ _ => False) rfl rfl nd (i := 1) rfl rfl ⟨by rfl, by decide +kernel, .inl R.here⟩ (fun u s' z => by
          obtain ⟨_, _, _, _, _, _, _, _, _, _, _, _, _, _, _, _, z⟩ := z
          exact z)
        (fun W pn xe tk po => pss_one (ps_ret (pe_lst (pa_cons pe_str (pa_cons (pe_callDS (ok_tks T R) hr (.inl rfl) bd_tks (passAt tk) (pa_cons (pv 0) pa_nil)) pa_nil)))))
        (fun a oe cls d pn hz hf => pss_one (ps_ret (pe_lst (pa_cons pe_str (pa_cons (pe_xf R.xf R.bare hz hf (pv 1)) pa_nil)))))), ?_⟩
    have caught : ∀ (dd : Addr) (H' : Hp), Ex H H' → H' dd = some (.xd [("given", v)]) → toldOf d = .list [.str "text", d] → ∀ a, H' a = none → tRet (tLst (tCons (tC (.str "text")) (tCons (tXf a (.ref C) (some dd) C "given" (tVar 1)) tNil)))
        { nx := fun σ' H'' => Q .non H'', rt := Q, bk := fun _ _ => False, ct := fun _ _ => False } [some v, some (.ref a)] H' := by
      intro dd H' e1 e2 et a ha
      exact ⟨_, rfl, rfl, rfl, dd, _, _, rfl, e2, rfl, ⟨sz1 (by simp), fun l hl => kk l "text" v d _ (e1.trans (Ex.new hl)) (fresh_back e1 hl) upd_same et (dp_ex (e1.trans (Ex.new hl)) hv) (.inr ⟨rfl, rfl⟩)⟩⟩
    rcases hd with ⟨x, rfl, hx⟩ | ⟨hn, ht⟩
    · obtain rfl : d = .str x := by cases hv; rfl
      exact ⟨_, rfl, .inl ⟨x, rfl, hx, fun ts u H' e1 e2 e3 _ => ⟨sz1 (by simp), fun l hl => kk l "told" u _ _ (e2.trans (Ex.new hl)) (fresh_back e2 hl) upd_same (toldOf_some e1) (dp_ex (Ex.new hl) e3) (.inl ⟨x, rfl⟩)⟩, fun e1 dd H' e2 e3 => ⟨true, R.hit, fun _ a ha => caught dd H' e2 e3 (toldOf_none e1) a ha, fun z => nomatch z⟩⟩⟩
    · exact ⟨_, rfl, .inr ⟨v, rfl, hn, fun dd H' e2 e3 => ⟨true, R.hit, fun _ a ha => caught dd H' e2 e3 ht a ha, fun z => nomatch z⟩⟩⟩
end
end K2

set_option maxHeartbeats 4000000
namespace PG
open PySem L2 Evl DL TL
theorem contains_tl (y : Str) (c : Nat) : y.cps.contains c = decide (c ∈ tl y) := by
  cases h : y.cps.contains c with
  | true => exact (decide_eq_true (by simpa using h)).symm
  | false => exact (decide_eq_false (by intro z; have : y.cps.contains c = true := by simpa using z
                                        rw [this] at h; cases h)).symm
theorem tl_lstrip (x y : Str) : tl (Txt.lstripChars x y) = (tl x).dropWhile fun c => decide (c ∈ tl y) := by
  have e : Txt.lstripChars x y = PySem.W.stripped y.cps.contains true false x := PySem.W.stripBy_eq _ _ _ _
  rw [e]
  unfold PySem.W.stripped
  simp only [if_true, Bool.false_eq_true, if_false]
  rw [tl_strSub_end]
  rw [show (y.cps.contains : Nat → Bool) = fun c => decide (c ∈ tl y) from funext fun c => contains_tl y c]
  exact tw_drop _
theorem in_al (c : Nat) : decide (c ∈ tl "abcdefghijklmnopqrstuvwxyz0123456789") = al c := by
  have e : tl "abcdefghijklmnopqrstuvwxyz0123456789" = List.range' 97 26 ++ List.range' 48 10 := by decide +kernel
  rw [e]
  unfold al ltr dig
  rw [← Bool.decide_or]
  exact decide_eq_decide.mpr (by rw [List.mem_append, range_mem, range_mem]; omega)
theorem strip_al (x : Str) : tl (Txt.lstripChars x "abcdefghijklmnopqrstuvwxyz0123456789") = (tl x).dropWhile al := by
  rw [tl_lstrip]
  congr 1
  exact funext in_al
theorem strip_dig (x : Str) : tl (Txt.lstripChars x "0123456789") = (tl x).dropWhile dig := by
  rw [tl_lstrip]
  congr 1
  exact funext in_figures
theorem cut_from (x : Str) (n : Nat) (h : n ≤ x.length) : cutS x (some (n : Int)) none = ⟨((tl x).drop n).toArray⟩ := by
  unfold cutS
  simp only [HT.sIx_nat, HT.sIx_none, Nat.min_eq_left h]
  rw [List.take_of_length_le (by rw [List.length_drop, len_tl]; exact Nat.le_refl _)]
theorem cut_one (x : Str) (n : Nat) (h : n ≤ x.length) : cutS x (some (n : Int)) (some ((n : Int) + 1)) = ⟨(((tl x).drop n).take 1).toArray⟩ := by
  have e : ((n : Int) + 1) = ((n + 1 : Nat) : Int) := by omega
  rw [e]
  unfold cutS
  simp only [HT.sIx_nat, Nat.min_eq_left h]
  by_cases hl : n + 1 ≤ x.length
  · rw [Nat.min_eq_left hl, show n + 1 - n = 1 by omega]
  · have hn : n = x.length := by omega
    rw [List.drop_eq_nil_of_le (by rw [← len_tl]; omega)]
    simp
theorem tw_len {p : Nat → Bool} (l : List Nat) : l.length = (l.takeWhile p).length + (l.dropWhile p).length := by
  rw [← List.length_append, List.takeWhile_append_dropWhile]
theorem inV_head (l : List Nat) : inV (.str ⟨(l.take 1).toArray⟩) (sgV "abcdefghijklmnopqrstuvwxyz") = ltrHead l := by
  have h : ∀ (y : Str) (ms : List Nat), inV (.str y) (ms.map fun c => V.str ⟨#[c]⟩) = (match tl y with | [c] => decide (c ∈ ms) | _ => false) := by
    intro y ms
    induction ms with
    | nil => cases tl y with
      | nil => rfl
      | cons a r => cases r <;> simp [inV]
    | cons m r ih =>
      have e1 : inV (.str y) ((m :: r).map fun c => V.str ⟨#[c]⟩) = (((⟨#[m]⟩ : Str) == y) || inV (.str y) (r.map fun c => V.str ⟨#[c]⟩)) := rfl
      rw [e1, ih]
      cases hy : tl y with
      | nil =>
        have : ¬ (⟨#[m]⟩ : Str) = y := fun z => by rw [← z] at hy; cases hy
        simp [this]
      | cons a s =>
        cases s with
        | nil =>
          by_cases e : m = a
          · subst e
            have : (⟨#[m]⟩ : Str) = y := ext_tl (by rw [hy])
            simp [this]
          · have : ¬ (⟨#[m]⟩ : Str) = y := fun z => by rw [← z] at hy; injection hy with hy; exact e hy
            have e2 : ¬ a = m := fun z => e z.symm
            simp [this, e2]
        | cons b t =>
          have : ¬ (⟨#[m]⟩ : Str) = y := fun z => by rw [← z] at hy; cases hy
          simp [this]
  rw [show sgV "abcdefghijklmnopqrstuvwxyz" = (tl "abcdefghijklmnopqrstuvwxyz").map fun c => V.str ⟨#[c]⟩ from rfl, h]
  cases l with
  | nil => rfl
  | cons c r =>
    show decide (c ∈ tl "abcdefghijklmnopqrstuvwxyz") = ltr c
    exact in_letters c
theorem in_other (c : Nat) : decide (c ∈ tl "(){};,=+-*< \n") = (sgn c || wht c) := by
  have e : tl "(){};,=+-*< \n" = [40, 41, 123, 125, 59, 44, 61, 43, 45, 42, 60, 32, 10] := by decide +kernel
  rw [e]
  have h : c ∈ ([40, 41, 123, 125, 59, 44, 61, 43, 45, 42, 60, 32, 10] : List Nat) ↔ (sgn c || wht c) = true := by
    unfold sgn wht sgs
    simp only [Bool.or_eq_true, List.contains_iff_mem, beq_iff_eq, List.mem_cons, List.not_mem_nil, or_false]
    omega
  rw [Bool.eq_iff_iff, decide_eq_true_eq]
  exact h
theorem in_white (c : Nat) : decide (c ∈ tl " \n") = wht c := by
  have e : tl " \n" = [32, 10] := by decide +kernel
  rw [e]
  unfold wht
  by_cases h : c = 32
  · subst h; rfl
  · by_cases h2 : c = 10
    · subst h2; rfl
    · simp [h, h2]
/-- tokens ahead of a reading -/
def Tk.pre (ts : List (List Nat)) : Tk → Tk
  | .ok us => .ok (ts ++ us)
  | t => t
theorem Tk.pre_nil (t : Tk) : t.pre [] = t := by cases t <;> rfl
theorem Tk.pre_add (ts : List (List Nat)) (w : List Nat) (t : Tk) : (t.add w).pre ts = t.pre (ts ++ [w]) := by cases t <;> simp [Tk.pre, Tk.add]
end PG
namespace K2
open PySem L2 Evl DL PG TL
def ltkD : Tk → PyData
  | .bad => .none
  | .run => .tuple []
  | .ok ts => strD ts
theorem toksL_ltr {c : Nat} {r : List Nat} (h : ltr c = true) : toksL (c :: r) = (toksL (r.dropWhile al)).add (c :: r.takeWhile al) := by
  rw [toksL, if_pos h]
theorem toksL_run {c : Nat} {r : List Nat} (h : ltr c = false) (hd : dig c = true) (hn : (ltrHead (r.dropWhile dig) || (decide (1 < (c :: r.takeWhile dig).length) && c == 48)) = true) : toksL (c :: r) = .run := by
  rw [toksL, if_neg (by rw [h]; decide), if_pos hd, if_pos hn]
theorem toksL_dig {c : Nat} {r : List Nat} (h : ltr c = false) (hd : dig c = true) (hn : (ltrHead (r.dropWhile dig) || (decide (1 < (c :: r.takeWhile dig).length) && c == 48)) = false) : toksL (c :: r) = (toksL (r.dropWhile dig)).add (c :: r.takeWhile dig) := by
  rw [toksL, if_neg (by rw [h]; decide), if_pos hd, if_neg (by rw [hn]; decide)]
theorem toksL_sgn {c : Nat} {r : List Nat} (h : ltr c = false) (hd : dig c = false) (hs : sgn c = true) : toksL (c :: r) = (toksL r).add [c] := by
  rw [toksL, if_neg (by rw [h]; decide), if_neg (by rw [hd]; decide), if_pos hs]
theorem toksL_wht {c : Nat} {r : List Nat} (hw : wht c = true) : toksL (c :: r) = toksL r := by
  have := wht_not hw
  rw [toksL, if_neg (by rw [this.1]; decide), if_neg (by rw [this.2.1]; decide), if_neg (by rw [this.2.2]; decide), if_pos hw]
theorem toksL_bad {c : Nat} {r : List Nat} (h : ltr c = false) (hd : dig c = false) (hs : (sgn c || wht c) = false) : toksL (c :: r) = .bad := by
  rw [Bool.or_eq_false_iff] at hs
  rw [toksL, if_neg (by rw [h]; decide), if_neg (by rw [hd]; decide), if_neg (by rw [hs.1]; decide), if_neg (by rw [hs.2]; decide)]
section
variable {P : Program} {w : World} {K : PySem.W.Frag} {mg : Str → Option Value} {base : Heap} {C : Addr}
def spLtk (K : PySem.W.Frag) : Sp := fun vs H Q _ => ∃ (x : Str), vs = [.str x] ∧ x.length ≤ 1000000 ∧ ∀ v H', Ex H H' → Dp K H' v (ltkD (toksL (tl x))) → Q v H'
theorem bd_ltk : BindP "_law_tokens" s_law_tokens ["text"] := fun _ _ _ _ _ _ us hl => match us, hl with | [_], _ => rfl
theorem ok_ltk (T : Txt K mg) : DefOk P w K mg base CX0 false 1 "_law_tokens" s_law_tokens ["text"] (spLtk K) := by
  refine T.d_law_tokens.ok scs_law_tokens (fun vs H Q E h => ?_) (fun f cdv A outer s0 H vs Q E hr h => ?_)
  · obtain ⟨b, rfl, _⟩ := h
    rfl
  · obtain ⟨x, rfl, hx, kk⟩ := h
    have nd := scs_law_tokens.nd
    have hz : x.length ≤ sizeLine := Nat.le_trans hx (by decide)
    refine ⟨_, pss_cons (ps_if (pt_not (pt_val (pe_callB call_isi (by rfl) T.b_isinstance (by decide +kernel) (pa_cons (pv 0) (pa_cons (pe_bltn (v := .ty "str") (by rfl) T.b_str (by decide +kernel) rfl) pa_nil))))) (pss_one (ps_ret pe_non)) pss_nil)
      (pss_cons (ps_par (i := 1) (j := 2) (by rfl) nd rfl rfl (by decide) rfl rfl (pa_cons (pe_lst pa_nil) (pa_cons pe_int pa_nil)) (by rfl))
      (pss_cons (ps_while PassesOwn.never (pt_cmpR op_lt (pv 2) (pe_callB call_len_str (by rfl) T.b_len PySem.boot_len (pa_cons (pv 0) pa_nil)) (nomark _))
        (pss_cons (ps_par (i := 3) (j := 4) (by rfl) nd rfl rfl (by decide) rfl rfl (pa_cons pe_int (pa_cons (pe_ix ix_str (pv 0) (pv 2) (fun _ _ => rfl)) pa_nil)) (by rfl))
        (pss_cut (ps_if (pt_cmpR op_in_sign (pv 4) pe_str (by with_unfolding_all rfl))
          (pss_one (ps_set (i := 3) nd rfl (.inl rfl) (pe_op op_sub (pe_callB call_len_str (by rfl) T.b_len PySem.boot_len (pa_cons (pe_slice sl_str (pv 0) (po_some (pv 2)) po_none) pa_nil))
            (pe_callB call_len_str (by rfl) T.b_len PySem.boot_len (pa_cons (pe_bm PySem.F.plainAttrs_str PySem.F.slot_str_lstrip PySem.F.type_str_lstrip mt_lstripChars (pe_slice sl_str (pv 0) (po_some (pv 2)) po_none) (pa_cons pe_str pa_nil)) pa_nil)))))
          (pss_one (ps_if (pt_cmpR op_in_sign (pv 4) pe_str (by with_unfolding_all rfl))
            (pss_cut (ps_set (i := 3) nd rfl (.inl rfl) (pe_op op_sub (pe_callB call_len_str (by rfl) T.b_len PySem.boot_len (pa_cons (pe_slice sl_str (pv 0) (po_some (pv 2)) po_none) pa_nil))
              (pe_callB call_len_str (by rfl) T.b_len PySem.boot_len (pa_cons (pe_bm PySem.F.plainAttrs_str PySem.F.slot_str_lstrip PySem.F.type_str_lstrip mt_lstripChars (pe_slice sl_str (pv 0) (po_some (pv 2)) po_none) (pa_cons pe_str pa_nil)) pa_nil))))
            (pss_one (ps_if (PW.pt (pw_or (pt_cmpR op_in_seq (pe_slice sl_str (pv 0) (po_some (pe_op op_add (pv 2) (pv 3))) (po_some (pe_op op_add (pe_op op_add (pv 2) (pv 3)) pe_int))) (pe_callTy (call_list_txt rfl) (by rfl) T.b_list (by decide +kernel) (pa_cons pe_str pa_nil)) (by with_unfolding_all rfl))
                (pw_or1 (PW.pt (pw_and (pt_cmpR op_gt (pv 3) pe_int (nomark _)) (pw_and1 (pt_cmpR op_eq (pv 4) pe_str (nomark _))))))))
              (pss_one (ps_ret (pe_tup pa_nil))) pss_nil)))
            (pss_one (ps_if (pt_cmpR op_notIn_sign (pv 4) pe_str (by with_unfolding_all rfl)) (pss_one (ps_ret pe_non)) pss_nil)))))
        (pss_cons (ps_if (pt_cmpR op_notIn_sign (pv 4) pe_str (by with_unfolding_all rfl))
          (pss_one (ps_expr (pe_bm PySem.F.plainAttrs_list PySem.F.slot_list_append PySem.F.type_list_append mt_append (pv 1) (pa_cons (pe_slice sl_str (pv 0) (po_some (pv 2)) (po_some (pe_op op_add (pv 2) (pv 3)))) pa_nil)))) pss_nil)
        (pss_one (ps_set (i := 2) nd rfl (.inl rfl) (pe_op op_add (pv 2) (pv 3)))))))) 
      (pss_one (ps_ret (pe_callTy call_tuple_of (by rfl) T.b_tuple (by decide +kernel) (pa_cons (pv 1) pa_nil)))))), ?_⟩
    refine ⟨_, rfl, _, .ty "str", _, _, true, rfl, .ty "str", .base (.str x), kit_ty (by decide +kernel), _, rfl, itF rfl ?_⟩
    refine ⟨sz1 (by simp), fun g hg => ⟨_, _, rfl, ?_⟩⟩
    refine ⟨fun m σ H' => ∃ (n : Nat) (ts : List (List Nat)) (y3 y4 : Option V), n ≤ x.length ∧ ts.length ≤ n ∧ σ = [some (.str x), some (.ref g), some (.int (n : Int)), y3, y4] ∧ Ex H H' ∧ H' g = some (.lst ((ofs ts).map V.str)) ∧
        toksL (tl x) = (toksL ((tl x).drop n)).pre ts ∧ m = x.length - n, ⟨_, 0, [], none, none, Nat.zero_le _, Nat.le_refl _, rfl, exm (Ex.refl H) hg, upd_same, by rw [List.drop_zero, Tk.pre_nil], rfl⟩, ?_⟩
    rintro m σ H' ⟨n, ts, y3, y4, hn, hts, rfl, e, hgg, htk, rfl⟩
    have lx : x.length = (tl x).length := len_tl x
    refine ⟨_, rfl, _, rfl, x, rfl, hz, _, _, rfl, rfl, _, rfl, ?_⟩
    by_cases hlt : n < x.length
    · have hc : (tl x)[n]? = some ((tl x)[n]'(by omega)) := List.getElem?_eq_getElem _
      have hdr : (tl x).drop n = (tl x)[n]'(by omega) :: (tl x).drop (n + 1) := List.drop_eq_getElem_cons (by omega)
      revert hc hdr
      generalize (tl x)[n]'(by omega) = c
      intro hc hdr
      have hR : ((tl x).drop (n + 1)).length = x.length - (n + 1) := by rw [List.length_drop, lx]
      have hdd : ∀ j, (tl x).drop (n + (j + 1)) = ((tl x).drop (n + 1)).drop j := fun j => by rw [List.drop_drop]; congr 1; omega
      generalize hRe : (tl x).drop (n + 1) = R at hdr hR hdd
      refine itT (decide_eq_true (by omega)) ?_
      refine ⟨fun σ' H'' => ∃ (n' : Nat) (ts : List (List Nat)) (y3 y4 : Option V), n < n' ∧ n' ≤ x.length ∧ ts.length ≤ n' ∧ σ' = [some (.str x), some (.ref g), some (.int (n' : Int)), y3, y4] ∧ Ex H H'' ∧ H'' g = some (.lst ((ofs ts).map V.str)) ∧
        toksL (tl x) = (toksL ((tl x).drop n')).pre ts, fun σ' H'' ⟨n', ts, y3, y4, h1, h2, h3, h4, h5, h6, h7⟩ => ⟨_, by omega, n', ts, y3, y4, h2, h3, h4, h5, h6, h7, rfl⟩, ?_⟩
      refine ⟨_, rfl, _, rfl, x, _, c, rfl, rfl, hz, atI_nat hc, _, _, rfl, ?_⟩
      have hcut : cutS x (some (n : Int)) none = ⟨(c :: R).toArray⟩ := by rw [cut_from x n hn, hdr]
      have lcut : (⟨(c :: R).toArray⟩ : Str).length = R.length + 1 := by rw [len_tl]; rfl
      refine ⟨fun σ' H'' => Ex H' H'' ∧ ∃ k : Nat, σ' = [some (.str x), some (.ref g), some (.int (n : Int)), some (.int (k : Int)), some (.str ⟨#[c]⟩)] ∧ 1 ≤ k ∧ n + k ≤ x.length ∧
        toksL (c :: R) = if wht c = true then toksL ((tl x).drop (n + k)) else (toksL ((tl x).drop (n + k))).add (((tl x).drop n).take k), ?_, ?_⟩
      · refine ⟨_, rfl, c, _, rfl, rfl, _, rfl, ?_⟩
        by_cases hl : ltr c = true
        · have hw : wht c = false := al_not (by unfold al; rw [hl, Bool.true_or])
          refine itT ((in_letters c).trans hl) ?_
          refine ⟨_, rfl, _, rfl, _, rfl, x, rfl, hz, _, rfl, ?_, _, rfl, _, rfl, _, rfl, x, rfl, hz, rfl, _, _, rfl, rfl, ?_, _, rfl, ?_, _, _, rfl, rfl, Ex.refl _, (R.takeWhile al).length + 1, ?_, by omega, ?_, ?_⟩
          · rw [hcut, lcut]
            omega
          · rw [hcut, lcut]
            omega
          · rw [hcut, len_tl, strip_al]
            show ((c :: R).dropWhile al).length ≤ sizeLine
            have := tw_len (p := al) (c :: R)
            simp only [List.length_cons] at this
            omega
          · show [some (V.str x), some (V.ref g), some (V.int (n : Int)), some (V.int (_ - _)), some (V.str ⟨#[c]⟩)] = _
            have hk : (((cutS x (some (n : Int)) none).length : Nat) : Int) - ((((Txt.lstripChars (cutS x (some (n : Int)) none) "abcdefghijklmnopqrstuvwxyz0123456789")).length : Nat) : Int) = (((R.takeWhile al).length + 1 : Nat) : Int) := by
              rw [hcut, len_tl (Txt.lstripChars _ _), strip_al, lcut]
              have h1 := tw_len (p := al) R
              have h2 : (tl ⟨(c :: R).toArray⟩).dropWhile al = R.dropWhile al := by
                show (c :: R).dropWhile al = _
                rw [List.dropWhile_cons, if_pos (by unfold al; rw [hl, Bool.true_or])]
              rw [h2]
              omega
            rw [hk]
          · have := tw_le (p := al) R
            omega
          · rw [if_neg (by rw [hw]; decide), toksL_ltr hl, hdd, tw_drop, hdr, List.take_succ_cons, tw_take]
        · have hl : ltr c = false := by simpa using hl
          refine itF ((in_letters c).trans hl) ?_
          refine ⟨_, rfl, c, _, rfl, rfl, _, rfl, ?_⟩
          by_cases hd : dig c = true
          · have hw : wht c = false := al_not (by unfold al; rw [hd, Bool.or_true])
            refine itT ((in_figures c).trans hd) ?_
            have hkd := tw_le (p := dig) R
            refine ⟨fun σ' H'' => H'' = H' ∧ σ' = [some (.str x), some (.ref g), some (.int (n : Int)), some (.int (((R.takeWhile dig).length + 1 : Nat) : Int)), some (.str ⟨#[c]⟩)], ?_, ?_⟩
            · refine ⟨_, rfl, _, rfl, _, rfl, x, rfl, hz, _, rfl, ?_, _, rfl, _, rfl, _, rfl, x, rfl, hz, rfl, _, _, rfl, rfl, ?_, _, rfl, ?_, _, _, rfl, rfl, rfl, ?_⟩
              · rw [hcut, lcut]
                omega
              · rw [hcut, lcut]
                omega
              · rw [hcut, len_tl, strip_dig]
                show ((c :: R).dropWhile dig).length ≤ sizeLine
                have := tw_len (p := dig) (c :: R)
                simp only [List.length_cons] at this
                omega
              · show [some (V.str x), some (V.ref g), some (V.int (n : Int)), some (V.int (_ - _)), some (V.str ⟨#[c]⟩)] = _
                have hk : (((cutS x (some (n : Int)) none).length : Nat) : Int) - ((((Txt.lstripChars (cutS x (some (n : Int)) none) "0123456789")).length : Nat) : Int) = (((R.takeWhile dig).length + 1 : Nat) : Int) := by
                  rw [hcut, len_tl (Txt.lstripChars _ _), strip_dig, lcut]
                  have h1 := tw_len (p := dig) R
                  have h2 : (tl ⟨(c :: R).toArray⟩).dropWhile dig = R.dropWhile dig := by
                    show (c :: R).dropWhile dig = _
                    rw [List.dropWhile_cons, if_pos hd]
                  rw [h2]
                  omega
                rw [hk]
            · rintro σ2 H2 ⟨rfl, rfl⟩
              generalize hk : (R.takeWhile dig).length + 1 = k
              have hkl : n + k ≤ x.length := by omega
              have hdk : (tl x).drop (n + k) = R.dropWhile dig := by rw [← hk, hdd, tw_drop]
              have c1 : cutS x (some ((n : Int) + (k : Int))) (some ((n : Int) + (k : Int) + 1)) = ⟨((R.dropWhile dig).take 1).toArray⟩ := by
                have := cut_one x (n + k) hkl
                rw [hdk, Int.natCast_add] at this
                exact this
              refine ⟨_, rfl, _, rfl, _, rfl, _, _, rfl, rfl, _, rfl, _, rfl, _, rfl, _, _, rfl, rfl, _, _, rfl, rfl, _, rfl, x, rfl, hz, _, rfl, by decide, fun l hl2 => ⟨l, _, rfl, .inl (sq_of upd_same), rfl, by decide +kernel, _, rfl, ?_⟩⟩
              have good : ltrHead (R.dropWhile dig) = false → (decide (1 < (c :: R.takeWhile dig).length) && c == 48) = false → Ex H2 (upd H2 l (.lst (sgV "abcdefghijklmnopqrstuvwxyz"))) ∧ ∃ k' : Nat, [some (.str x), some (.ref g), some (.int (n : Int)), some (.int (k : Int)), some (.str ⟨#[c]⟩)] = [some (.str x), some (.ref g), some (.int (n : Int)), some (.int (k' : Int)), some (V.str ⟨#[c]⟩)] ∧ 1 ≤ k' ∧ n + k' ≤ x.length ∧
                  toksL (c :: R) = if wht c = true then toksL ((tl x).drop (n + k')) else (toksL ((tl x).drop (n + k'))).add (((tl x).drop n).take k') := by
                intro g1 g2
                refine ⟨Ex.new hl2, k, rfl, by omega, hkl, ?_⟩
                rw [if_neg (by rw [hw]; decide), toksL_dig hl hd (by rw [g1, g2]; rfl), hdk, hdr, ← hk, List.take_succ_cons, tw_take]
              have runs : (ltrHead (R.dropWhile dig) || (decide (1 < (c :: R.takeWhile dig).length) && c == 48)) = true → tRet (tTup tNil) { nx := fun _ H' => Q .non H', rt := Q } [some (.str x), some (.ref g), some (.int (n : Int)), some (.int (k : Int)), some (.str ⟨#[c]⟩)] (upd H2 l (.lst (sgV "abcdefghijklmnopqrstuvwxyz"))) := by
                intro g1
                refine ⟨by decide, fun t ht => kk _ _ ((e.trans (Ex.new hl2)).trans (Ex.new ht)) ?_⟩
                rw [htk, hdr, toksL_run hl hd g1]
                exact .tup (st_of upd_same) .nil
              have hb : inV (V.str (cutS x (some ((n : Int) + (k : Int))) (some ((n : Int) + (k : Int) + 1)))) (sgV "abcdefghijklmnopqrstuvwxyz") = ltrHead (R.dropWhile dig) := by
                rw [c1]
                exact inV_head _
              have hkk : (c :: R.takeWhile dig).length = k := by rw [← hk]; rfl
              cases hb1 : ltrHead (R.dropWhile dig) with
              | true => exact itT (hb.trans hb1) (itT rfl (runs (by rw [hb1]; rfl)))
              | false =>
                refine itF (hb.trans hb1) ⟨_, rfl, _, _, rfl, rfl, _, rfl, ?_⟩
                by_cases h1 : 1 < k
                · refine itT (decide_eq_true (by omega)) ⟨_, rfl, rfl, _, rfl, ?_⟩
                  have h48 : decide (V.str ⟨#[c]⟩ = V.str "0") = (c == 48) := by
                    have e1 : (Str.ofString "0") = ⟨#[48]⟩ := ext_tl (by decide +kernel)
                    rw [e1]
                    by_cases h : c = 48
                    · subst h; simp
                    · rw [decide_eq_false (fun z => h (one_inj.mp z)), show (c == 48) = false from beq_eq_false_iff_ne.mpr h]
                  cases hc48 : (c == 48) with
                  | true => exact itT (h48.trans hc48) (runs (by rw [hb1, hkk, decide_eq_true h1, hc48]; rfl))
                  | false => exact itF (h48.trans hc48) (good hb1 (by rw [hkk, decide_eq_true h1, hc48]; rfl))
                · exact itF (decide_eq_false (by omega)) (itF rfl (good hb1 (by rw [hkk, decide_eq_false h1]; rfl)))
          · have hd : dig c = false := by simpa using hd
            refine itF ((in_figures c).trans hd) ?_
            refine ⟨_, rfl, c, _, rfl, rfl, _, rfl, ?_⟩
            by_cases ho : (sgn c || wht c) = true
            · refine itF (by rw [show decide (c ∈ (Str.ofString "(){};,=+-*< \n").cps.toList) = true from (in_other c).trans ho]; rfl) ⟨Ex.refl _, 1, rfl, Nat.le_refl _, by omega, ?_⟩
              rw [show (tl x).drop (n + 1) = R from hRe, hdr]
              by_cases hw : wht c = true
              · rw [if_pos hw, toksL_wht hw]
              · have hw : wht c = false := by simpa using hw
                rw [if_neg (by rw [hw]; decide), toksL_sgn hl hd (by simpa [hw] using ho)]
                rfl
            · have ho : (sgn c || wht c) = false := by simpa using ho
              refine itT (by rw [show decide (c ∈ (Str.ofString "(){};,=+-*< \n").cps.toList) = false from (in_other c).trans ho]; rfl) ?_
              refine kk _ _ e ?_
              rw [htk, hdr, toksL_bad hl hd ho]
              exact .non
      · rintro σ2 H2 ⟨e2, k, rfl, hk1, hkl, htl⟩
        have hcast : ((n : Int) + (k : Int)) = ((n + k : Nat) : Int) := (Int.natCast_add n k).symm
        refine ⟨_, rfl, c, _, rfl, rfl, _, rfl, ?_⟩
        by_cases hw : wht c = true
        · refine itF (by rw [show decide (c ∈ (Str.ofString " \n").cps.toList) = true from (in_white c).trans hw]; rfl) ⟨_, rfl, _, rfl, _, _, rfl, rfl, ?_⟩
          refine ⟨n + k, ts, some (.int (k : Int)), some (.str ⟨#[c]⟩), by omega, hkl, by omega, ?_, e.trans e2, e2 g _ hgg, ?_⟩
          · rw [← hcast]
            rfl
          · rw [htk, hdr, htl, if_pos hw]
        · have hw : wht c = false := by simpa using hw
          refine itT (by rw [show decide (c ∈ (Str.ofString " \n").cps.toList) = false from (in_white c).trans hw]; rfl) ?_
          refine ⟨_, rfl, .inl ⟨rfl, _, sq_of (e2 g _ hgg)⟩, _, rfl, _, rfl, _, rfl, _, rfl, _, rfl, _, _, rfl, rfl, _, rfl, x, rfl, hz, g, _, _, rfl, rfl, e2 g _ hgg, ?_, ?_⟩
          · unfold ofs
            rw [List.length_map, List.length_map]
            exact Nat.lt_of_lt_of_le (Nat.lt_of_le_of_lt hts hlt) hz
          refine ⟨_, rfl, _, rfl, _, _, rfl, rfl, n + k, ts ++ [((tl x).drop n).take k], some (.int (k : Int)), some (.str ⟨#[c]⟩), by omega, hkl, by simp; omega, ?_, exm (e.trans e2) hg, ?_, ?_⟩
          · rw [← hcast]
            rfl
          · rw [upd_same, hcast, cut_nk x n k hkl]
            unfold ofs
            simp
          · rw [htk, hdr, htl, if_neg (by rw [hw]; decide), Tk.pre_add, hdr]
    · refine itF (decide_eq_false (by omega)) ?_
      have hd : (tl x).drop n = [] := List.drop_eq_nil_of_le (by omega)
      refine ⟨_, rfl, g, _, rfl, .inl ⟨sq_of hgg, fun t ht => kk _ _ (e.trans (Ex.new ht)) ?_⟩⟩
      rw [htk, hd, toksL]
      show Dp K _ _ (strD (ts ++ []))
      rw [List.append_nil]
      exact .tup (st_of upd_same) (dpa_strs _)
end
end K2

set_option maxHeartbeats 4000000
namespace DL
open PySem L2 Evl PySem.Spec PyProof.Rows CwR
/-! ### a token is out -/
theorem thnT {α : Type} {M : Model} {A : Around} {c : Sem α} {Q R : α → Shared → Prop} {E : Value → Shared → Prop} {s : Shared} {n : Nat} (hn : n ≤ s.toks) (h : wpAny M A c Q E s) (k : ∀ a s', n ≤ s'.toks → Q a s' → R a s') : wpAny M A c R E s :=
  wpAny_mono (wpAny_toks_of hn h) (fun a s' z => k a s' z.1 z.2) (fun _ _ z => z.2)
section
variable {X : Cx} {st : Stmt} {rest : List Stmt} {t u : TS} {e : Expr} {te : TE} {es : List Expr} {ta : TA} {pos : Pos}
theorem psst_cut (h1 : PST X st t) (h2 : PSsT X rest u) : PSsT X (st :: rest) (tCut t u) := by
  intro pins s σ H D h0 I h
  obtain ⟨Mid, hm, hu⟩ := h
  refine wpAny_execs_cons (thnT h0 (h1 pins s σ H { D with nx := Mid } h0 I hm) (fun f s1 h3 q => ?_))
  cases f with
  | next => obtain ⟨σ1, H1, I1, q⟩ := q; exact h2 pins s1 σ1 H1 D h3 I1 (hu σ1 H1 q)
  | ret v => exact q
  | brk => exact q
  | cont => exact q
theorem pst_set {i : Nat} {x : Str} {pos' : Pos} (hN : X.N.Nodup) (hi : X.N[i]? = some x) (hx : Loc X.env.scope x) (he : PET X e te) (hs : swapsWith e (some (.Name x pos')) pos.line X.env = pure false := by rfl)
    (hf : X.fn x = true ∨ X.env.scope.names.lookup x = some .local := by first | exact .inl rfl | exact .inr rfl | assumption) : PST X (.Assign [.Name x pos'] e pos) (tAsg te (gName i)) := by
  intro pins s σ H D h0 I h
  exact wpAny_Assign_Name (thn (he pins s σ H _ h0 I h) fun v s1 ⟨y, H1, I1, r1, q1⟩ => store_ok I1 hN hi hx r1 (fun s2 I2 => ⟨_, H1, I2, q1⟩) hf) hs
theorem pet_tup {k : Nat} (h : PAT X es ta) : PET X (.Tuple es k pos) (tTup ta) := by
  intro pins s σ H Q h0 I hq
  refine wpAny_Tuple_spliced (thn (h pos pins s σ H _ h0 I hq) fun us s1 z => ?_)
  obtain ⟨xs, H1, I1, r, z, q⟩ := z
  have fresh : H1 s1.heap.objs.size = none := I1.hok.fresh (Nat.le_refl _)
  exact ⟨by rw [← r.length]; exact z, .ref s1.heap.objs.size, upd H1 s1.heap.objs.size (.tup xs), I1.laid (t' := s1.toks) (fun b v w => Heap.get?_push_of_some _ w) (Nat.le_refl _) ⟨z, us, r, ⟨_, Heap.get?_push_size _ rfl, rfl, _, rfl⟩⟩, rfl, q _ fresh⟩
theorem pit_tup {tg : Expr} (h : PET X e te) : PIT X tg e (iTup X.K te) := by
  intro pins s σ H R h0 I hq
  refine thn (h pins s σ H _ h0 I hq) fun v s1 z => ?_
  obtain ⟨x, H1, I1, r1, a, rfl, ⟨xs, hS⟩, q⟩ := z
  obtain rfl : v = Value.ref a := r1
  obtain ⟨its, rv, p, hz⟩ := I1.tuple hS
  refine wpAny_pyIter_tuple (show s1.heap.IsTuple a its.toArray from p) ⟨s1.heap.objs.size, [s1.heap.objs.size], _, _, H1, rfl, ?_, turn_tuple a _, ⟨_, Heap.get?_push_size _ rfl, rfl, rfl⟩, fun b hb => ?_, q⟩
  · exact I1.kept (t' := s1.toks) fun b o w => Heap.get?_push_of_some _ w
  · obtain rfl : b = s1.heap.objs.size := by simpa using hb
    exact I1.fpOk (Nat.le_refl _) (I1.hok.fresh (Nat.le_refl _))
/-- for, a token out in its body too -/
theorem pst_forT {tg iter : Expr} {body : List Stmt} {wi : TI} {g : TG} {tb : TS} (hp : PassesOwn (model X.prog X.w) X.A X.env X.xe) (hc : X.calm = true) (hi : PIT X tg iter wi) (hg : PG X tg g) (hb : PSsT X body tb)
    (hs : ∀ x, foldedSetIterable iter X.env x = pure x := by intro _; rfl) : PST X (.For tg iter body [] pos) (tFor wi g tb) := by
  intro pins s σ H D h0 I h
  refine wpAny_For (thnT h0 (hi pins s σ H _ h0 I h) fun v s1 t1 h1 => thnT t1 h1 fun itv s2 t2 h2 => ?_) hs
  obtain ⟨it, fp, tn, J, H2, rfl, I2, T, st2, f2, W, ⟨m0, w0⟩, turn⟩ := h2
  have stat : ∀ {H' : Hp}, (∀ b ∈ fp, H' b = none) → ∀ b ∈ fp, FpOk X pins H' b := fun hn b hb => ⟨hn b hb, (f2 b hb).2⟩
  refine codeAny_forLoop_any (fun n s' => 1 ≤ s'.toks ∧ ∃ i σ' H', Inv X pins σ' H' s' ∧ tn i s'.heap ∧ (∀ b ∈ fp, H' b = none) ∧ W i n σ' H') ?_ m0 ⟨t2, 0, σ, H2, I2, st2, fun b hb => (f2 b hb).1, w0⟩
  rintro n s3 ⟨t3, i, σ3, H3, I3, st3, fr3, w3⟩
  rcases turn i n σ3 H3 w3 with ⟨stop, qn⟩ | ⟨go, N, hN, step⟩
  · refine wpAny_passesOwn hp (thn (T.done X rfl rfl rfl hc i pins s3 σ3 H3 X.xe I3 (stat fr3) st3 stop) fun r s4 z => ?_)
    obtain ⟨rfl, I4⟩ := z
    exact wpAny_execs_nil ⟨σ3, H3, I4, qn⟩
  · refine wpAny_passesOwn hp (thnT t3 (T.item X rfl rfl rfl hc i pins s3 σ3 H3 X.xe I3 (stat fr3) st3 go) fun r s4 t4 z => ?_)
    obtain ⟨w, rfl, h4⟩ := z
    refine wpAny_passesOwn hp (thnT t4 h4 fun _ s5 t5 z => ?_)
    obtain ⟨x, H5, I5, r5, y5, st5, fr5⟩ := z
    refine wpAny_passesOwn hp (thnT t5 (hg.run _ s5 σ3 H5 x w _ (I5.pinned (stat fr5) (T.obj _ _ st5)) r5 (step x H5 y5)) fun _ s6 t6 z => ?_)
    obtain ⟨σ6, H6, I6, q6⟩ := z
    refine wpAny_passesOwn hp (thnT t6 (hb _ s6 σ6 H6 _ t6 I6 q6) fun f s7 t7 q7 => ?_)
    have pinAt : ∀ {σ7 : L2.St} {H7 : Hp}, Inv X (pins ++ pinsAt fp s5.heap) σ7 H7 s7 → ∀ b ∈ fp, ∀ o, s5.heap.get? b = some o → s7.heap.get? b = some o ∧ H7 b = none := fun {σ7 H7} I7 b hb o eo => by
      have := I7.pin (b, o) (List.mem_append_right _ (List.mem_append_right _ (mem_pinsAt hb eo)))
      exact ⟨this.1, this.2.1⟩
    have again : ∀ {σ7 : L2.St} {H7 : Hp}, Inv X (pins ++ pinsAt fp s5.heap) σ7 H7 s7 → N σ7 H7 → ∃ m, m < n ∧ 1 ≤ s7.toks ∧ ∃ i σ' H', Inv X pins σ' H' s7 ∧ tn i s7.heap ∧ (∀ b ∈ fp, H' b = none) ∧ W i m σ' H' := fun {σ7 H7} I7 n7 => by
      obtain ⟨m1, lt, w7⟩ := hN σ7 H7 n7
      refine ⟨m1, lt, t7, i + 1, σ7, H7, I7.unpinned, T.keep _ _ _ st5 fun b hb o eo => (pinAt I7 b hb o eo).1, fun b hb => ?_, w7⟩
      obtain ⟨o, eo, _⟩ := T.obj _ _ st5 b hb
      exact (pinAt I7 b hb o eo).2
    cases f with
    | next => obtain ⟨σ7, H7, I7, n7⟩ := q7; exact again I7 n7
    | cont => obtain ⟨σ7, H7, I7, n7⟩ := q7; exact again I7 n7
    | brk => obtain ⟨σ7, H7, I7, z⟩ := q7; exact ⟨σ7, H7, I7.unpinned, z⟩
    | ret v => obtain ⟨y, σ7, H7, I7, ry, z⟩ := q7; exact ⟨y, σ7, H7, I7.unpinned, ry, z⟩
end
section
variable {X : Cx} {CX : CXT} {G : Bool} {k : Nat} {st : Stmt} {ps : List Str} {sp : Sp} {E : XK} {x kw : Str} {p pos kpos : Pos} {e : Expr} {te : TE}
/-- f(k = e), a token out -/
theorem pet_callDK {g : {α : Type} → List α → List α} (D : DefOk X.prog X.w X.K X.mg X.base CX G k x st ps sp) (hr : Room k X.A) (hgd : G = false ∨ X.A.guards = some []) (hb : BindK x st ps [kw] g) (hrel : ∀ {vs : List V} {us : List Value}, Vals vs us → Vals (g vs) (g us)) (hx : Passes CX X E)
    (he : PET X e te) (hks : (backToKw pos (keywordEach [⟨some kw, e, kpos⟩] X.env)).filterMap (·.1) = [kw] := by rfl) (hall : (backToKw pos (keywordEach [⟨some kw, e, kpos⟩] X.env)).all (·.1.isSome) = true := by rfl) (hg : Gl X x := by rfl)
    (hdb : (x == ("__debug__" : Str)) = false := by decide)
    (hev : (backToKw pos (keywordEach [⟨some kw, e, kpos⟩] X.env)).map (·.2) = [do let v ← eval e X.env; standAt pos; pure v] := by rfl)
    (hpl : ((backTo pos (starEach [] X.env)).any (·.1) || (backToKw pos (keywordEach [⟨some kw, e, kpos⟩] X.env)).any (·.1.isNone)) = false := by rfl) :
    PET X (.Call (.Name x p) [] [⟨some kw, e, kpos⟩] pos) (tCallKO 1 sp g E (tCons te tNil)) := by
  obtain ⟨f, fd, F, hm, R⟩ := D.ex
  intro pins s σ H Q h0 I h
  refine wpAny_Call_Name_kw (ld_glob I hg hm ?_ hdb)
  refine PySem.W.callWith_KW0 (h₀ := X.base) I.ok.mod.kin F.kp hall ?_ hpl
  rw [hev]
  refine wpAny_evalAll_cons (wpAny_bind (thn (he pins s σ H _ h0 I h) fun u s1 z => wpAny_bind (wpAny_standAt (wpAny_pure (wpAny_evalAll_nil ?_)))))
  obtain ⟨y, H1, I1, r1, hl, q1⟩ := z
  refine ⟨I1.kIn, ?_⟩
  rw [hks]
  obtain ⟨oc, od, kV, doc, pm, an, cdv, ct, osl, rfl, lk, hcd⟩ := F.ex
  have hbt : BindsTo s1 _ ⟨[], [kw].zip [u]⟩ (ps.zip (g [u])) := .of_eq (hb kV doc pm an cdv ct [u] rfl)
  refine wpAny_call (codeAny_mono (run_D R hgd hr hbt hx I1 (hrel (.cons r1 .nil)) q1) fun r s' hq => ?_)
  cases r with
  | error e => exact hq
  | ok fl => cases fl with
    | ret u => exact hq
    | next => exact hq
    | brk => exact hq
    | cont => exact hq
end
/-! ### a def without cells: at its entry a token is out -/
theorem bindL_locals {kindOf : Str → Option NameKind} : ∀ (binds : List (Str × Value)) (m : Str → Option Value), (∀ y ∈ binds, kindOf y.1 = some .local) → bindL kindOf binds m = fun z => (binds.reverse.lookup z).or (m z)
  | [], m, _ => by funext z; simp [bindL]
  | (n, v) :: r, m, h => by
    have hn : kindOf n = some .local := h (n, v) (by simp)
    rw [bindL, if_pos hn, bindL_locals r _ fun y hy => h y (List.mem_cons_of_mem _ hy)]
    funext z
    rw [List.reverse_cons, List.lookup_append]
    cases h2 : r.reverse.lookup z with
    | some w => simp
    | none =>
      by_cases e : z = n
      · subst e; simp [List.lookup]
      · have : (z == n) = false := by simpa using e
        simp [List.lookup, this, e]
section
variable {P : Program} {w : World} {K : PySem.W.Frag} {mg : Str → Option Value} {base : Heap} {CX : CXT} {k : Nat} {x : Str} {st : Stmt} {ps : List Str} {sp : Sp}
theorem DefAt.okGT {N : List Str} (D : DefAt K mg x st) (S : FnScope N ps (defScope st)) (hcl : ∀ y ∈ (defScope st).names, y.2 ≠ .cell) (hps : 0 < ps.length) (len : ∀ vs H Q E, sp vs H Q E → vs.length = ps.length)
    (hbody : ∀ (f : Addr) (cdv : Value) (A : Around) (outer : List Env) (s : Shared) (H : Hp) (vs : List V) (Q : VK) (E : XK), A.guards = some [] → Room k (A.deeper (envOfC x (defScope st) s.heap.objs.size f cdv)) → sp vs H Q E →
      ∃ t, PSsT (cxOf CX P w K mg base N x (defScope st) f cdv A outer s H E).nox (defBody st) t ∧ t { nx := fun _ H' => Q .non H', rt := Q } (L2.start N vs) H) :
    DefOk P w K mg base CX true (k + 1) x st ps sp := by
  obtain ⟨f, fd, F, hm⟩ := D.ex
  refine ⟨f, fd, F, hm, ?_⟩
  obtain ⟨oc, od, kV, doc, pm, an, cdv, ct, osl, rfl, lk, hcd⟩ := F.ex
  refine ⟨len, fun A outer s H args us vs Q E hgd hr e0 hb r hsp => ?_⟩
  have hl := len _ _ _ _ hsp
  have hlu : us.length = ps.length := by rw [← r.length]; exact hl
  have KX : K.In s.heap := e0.mod.kin.keeps fun b o z => (e0.bs b o z).1
  have lim : s.heap.NoLimit := e0.mod.nolimit.keeps fun b o z => (e0.bs b o z).1
  have hloc : ∀ y ∈ ps.zip us, (defScope st).names.lookup y.1 = some .local := by
    rintro ⟨n, v⟩ hy
    rcases S.par n (List.of_mem_zip hy).1 with q | q
    · exact q
    · exact absurd rfl (hcl _ (PySem.mem_of_lookup q))
  have hcells : ∀ n, cellsFrom n (defScope st).names [] = [] := by
    have gen : ∀ (l : List (Str × NameKind)) (n : Nat) (acc : List (Str × Addr)), (∀ y ∈ l, y.2 ≠ .cell) → cellsFrom n l acc = acc := by
      intro l
      induction l with
      | nil => intro n acc _; rfl
      | cons y r ih =>
        intro n acc h
        have h1 := h y (by simp)
        obtain ⟨a, kd⟩ := y
        have h2 : (kd == NameKind.cell) = false := by simpa using h1
        rw [cellsFrom, h2, if_neg Bool.false_ne_true]
        exact ih n acc fun z hz => h z (List.mem_cons_of_mem _ hz)
    exact fun n => gen _ n [] hcl
  refine codeAny_call_function hr.depth (KX _ _ lk) rfl S.co S.gen rfl (PySem.W.codeRec_of KX hcd) (hb _ _ _ _ (wpAny_newFunctionEnv hcl hloc (fun h1 hns hsb => ?_) S.kind))
  have hk : ∀ b o, s.heap.get? b = some o → h1.get? b = some o := fun b o z => hsb.extBut b o (Nat.ne_of_lt (Heap.lt_size z)) (Heap.get?_push_of_some _ z)
  have henv : newEnv (defScope st) s.heap.objs.size mainGlobals [] (x ++ ".<locals>.") (some f) cdv none builtinsNs = envOfC x (defScope st) s.heap.objs.size f cdv := by
    unfold newEnv envOfC
    rw [hcells]
  refine ⟨lim.keeps hk, ?_⟩
  show codeAny _ _ (.func _ (newEnv (defScope st) s.heap.objs.size mainGlobals [] (x ++ ".<locals>.") (some f) cdv none builtinsNs)) _ _
  rw [henv]
  refine codeAny_func ?_
  have hkind : ∀ y ∈ ps.zip us, (envOfC x (defScope st) s.heap.objs.size f cdv).kindOf y.1 = some .local := hloc
  have Y : InCallC s s.heap.objs.size (bindL (envOfC x (defScope st) s.heap.objs.size f cdv).kindOf (ps.zip us) fun _ => none) (cellsFrom (s.heap.objs.size + 1) (defScope st).names []) (bindC (envOfC x (defScope st) s.heap.objs.size f cdv).kindOf (ps.zip us) fun _ => none)
      { s with heap := h1, toks := s.toks + (ps.zip us).length } := by
    refine ⟨⟨⟨h1, _, rfl⟩, ?_, hk, Nat.le_refl _⟩, fun n c hc => ?_, ?_, fun n c hc => ?_⟩
    · rw [bindL_locals _ _ hkind]
      simpa using hns
    · rw [hcells] at hc
      simp at hc
    · rw [hcells]
      exact .nil
    · rw [hcells] at hc
      simp at hc
  have I : L2.Inv (cxOf CX P w K mg base N x (defScope st) f cdv A outer s H E) [] (L2.start N vs) H _ := inv_start S hr.hd e0 hl r Y
  obtain ⟨t, ht, hq⟩ := hbody f cdv A outer s H vs Q E hgd (hr.deeper _) hsp
  refine wpAny_mono (ht [] _ (L2.start N vs) H { nx := fun _ H' => Q .non H', rt := Q } ?_ (I.wish _) hq) (fun fl s' hs => ?_) fun e s' hs => hs.elim
  · show 1 ≤ s.toks + (ps.zip us).length
    rw [List.length_zip, hlu, Nat.min_self]
    omega
  · have hs := hs.unwish
    cases fl with
    | ret u => obtain ⟨v, σ1, H1, J, rv, q⟩ := hs; exact ⟨v, H1, J.os, J.bare, J.base, J.hok, rv, q⟩
    | next => obtain ⟨σ1, H1, J, q⟩ := hs; exact ⟨.non, H1, J.os, J.bare, J.base, J.hok, rfl, q⟩
    | brk => obtain ⟨_, _, _, q⟩ := hs; exact q.elim
    | cont => obtain ⟨_, _, _, q⟩ := hs; exact q.elim
end
end DL

set_option maxHeartbeats 4000000
namespace DL
open PySem L2 Evl TL
/-! ### data that repr shows whole, by size -/
structure Sw (n dp : Nat) (d : PyData) : Prop where
  ok : d.showable = true
  deep : d.depth ≤ dp
  leaf : d.leavesShort 8 = true
  wt : d.weight ≤ n
theorem Sw.shows {n dp : Nat} {d : PyData} (h : Sw n dp d) (hn : n ≤ 1000000) (hd : dp ≤ 40) : Shows d := by
  refine ⟨h.ok, Nat.le_trans h.deep hd, ?_⟩
  have h1 := PyData.shown_le 8 (by decide) d h.leaf
  have h2 : (8 + 2) * d.weight + 8 ≤ 10000008 := by
    have := h.wt
    omega
  exact Nat.le_trans h1 (Nat.le_trans h2 (by decide))
theorem sw_str {x : Str} (h : ∀ c ∈ tl x, c < 4294967296) : Sw x.length 0 (.str x) := by
  refine ⟨rfl, Nat.le_refl _, ?_, Nat.le_refl _⟩
  simp only [PyData.leavesShort]
  exact List.all_eq_true.mpr fun c hc => decide_eq_true (h c hc)
theorem sw_non : Sw 0 0 .none := ⟨rfl, Nat.le_refl _, rfl, Nat.le_refl _⟩
theorem sw_int {i : Int} (h : (Sw 20 0 (.int i) : Prop)) : Sw 20 0 (.int i) := h
theorem Sw.mono {n m dp dq : Nat} {d : PyData} (h : Sw n dp d) (h1 : n ≤ m) (h2 : dp ≤ dq) : Sw m dq d := ⟨h.ok, Nat.le_trans h.deep h2, h.leaf, Nat.le_trans h.wt h1⟩
structure Sws (n dp : Nat) (ds : List PyData) : Prop where
  ok : PyData.showableAll ds = true
  deep : PyData.depthAll ds ≤ dp
  leaf : PyData.leavesShortAll 8 ds = true
  wt : PyData.weightAll ds ≤ n
theorem sws_nil {dp : Nat} : Sws 0 dp [] := ⟨rfl, by simp [PyData.depthAll], rfl, Nat.le_refl _⟩
theorem sws_cons {n m dp : Nat} {d : PyData} {ds : List PyData} (h : Sw n dp d) (hs : Sws m dp ds) : Sws (n + 1 + m) dp (d :: ds) := by
  refine ⟨?_, ?_, ?_, ?_⟩
  · simp only [PyData.showableAll, h.ok, hs.ok, Bool.and_self]
  · simp only [PyData.depthAll]
    exact Nat.max_le.mpr ⟨h.deep, hs.deep⟩
  · simp only [PyData.leavesShortAll, h.leaf, hs.leaf, Bool.and_self]
  · have := h.wt
    have := hs.wt
    simp only [PyData.weightAll]
    omega
theorem sws_all {n dp : Nat} : ∀ {ds : List PyData}, (∀ d ∈ ds, Sw n dp d) → Sws ((n + 1) * ds.length) dp ds
  | [], _ => by simpa using sws_nil
  | d :: r, h => by
    have := sws_cons (h d (by simp)) (sws_all (ds := r) fun x hx => h x (List.mem_cons_of_mem _ hx))
    rw [List.length_cons, Nat.mul_succ, Nat.add_comm]
    exact this
theorem sw_lst {n dp : Nat} {ds : List PyData} (h : Sws n dp ds) : Sw n (dp + 1) (.list ds) := ⟨h.ok, Nat.succ_le_succ h.deep, h.leaf, h.wt⟩
theorem sw_tup {n dp : Nat} {ds : List PyData} (h : Sws n dp ds) : Sw n (dp + 1) (.tuple ds) := ⟨h.ok, Nat.succ_le_succ h.deep, h.leaf, h.wt⟩
/-! ### replacing one sign -/
theorem repl_one (a : Nat) (z : List Nat) : ∀ l : List Nat, StrLaws.replL [a] z l = l.flatMap fun c => if c = a then z else [c]
  | [] => rfl
  | c :: r => by
    by_cases h : c = a
    · subst h
      rw [StrLaws.replL_hit (by simp) (by simp)]
      simp only [List.length_singleton, List.drop_succ_cons, List.drop_zero, List.flatMap_cons, if_true]
      rw [repl_one c z r]
    · rw [StrLaws.replL_miss (by simpa using h), repl_one a z r]
      simp only [List.flatMap_cons, if_neg h, List.singleton_append]
theorem tl_repl (x z : Str) : tl (Txt.replace x " " z) = (tl x).flatMap fun c => if c = 32 then tl z else [c] := by
  have h := StrLaws.replace_list (x := x) (y := (" " : Str)) (z := z) (by decide)
  have e : ((" " : Str)).cps.toList = [32] := by decide +kernel
  rw [e] at h
  exact h.trans (repl_one 32 (tl z) (tl x))
end DL
namespace PG
open PySem L2 Evl DL TL
/-! ### reading a text of tokens -/
/-- nothing, or white, ahead -/
def apart : List Nat → Bool
  | [] => true
  | c :: _ => wht c
theorem apart_al {r : List Nat} (h : apart r = true) : r.takeWhile al = [] ∧ r.dropWhile al = r ∧ r.takeWhile dig = [] ∧ r.dropWhile dig = r ∧ ltrHead r = false := by
  cases r with
  | nil => exact ⟨rfl, rfl, rfl, rfl, rfl⟩
  | cons c r =>
    have hw := wht_not (c := c) h
    have ha : al c = false := by unfold al; rw [hw.1, hw.2.1]; rfl
    simp only [List.takeWhile_cons, List.dropWhile_cons, ha, hw.2.1]
    exact ⟨rfl, rfl, rfl, rfl, hw.1⟩
theorem tw_all {p : Nat → Bool} {a r : List Nat} (h : ∀ c ∈ a, p c = true) : (a ++ r).takeWhile p = a ++ r.takeWhile p ∧ (a ++ r).dropWhile p = r.dropWhile p := by
  induction a with
  | nil => exact ⟨rfl, rfl⟩
  | cons c a ih =>
    have h1 := h c (by simp)
    have h2 := ih fun d hd => h d (List.mem_cons_of_mem _ hd)
    simp only [List.cons_append, List.takeWhile_cons, List.dropWhile_cons, h1, if_true, h2.1, h2.2, and_self]
theorem toksL_tok {p r : List Nat} (hp : gtL p = true) (hr : apart r = true) : toksL (p ++ r) = (toksL r).add p := by
  have hA := apart_al hr
  unfold gtL at hp
  rw [Bool.or_eq_true] at hp
  rcases hp with hp | hp
  · cases p with
    | nil => simp [wdL] at hp
    | cons c w =>
      simp only [wdL, Bool.and_eq_true, List.all_eq_true] at hp
      have ht := tw_all (p := al) (a := w) (r := r) fun d hd => hp.2 d hd
      rw [List.cons_append, K2.toksL_ltr hp.1, ht.1, ht.2, hA.1, hA.2.1, List.append_nil]
  · match p, hp with
    | [c], hp =>
      simp only [Bool.or_eq_true] at hp
      rw [List.singleton_append]
      rcases hp with hd | hs
      · have hl : ltr c = false := by
          unfold dig at hd
          have := of_decide_eq_true hd
          unfold ltr
          exact decide_eq_false (by omega)
        rw [K2.toksL_dig hl hd (by rw [hA.2.2.2.1, hA.2.2.2.2, hA.2.2.1]; rfl), hA.2.2.1, hA.2.2.2.1]
      · have hs' : sgn c = true := hs
        have hl : ltr c = false ∧ dig c = false := by
          unfold sgn sgs at hs'
          simp only [List.contains_iff_mem, List.mem_cons, List.not_mem_nil, or_false] at hs'
          unfold ltr dig
          exact ⟨decide_eq_false (by omega), decide_eq_false (by omega)⟩
        rw [K2.toksL_sgn hl.1 hl.2 hs']
theorem toksL_join {v : Nat} (hv : wht v = true) : ∀ ps : List (List Nat), (∀ p ∈ ps, gtL p = true) → toksL (joinL [v] ps) = .ok ps
  | [], _ => by rw [joinL, toksL]
  | [p], h => by
    have := toksL_tok (r := []) (h p (by simp)) rfl
    rw [List.append_nil, toksL] at this
    exact this
  | p :: q :: r, h => by
    rw [joinL_cons (by simp), toksL_tok (h p (by simp)) (by exact hv)]
    show (toksL (v :: joinL [v] (q :: r))).add p = _
    rw [K2.toksL_wht hv, toksL_join hv (q :: r) fun x hx => h x (List.mem_cons_of_mem _ hx)]
    rfl
theorem toksP_of_ok {l : List Nat} {ts : List (List Nat)} (h : toksL l = .ok ts) : toksP l = some ts := by
  have := toks_agree l
  rw [h] at this
  exact this.1
/-- signs of tokens are low, not white -/
theorem gtL_low {p : List Nat} (h : gtL p = true) : ∀ c ∈ p, c < 128 ∧ c ≠ 32 := by
  intro c hc
  unfold gtL at h
  rw [Bool.or_eq_true] at h
  rcases h with h | h
  · cases p with
    | nil => simp at hc
    | cons d r =>
      simp only [wdL, Bool.and_eq_true, List.all_eq_true, Bool.or_eq_true] at h
      have ha : ltr c = true ∨ dig c = true := by
        rcases List.mem_cons.mp hc with e | e
        · exact .inl (e ▸ h.1)
        · exact h.2 c e
      rcases ha with q | q
      · unfold ltr at q
        have := of_decide_eq_true q
        omega
      · unfold dig at q
        have := of_decide_eq_true q
        omega
  · match p, h with
    | [d], h =>
      obtain rfl : c = d := by simpa using hc
      simp only [Bool.or_eq_true] at h
      rcases h with q | q
      · unfold dig at q
        have := of_decide_eq_true q
        omega
      · unfold sgs at q
        simp only [List.contains_iff_mem, List.mem_cons, List.not_mem_nil, or_false] at q
        omega
theorem join_low {ps : List (List Nat)} (h : ∀ p ∈ ps, gtL p = true) : ∀ c ∈ joinL [32] ps, c < 128 := by
  induction ps with
  | nil => intro c hc; simp [joinL] at hc
  | cons p r ih =>
    intro c hc
    have ih := ih fun q hq => h q (List.mem_cons_of_mem _ hq)
    cases r with
    | nil => exact (gtL_low (h p (by simp)) c hc).1
    | cons q r =>
      rw [joinL_cons (by simp)] at hc
      rcases List.mem_append.mp hc with e | e
      · exact (gtL_low (h p (by simp)) c e).1
      · rcases List.mem_append.mp e with e | e
        · simp at e; omega
        · exact ih c e
theorem join_swap : ∀ {ps : List (List Nat)}, (∀ p ∈ ps, gtL p = true) → ((joinL [32] ps).flatMap fun c => if c = 32 then [10] else [c]) = joinL [10] ps := by
  have one : ∀ {p : List Nat}, gtL p = true → (p.flatMap fun c => if c = 32 then [10] else [c]) = p := by
    intro p hp
    have := gtL_low hp
    clear hp
    induction p with
    | nil => rfl
    | cons c r ih =>
      rw [List.flatMap_cons, if_neg (this c (by simp)).2, ih fun d hd => this d (List.mem_cons_of_mem _ hd)]
      rfl
  intro ps
  induction ps with
  | nil => intro _; rfl
  | cons p r ih =>
    intro h
    have ih := ih fun q hq => h q (List.mem_cons_of_mem _ hq)
    cases r with
    | nil => exact one (h p (by simp))
    | cons q r =>
      rw [joinL_cons (S := [32]) (p := p) (r := q :: r) (by simp), joinL_cons (S := [10]) (p := p) (r := q :: r) (by simp), List.flatMap_append, List.flatMap_append, one (h p (by simp)), ih]
      rfl
/-- the whole text -/
theorem text_ok {ts : List Str} (h : ∀ x ∈ ts, gt x) : toksL (tl (sp ts)) = .ok (ts.map tl) ∧ toksP (tl (sp ts)) = some (ts.map tl) ∧ toksP (tl (Txt.replace (sp ts) " " "\n")) = some (ts.map tl) ∧ ∀ c ∈ tl (sp ts), c < 128 := by
  have hg : ∀ p ∈ ts.map tl, gtL p = true := fun p hp => by
    obtain ⟨x, hx, rfl⟩ := List.mem_map.mp hp
    exact (h x hx).1
  have h1 : toksL (tl (sp ts)) = .ok (ts.map tl) := by rw [tl_sp, toksL_join (by decide) _ hg]
  refine ⟨h1, toksP_of_ok h1, toksP_of_ok ?_, ?_⟩
  · have e : tl (Str.ofString "\n") = [10] := by decide +kernel
    rw [tl_repl, e, tl_sp, join_swap hg, toksL_join (by decide) _ hg]
  · rw [tl_sp]
    exact join_low hg
theorem ofs_tl (ts : List Str) : K2.ofs (ts.map tl) = ts := by
  unfold K2.ofs
  rw [List.map_map]
  have : ((fun t : List Nat => (⟨t.toArray⟩ : Str)) ∘ tl) = id := by funext x; exact mk_tl x
  rw [this, List.map_id]
def low (x : Str) : Prop := ∀ c ∈ tl x, c < 128
theorem low_cut {x : Str} (h : low x) (a b : Option Int) : low (cutS x a b) := fun c hc => h c (List.mem_of_mem_drop (List.mem_of_mem_take hc))
theorem low_app {x y : Str} (h : low x) (h2 : low y) : low (x ++ y) := fun c hc => by
  rw [tl_append] at hc
  rcases List.mem_append.mp hc with e | e
  · exact h c e
  · exact h2 c e
theorem low_repl {x z : Str} (h : low x) (h2 : low z) : low (Txt.replace x " " z) := fun c hc => by
  rw [tl_repl] at hc
  obtain ⟨d, hd, hc⟩ := List.mem_flatMap.mp hc
  split at hc
  · exact h2 c hc
  · rw [List.mem_singleton.mp hc]
    exact h d hd
theorem len_cut {x : Str} (n k : Nat) : (cutS x (some (n : Int)) (some ((n : Int) + (k : Int)))).length ≤ k := by
  have e : (n : Int) + (k : Int) = ((n + k : Nat) : Int) := (Int.natCast_add n k).symm
  rw [e, len_tl]
  show (List.take _ _).length ≤ k
  rw [List.length_take]
  simp only [HT.sIx_nat]
  omega
theorem len_cut_le (x : Str) (a b : Option Int) : (cutS x a b).length ≤ x.length := by
  rw [len_tl, len_tl x]
  show (List.take _ _).length ≤ x.cps.toList.length
  rw [List.length_take, List.length_drop]
  omega
theorem sp_pos {ts : List Str} (h : ∀ x ∈ ts, gt x) (hn : ts ≠ []) : 0 < (sp ts).length := by
  cases ts with
  | nil => exact absurd rfl hn
  | cons t r =>
    have ht := (h t (by simp)).1
    have h1 : 0 < (tl t).length := by
      cases e : tl t with
      | nil => rw [e] at ht; exact absurd ht (by decide)
      | cons c l => simp
    rw [len_tl]
    cases r with
    | nil => exact h1
    | cons q r =>
      rw [sp_cons (by simp), tl_append, tl_append]
      simp only [List.length_append]
      omega
theorem prog_text {tops : List Top} (h : okProg tops) : (∀ x ∈ progT tops, gt x) ∧ (sp (progT tops)).length ≤ 19110 ∧ 0 < (sp (progT tops)).length ∧ (progT tops).length ≤ 1470 := by
  obtain ⟨h1, h2, h3⟩ := ok_tops h
  have hg := progT_gt h1
  have hl : (progT tops).length ≤ 1470 := by rw [h2] at hg; omega
  refine ⟨hg.1, sp_len hg.1 hl, sp_pos hg.1 (fun e => ?_), hl⟩
  cases tops with
  | nil => cases h2
  | cons t r =>
    unfold progT at e
    rw [List.map_cons, List.flatten_cons] at e
    exact tpT_ne t (List.append_eq_nil_iff.mp e).1
theorem tw_mem {p : Nat → Bool} : ∀ {l : List Nat} {c : Nat}, c ∈ l.takeWhile p → p c = true
  | [], c, h => by simp at h
  | a :: l, c, h => by
    by_cases ha : p a = true
    · rw [List.takeWhile_cons, if_pos ha] at h
      rcases List.mem_cons.mp h with e | e
      · exact e ▸ ha
      · exact tw_mem e
    · rw [List.takeWhile_cons, if_neg ha] at h
      simp at h
theorem dw_head {p : Nat → Bool} : ∀ {l : List Nat} {c : Nat} {r : List Nat}, l.dropWhile p = c :: r → p c = false
  | [], c, r, h => by simp at h
  | a :: l, c, r, h => by
    by_cases ha : p a = true
    · rw [List.dropWhile_cons, if_pos ha] at h
      exact dw_head h
    · rw [List.dropWhile_cons, if_neg ha] at h
      injection h with h1 h2
      subst h1
      simpa using ha
theorem strip_empty (x : Str) : Txt.stripChars x " \n" = Str.ofString "" ↔ ∀ c ∈ tl x, wht c = true := by
  have e : Txt.stripChars x " \n" = PySem.W.stripped ((" \n" : Str)).cps.contains true true x := PySem.W.stripBy_eq _ _ _ _
  have hg : ((" \n" : Str).cps.contains : Nat → Bool) = wht := funext fun c => (contains_tl _ c).trans (in_white c)
  have h0 : tl (Str.ofString "") = [] := by decide +kernel
  rw [e, hg]
  unfold PySem.W.stripped
  simp only [if_true]
  have lx : x.length = (tl x).length := len_tl x
  have hd : (tl x).drop ((tl x).takeWhile wht).length = (tl x).dropWhile wht := tw_drop _
  have hlen := tw_len (p := wht) (tl x)
  have hts : tl (PySem.Builtin.Str.strSub x ((tl x).takeWhile wht).length (x.length - ((((tl x).drop ((tl x).takeWhile wht).length).reverse.takeWhile wht).length))) = ((tl x).dropWhile wht).take (x.length - ((((tl x).dropWhile wht).reverse.takeWhile wht).length) - ((tl x).takeWhile wht).length) := by
    rw [tl_strSub, hd]
  constructor
  · intro h
    have h1 := hts.symm.trans ((congrArg tl h).trans h0)
    cases hR : (tl x).dropWhile wht with
    | nil =>
      have h2 := List.takeWhile_append_dropWhile (p := wht) (l := tl x)
      rw [hR, List.append_nil] at h2
      intro c hc
      rw [← h2] at hc
      exact tw_mem hc
    | cons c r =>
      exfalso
      have hc : wht c = false := dw_head hR
      rw [hR] at h1 hlen
      have hk : ((c :: r).reverse.takeWhile wht).length < (c :: r).length := by
        have hle := tw_le (p := wht) (c :: r).reverse
        rw [List.length_reverse] at hle
        refine Nat.lt_of_le_of_ne hle fun e => ?_
        have hall : (c :: r).reverse.takeWhile wht = (c :: r).reverse := (List.takeWhile_prefix wht).eq_of_length (by rw [List.length_reverse]; exact e)
        have : c ∈ (c :: r).reverse.takeWhile wht := by rw [hall]; simp
        have := tw_mem this
        rw [hc] at this
        cases this
      have h3 := congrArg List.length h1
      rw [List.length_take] at h3
      simp only [List.length_nil] at h3
      omega
  · intro h
    have hall : (tl x).dropWhile wht = [] := by
      revert h
      generalize tl x = l
      intro h
      induction l with
      | nil => rfl
      | cons c r ih => rw [List.dropWhile_cons, if_pos (h c (by simp))]; exact ih fun d hd => h d (List.mem_cons_of_mem _ hd)
    refine ext_tl (hts.trans ?_)
    rw [hall, h0]
    simp
theorem toksL_sub : ∀ (l : List Nat) (ts : List (List Nat)), toksL l = .ok ts → (∀ t ∈ ts, t.length ≤ l.length ∧ ∀ c ∈ t, c ∈ l) ∧ ts.length ≤ l.length
  | [], ts, h => by
    rw [toksL] at h
    injection h with h
    subst h
    exact ⟨fun t ht => by simp at ht, Nat.le_refl _⟩
  | c :: r, ts, h => by
    have step : ∀ (p : Nat → Bool) (w : List Nat), w = c :: r.takeWhile p → (∀ us, toksL (r.dropWhile p) = .ok us → (∀ t ∈ us, t.length ≤ (r.dropWhile p).length ∧ ∀ d ∈ t, d ∈ r.dropWhile p) ∧ us.length ≤ (r.dropWhile p).length) → toksL (c :: r) = (toksL (r.dropWhile p)).add w →
        (∀ t ∈ ts, t.length ≤ (c :: r).length ∧ ∀ d ∈ t, d ∈ c :: r) ∧ ts.length ≤ (c :: r).length := by
      intro p w hw ih e
      rw [h] at e
      have hl := tw_len (p := p) r
      cases hu : toksL (r.dropWhile p) with
      | bad => rw [hu] at e; cases e
      | run => rw [hu] at e; cases e
      | ok us =>
        rw [hu] at e
        injection e with e
        subst e
        obtain ⟨i1, i2⟩ := ih us hu
        subst hw
        refine ⟨fun t ht => ?_, by simp only [List.length_cons]; omega⟩
        rcases List.mem_cons.mp ht with e | e
        · subst e
          refine ⟨by simp only [List.length_cons]; omega, fun d hd => ?_⟩
          rcases List.mem_cons.mp hd with e | e
          · exact e ▸ List.mem_cons_self
          · exact List.mem_cons_of_mem _ ((List.takeWhile_prefix p).subset e)
        · refine ⟨by have := (i1 t e).1; simp only [List.length_cons]; omega, fun d hd => List.mem_cons_of_mem _ ((List.dropWhile_suffix p).subset ((i1 t e).2 d hd))⟩
    have step0 : ∀ us, toksL r = .ok us → (us = ts ∨ ts = [c] :: us) → (∀ t ∈ ts, t.length ≤ (c :: r).length ∧ ∀ d ∈ t, d ∈ c :: r) ∧ ts.length ≤ (c :: r).length := by
      intro us hu e
      obtain ⟨i1, i2⟩ := toksL_sub r us hu
      have h1 : ∀ t ∈ us, t.length ≤ (c :: r).length ∧ ∀ d ∈ t, d ∈ c :: r := fun t ht => ⟨by have := (i1 t ht).1; simp only [List.length_cons]; omega, fun d hd => List.mem_cons_of_mem _ ((i1 t ht).2 d hd)⟩
      rcases e with e | e
      · subst e
        exact ⟨h1, by simp only [List.length_cons]; omega⟩
      · subst e
        refine ⟨fun t ht => ?_, by simp only [List.length_cons]; omega⟩
        rcases List.mem_cons.mp ht with e | e
        · subst e
          exact ⟨by simp, fun d hd => by rw [List.mem_singleton.mp hd]; exact List.mem_cons_self⟩
        · exact h1 t e
    by_cases hl : ltr c = true
    · exact step al _ rfl (fun us hu => toksL_sub _ us hu) (K2.toksL_ltr hl)
    · have hl : ltr c = false := by simpa using hl
      by_cases hd : dig c = true
      · cases hn : (ltrHead (r.dropWhile dig) || (decide (1 < (c :: r.takeWhile dig).length) && c == 48)) with
        | true => rw [K2.toksL_run hl hd hn] at h; cases h
        | false => exact step dig _ rfl (fun us hu => toksL_sub _ us hu) (K2.toksL_dig hl hd hn)
      · have hd : dig c = false := by simpa using hd
        by_cases hw : wht c = true
        · rw [K2.toksL_wht hw] at h
          exact step0 ts h (.inl rfl)
        · by_cases hs : sgn c = true
          · rw [K2.toksL_sgn hl hd hs] at h
            cases hu : toksL r with
            | bad => rw [hu] at h; cases h
            | run => rw [hu] at h; cases h
            | ok us =>
              rw [hu] at h
              injection h with h
              exact step0 us hu (.inr h.symm)
          · rw [K2.toksL_bad hl hd (by simp at hw hs; rw [hw, hs]; rfl)] at h
            cases h
termination_by l => l.length
decreasing_by
  all_goals simp only [List.length_cons]
  all_goals first | omega | (have := (List.dropWhile_suffix (p := al) (l := r)).length_le; omega) | (have := (List.dropWhile_suffix (p := dig) (l := r)).length_le; omega)
theorem strD_shaped {ts : List (List Nat)} (h : ∀ t ∈ ts, ∀ c ∈ t, c < 128) : SeqAt.shaped (K2.strD ts) = true := by
  have h1 : PyData.canLayAll0 ((K2.ofs ts).map PyData.str) = true := by
    unfold K2.ofs
    rw [List.map_map]
    induction ts with
    | nil => rfl
    | cons t r ih =>
      have hx : PyData.strOk ⟨t.toArray⟩ = true := strOk_of fun c hc => by
        have := h t (by simp) c hc
        omega
      simp only [List.map_cons, PyData.canLayAll0, Function.comp, PyData.canLay0, hx, Bool.true_and]
      exact ih fun u hu => h u (List.mem_cons_of_mem _ hu)
  have h2 : PyData.depthAll ((K2.ofs ts).map PyData.str) ≤ 0 := by
    clear h1
    unfold K2.ofs
    rw [List.map_map]
    induction ts with
    | nil => simp [PyData.depthAll]
    | cons t r ih =>
      have ih := ih fun u hu => h u (List.mem_cons_of_mem _ hu)
      simp only [List.map_cons, PyData.depthAll, Function.comp, PyData.depth]
      omega
  unfold SeqAt.shaped K2.strD
  simp only [PyData.canLay0, h1, Bool.true_and, PyData.depth]
  exact decide_eq_true (by omega)
theorem sw_strD {ts : List (List Nat)} {n m : Nat} (h : ∀ t ∈ ts, t.length ≤ n ∧ ∀ c ∈ t, c < 128) (hm : ts.length ≤ m) : Sw ((n + 1) * m) 1 (K2.strD ts) := by
  unfold K2.strD
  refine (sw_tup (sws_all (n := n) (dp := 0) (ds := (K2.ofs ts).map PyData.str) fun d hd => ?_)).mono ?_ (Nat.le_refl _)
  · obtain ⟨y, hy, rfl⟩ := List.mem_map.mp hd
    unfold K2.ofs at hy
    obtain ⟨t, ht, rfl⟩ := List.mem_map.mp hy
    exact (sw_str fun c hc => by have := (h t ht).2 c hc; omega).mono (h t ht).1 (Nat.le_refl _)
  · unfold K2.ofs
    rw [List.length_map, List.length_map]
    exact Nat.mul_le_mul_left _ hm
end PG

set_option maxHeartbeats 4000000
namespace K2
open PySem L2 Evl DL PG TL CwR
section
variable {P : Program} {w : World} {K : PySem.W.Frag} {mg : Str → Option Value} {base : Heap} {C : Addr}
/-! ### equal by repr -/
def spIs (K : PySem.W.Frag) : Sp := fun vs H Q _ => ∃ v u d, vs = [v, u] ∧ Dp K H v d ∧ Dp K H u d ∧ Shows d ∧ Q (.bl true) H
theorem bd_is : BindP "_law_is" s_law_is ["had", "due"] := fun _ _ _ _ _ _ us hl => match us, hl with | [_, _], _ => rfl
theorem ok_is (T : Txt K mg) : DefOk P w K mg base CX0 true 1 "_law_is" s_law_is ["had", "due"] (spIs K) := by
  refine T.d_law_is.okG scs_law_is (fun vs H Q E h => ?_) (fun f cdv A outer s0 H vs Q E hg hr h => ?_)
  · obtain ⟨v, u, d, rfl, _⟩ := h
    rfl
  · obtain ⟨v, u, d, rfl, hv, hu, hs, q⟩ := h
    refine ⟨_, pss_one (ps_ret (pe_cmpR op_eq (pe_callB (call_reprD hg hr) (by rfl) T.b_repr (by decide +kernel) (pa_cons (pv 0) pa_nil)) (pe_callB (call_reprD hg hr) (by rfl) T.b_repr (by decide +kernel) (pa_cons (pv 1) pa_nil)) (nomark _))), ?_⟩
    refine ⟨_, rfl, v, d, rfl, hv, hs, _, rfl, u, d, rfl, hu, hs, rfl, ?_⟩
    show Q (.bl (decide (V.str d.shown = V.str d.shown))) H
    rw [decide_eq_true rfl]
    exact q
end
theorem pit_of {X : Cx} {tg e : Expr} {wi : TI} (h : PI X tg e wi) : PIT X tg e wi := fun pins s σ H R _ I q => h.run pins s σ H R I q
theorem passF {P : Program} {w : World} {X : Cx} : Passes (L2.CX P w) X (fun _ _ _ => False) := fun _ _ _ _ _ _ _ c => by
  obtain ⟨_, _, _, _, _, _, _, _, _, _, _, _, z⟩ := c
  exact z.elim
section
variable {P : Program} {w : World} {K : PySem.W.Frag} {mg : Str → Option Value} {base : Heap} {C : Addr}
theorem arg_evd {σ : L2.St} {H : Hp} {te : TE} {d : PyData} {Q : List V → Hp → Prop} (h : EvD K te σ H d) (q : ∀ v H2, Ex H H2 → Dp K H2 v d → Q [v] H2) : tCons te tNil σ H Q := h H (Ex.refl H) _ q
theorem hid_upd {D : Addr} {H : Hp} {o : HO} : hid [D] (upd H D o) = hid [D] H := by
  funext b
  unfold hid
  by_cases h : b ∈ ([D] : List Addr)
  · rw [if_pos h, if_pos h]
  · rw [if_neg h, if_neg h, upd_ne (by simpa using h)]
theorem ex_hid {D : Addr} {B H : Hp} (e : Ex B H) (h : B D = none) : Ex B (hid [D] H) := fun b o z => hid_of (e b o z) (by simpa using ne_of_none z h)
def spRgt : Sp := fun vs H Q _ => ∃ p, vs = [.ref p] ∧ Pail H p ∧ ∀ H', Kp [p] H H' → Q (.bl true) H'
theorem bd_rgt : BindP "_law_right" s_law_right ["pail"] := fun _ _ _ _ _ _ us hl => match us, hl with | [_], _ => rfl
theorem ok_rgt (T : Txt K mg) (R : ErrAt P w K mg base "InvalidText" "given" C) : DefOk P w K mg base CX0 true 26 "_law_right" s_law_right ["pail"] spRgt := by
  refine T.d_law_right.okGT scs_law_right (by decide +kernel) (by decide) (fun vs H Q E h => ?_) (fun f cdv A outer s0 H vs Q E hg hr h => ?_)
  · obtain ⟨p, rfl, _⟩ := h
    rfl
  · obtain ⟨p, rfl, hp, kk⟩ := h
    have nd := scs_law_right.nd
    have hr1 : Room 1 _ := hr.mono (by decide)
    have hr2 : Room 2 _ := hr.mono (by decide)
    have hr4 : Room 4 _ := hr.mono (by decide)
    have hr5 : Room 5 _ := hr.mono (by decide)
    have hr13 : Room 13 _ := hr.mono (by decide)
    refine ⟨_, psst_cut (PST.of (ps_set (i := 1) nd rfl (.inl rfl) (pe_callD (ok_text T) hr (.inl rfl) bd_text pass0 (pa_cons (pe_callD (ok_prog T) hr13 (.inl rfl) bd_prog pass0 (pa_cons (pv 0) pa_nil)) pa_nil))))
      (psst_cut (pst_forT PassesOwn.never rfl (pit_of (pi_range1 (by rfl) T.b_range (pa_cons pe_int pa_nil))) (pg_name (i := 2) nd rfl (.inl rfl))
        (psst_cut (PST.of (ps_par (i := 3) (j := 4) (by rfl) nd rfl rfl (by decide) rfl rfl (pa_cons (pe_callD (ok_deal T) hr1 (.inl rfl) bd_deal pass0 (pa_cons (pv 0) (pa_cons (pe_callB call_len_str (by rfl) T.b_len PySem.boot_len (pa_cons (pv 1) pa_nil)) pa_nil)))
            (pa_cons (pe_op op_add pe_int (pe_callD (ok_deal T) hr1 (.inl rfl) bd_deal pass0 (pa_cons (pv 0) (pa_cons pe_int pa_nil)))) pa_nil)) (by rfl)))
        (psst_cons (PST.of (ps_set (i := 5) nd rfl (.inl rfl) (pe_slice sl_str (pv 1) (po_some (pv 3)) (po_some (pe_op op_add (pv 3) (pv 4))))))
        (psst_cut (PST.of (ps_set (i := 6) nd rfl (.inl rfl) (pe_callD (ok_any T) hr2 (.inl rfl) bd_any pass0 (pa_cons (pv 0) (pa_cons (pe_lst (pa_cons pe_str (pa_cons pe_str (pa_cons pe_str (pa_cons pe_str (pa_cons pe_str (pa_cons pe_str (pa_cons pe_str (pa_cons pe_str (pa_cons pe_str (pa_cons pe_str (pa_cons pe_str (pa_cons pe_str (pa_cons pe_str (pa_cons pe_str pa_nil))))))))))))))) pa_nil)))))
        (psst_cut (PST.of (ps_set (i := 7) nd rfl (.inl rfl) (pe_callD (ok_deal T) hr1 (.inl rfl) bd_deal pass0 (pa_cons (pv 0) (pa_cons (pe_op op_add (pe_callB call_len_str (by rfl) T.b_len PySem.boot_len (pa_cons (pv 5) pa_nil)) pe_int) pa_nil)))))
        (psst_one (pst_for PassesOwn.never rfl (pit_tup (pet_tup (pat_cons (PET.of (pv 5)) (pat_cons (PET.of (pe_op op_add_str (pe_op op_add_str (pe_slice sl_str (pv 5) po_none (po_some (pv 7))) (pv 6)) (pe_slice sl_str (pv 5) (po_some (pv 7)) po_none))) (pat_cons (pet_replC (pv 5)) (pat_cons (PET.of (pv 6)) pat_nil)))))) (pg_name (i := 8) nd rfl (.inl rfl))
          (pss_cut (ps_set (i := 9) nd rfl (.inl rfl) (pe_callD (ok_ltk T) hr1 (.inl rfl) bd_ltk pass0 (pa_cons (pv 8) pa_nil)))
          (pss_cut (ps_if (PW.pt (pw_and (pt_cmpR (op_eqD hr.units) (pv 9) (pe_tup pa_nil) (nomark _)) (pw_and1 (pt_cmpR op_ne (pe_bm PySem.F.plainAttrs_str PySem.F.slot_str_strip PySem.F.type_str_strip mt_stripChars (pv 8) (pa_cons pe_str pa_nil)) pe_str (nomark _))))) (pss_one ps_continue) pss_nil)
          (pss_cut (ps_set (i := 10) nd rfl (.inl rfl) (pe_ifExp (pt_cmpR op_isN (pv 9) pe_non (nomark _)) (pe_lst (pa_cons pe_str (pa_cons (pv 8) pa_nil))) (pe_lst (pa_cons pe_str (pa_cons (pv 9) pa_nil)))))
          (pss_one (ps_if (pt_not (pt_val (pe_callD (ok_is T) hr1 (.inr hg) bd_is pass0 (pa_cons (pe_lst (pa_cons (pe_callD (ok_told T R) hr5 (.inl rfl) bd_told pass0 (pa_cons (pv 8) pa_nil)) (pa_cons (pe_callDK (ok_told T R) hr5 (.inl rfl) bk_told (fun r => r) pass0 (pk_cons (pv 8) pk_nil)) pa_nil)))
              (pa_cons (pe_lst (pa_cons (pv 10) (pa_cons (pv 10) pa_nil))) pa_nil))))) (pss_one (ps_ret pe_bl)) pss_nil))))))))))))
      (psst_cut (PST.of (ps_set (i := 9) nd rfl (.inl rfl) (pe_callD (ok_ltk T) hr1 (.inl rfl) bd_ltk pass0 (pa_cons (pv 1) pa_nil))))
      (psst_cut (pst_set (i := 11) nd rfl (.inl rfl) (pet_lst (pat_cons (PET.of (pe_callD (ok_tks T R) hr4 (.inl rfl) bd_tks passF (pa_cons (pv 1) pa_nil))) (pat_cons (pet_callDK (ok_tks T R) hr4 (.inl rfl) bk_tks (fun r => r) passF (pet_replC (pv 1)))
          (pat_cons (PET.of (pe_bm PySem.F.plainAttrs_str PySem.F.slot_str_join PySem.F.type_str_join mt_join pe_str (pa_cons (pe_callD (ok_tks T R) hr4 (.inl rfl) bd_tks passF (pa_cons (pv 1) pa_nil)) pa_nil))) pat_nil)))))
      (psst_cut (PST.of (ps_if (pt_not (pt_val (pe_callD (ok_is T) hr1 (.inr hg) bd_is pass0 (pa_cons (pv 11) (pa_cons (pe_lst (pa_cons (pv 9) (pa_cons (pv 9) (pa_cons (pv 1) pa_nil)))) pa_nil))))) (pss_one (ps_ret pe_bl)) pss_nil))
      (psst_one (PST.of (ps_ret (pe_callD (ok_is T) hr1 (.inr hg) bd_is pass0 (pa_cons
          (pe_lc (own := [("value", 8)]) (g := gName 8) (tt := tYes) rfl nd (pi_tup (pe_tup (pa_cons pe_non (pa_cons pe_int (pa_cons (pe_tup (pa_cons pe_str pa_nil)) pa_nil)))))
            (blkOk_by (N := ["pail", "text", "lap", "at", "size", "part", "sign", "spot", "value", "own", "due", "had"]) (sc := defScope s_law_right) (by decide +kernel)) (fun _ _ _ _ _ => pg_name (i := 8) nd rfl (Or.inl rfl)) (fun _ _ _ _ _ => pts_nil)
            (fun _ _ _ _ _ => pe_callD (ok_told T R) hr5 (.inl rfl) bd_told pass0 (pa_cons (pv 8) pa_nil)))
          (pa_cons (pe_lst (pa_cons (pe_lst (pa_cons pe_str (pa_cons pe_non pa_nil))) (pa_cons (pe_lst (pa_cons pe_str (pa_cons pe_int pa_nil))) (pa_cons (pe_lst (pa_cons pe_str (pa_cons (pe_tup (pa_cons pe_str pa_nil)) pa_nil))) pa_nil)))) pa_nil)))))))))), ?_⟩
    -- the text
    refine ⟨fun σ' H' => ∃ x : Str, σ' = [some (.ref p), some (.str x), none, none, none, none, none, none, none, none, none, none] ∧ Kp [p] H H' ∧ Pail H' p ∧ (∃ ts : List Str, x = sp ts ∧ (∀ y ∈ ts, gt y) ∧ ts.length ≤ 1470) ∧ x.length ≤ 19110 ∧ 0 < x.length, ?_, ?_⟩
    · refine ⟨_, rfl, p, rfl, hp, fun tops v H1 hok k1 P1 d1 => ⟨tops, v, rfl, hok, dp_tp d1, fun H2 e2 => ?_⟩⟩
      obtain ⟨g1, g2, g3, g4⟩ := prog_text hok
      obtain ⟨q1, q2, q3, P1⟩ := P1
      exact ⟨_, rfl, k1.trans (Kp.of e2), ⟨q1, q2, q3, e2 p _ P1⟩, ⟨_, rfl, g1, g4⟩, g2, g3⟩
    rintro σ H1 ⟨x, rfl, k1, P1, ⟨ts, hx, hgt, htl⟩, hlen, hpos⟩
    obtain ⟨tk1, tk2, tk3, hlow⟩ := text_ok hgt
    rw [← hx] at tk1 tk2 tk3 hlow
    have hz : x.length ≤ sizeLine := Nat.le_trans hlen (by decide)
    have no_p : ∀ {G : Hp} {l : Addr}, Pail G p → G l = none → l ≠ p := fun {G l} ⟨_, _, _, h1⟩ h2 => (ne_of_none h1 h2).symm
    -- the laps
    refine ⟨fun σ' H' => ∃ y2 y3 y4 y5 y6 y7 y8 y9 y10 y11 : Option V, σ' = [some (.ref p), some (.str x), y2, y3, y4, y5, y6, y7, y8, y9, y10, y11] ∧ Kp [p] H H' ∧ Pail H' p, ?_, ?_⟩
    · refine ⟨8, rfl, by decide, by decide, ?_⟩
      refine for_range (lo := 0) (n := (8 : Int).toNat) (fun i σ' H' => ∃ y2 y3 y4 y5 y6 y7 y8 y9 y10 y11 : Option V, σ' = [some (.ref p), some (.str x), y2, y3, y4, y5, y6, y7, y8, y9, y10, y11] ∧ Kp [p] H H' ∧ Pail H' p)
        ⟨_, _, _, _, _, _, _, _, _, _, rfl, k1, P1⟩ ?_ (fun σ' H' z => z)
      rintro i σ' H2 hi ⟨y2, y3, y4, y5, y6, y7, y8, y9, y10, y11, rfl, k2, P2⟩
      -- at, size
      refine ⟨fun σ' H' => ∃ (lap : Option V) (a z : Nat), σ' = [some (.ref p), some (.str x), lap, some (.int (a : Int)), some (.int (z : Int)), y5, y6, y7, y8, y9, y10, y11] ∧ z ≤ 60 ∧ Kp [p] H H' ∧ Pail H' p, ?_, ?_⟩
      · refine ⟨_, rfl, _, rfl, x, rfl, hz, p, _, rfl, P2, by omega, by omega, fun a H3 a0 a1 k3 P3 => ⟨_, rfl, p, 60, rfl, P3, by decide, by decide, fun z H4 z0 z1 k4 P4 => ⟨_, _, rfl, rfl, _, _, rfl, some (.int (0 + (i : Int))), a.toNat, (1 + z).toNat, ?_, by omega, (k2.trans k3).trans k4, P4⟩⟩⟩
        rw [Int.toNat_of_nonneg a0, Int.toNat_of_nonneg (show 0 ≤ 1 + z by omega)]
        rfl
      rintro σ H3 ⟨lap, a, z, rfl, z60, k3, P3⟩
      -- part
      refine ⟨_, rfl, _, rfl, _, rfl, _, rfl, _, rfl, _, _, rfl, rfl, _, rfl, x, rfl, hz, ?_⟩
      have lp : (cutS x (some (a : Int)) (some ((a : Int) + (z : Int)))).length ≤ 60 := Nat.le_trans (len_cut a z) z60
      have wp : low (cutS x (some (a : Int)) (some ((a : Int) + (z : Int)))) := low_cut hlow _ _
      generalize cutS x (some (a : Int)) (some ((a : Int) + (z : Int))) = part at lp wp
      have hzp : part.length ≤ sizeLine := Nat.le_trans lp (by decide)
      -- sign
      refine ⟨fun σ' H' => ∃ sign : Str, σ' = [some (.ref p), some (.str x), lap, some (.int (a : Int)), some (.int (z : Int)), some (.str part), some (.str sign), y7, y8, y9, y10, y11] ∧ sign.length ≤ 1 ∧ low sign ∧ Kp [p] H H' ∧ Pail H' p, ?_, ?_⟩
      · refine ⟨_, rfl, sz1 (by simp), fun l hl => ⟨p, l, _, rfl, ?_, no_p P3 hl, .inl (sq_of upd_same), by simp, by simp, fun i v H4 hi k4 P4 => ?_⟩⟩
        · obtain ⟨q1, q2, q3, P3⟩ := P3
          exact ⟨q1, q2, q3, Ex.new hl p _ P3⟩
        obtain ⟨sg, hs, rfl⟩ := any_str (ws := ["=", "<", " ", "\n", "&", "A", ".", "!", "-", "#", ";", "", "[", "_"]) hi
        have hall : ∀ s ∈ (["=", "<", " ", "\n", "&", "A", ".", "!", "-", "#", ";", "", "[", "_"] : List Str), (decide (s.length ≤ 1) && (tl s).all fun c => decide (c < 128)) = true := by decide +kernel
        have h1 := hall sg hs
        simp only [Bool.and_eq_true, decide_eq_true_eq, List.all_eq_true] at h1
        exact ⟨sg, rfl, h1.1, h1.2, (k3.trans (Kp.new hl)).trans k4, P4⟩
      rintro σ H4 ⟨sign, rfl, ls, ws, k4, P4⟩
      -- spot
      refine ⟨fun σ' H' => ∃ spot : Nat, σ' = [some (.ref p), some (.str x), lap, some (.int (a : Int)), some (.int (z : Int)), some (.str part), some (.str sign), some (.int (spot : Int)), y8, y9, y10, y11] ∧ Kp [p] H H' ∧ Pail H' p, ?_, ?_⟩
      · refine ⟨_, rfl, _, rfl, part, rfl, hzp, _, _, rfl, rfl, p, _, rfl, P4, by omega, by omega, fun spot H5 s0 s1 k5 P5 => ⟨spot.toNat, ?_, k4.trans k5, P5⟩⟩
        rw [Int.toNat_of_nonneg s0]
        rfl
      rintro σ H5 ⟨spot, rfl, k5, P5⟩
      -- the four
      have l1 := len_cut_le part none (some (spot : Int))
      have l2 := len_cut_le part (some (spot : Int)) none
      have lr := TK.replace_len part " " " \n "
      have e3 : (" \n " : Str).length = 3 := by decide +kernel
      rw [e3] at lr
      refine ⟨_, rfl, _, rfl, _, rfl, _, rfl, part, rfl, hzp, _, rfl, _, _, rfl, rfl, sza (Nat.le_trans l1 lp) ls (by decide), _, rfl, _, rfl, _, rfl, part, rfl, hzp, _, _, rfl, rfl, sza (la (Nat.le_trans l1 lp) ls) (Nat.le_trans l2 lp) (by decide), _, rfl, part, rfl, by rw [e3]; omega, _, rfl, sz1 (by simp), fun t ht => ⟨t, rfl, ⟨_, st_of upd_same⟩, ?_⟩⟩
      have hall : ∀ s ∈ [part, (cutS part none (some (spot : Int)) ++ sign) ++ cutS part (some (spot : Int)) none, Txt.replace part " " " \n ", sign], s.length ≤ 250 ∧ low s := by
        intro s hs
        have wn : low (" \n " : Str) := by
          have h : ((tl (" \n " : Str)).all fun c => decide (c < 128)) = true := by decide +kernel
          simp only [List.all_eq_true, decide_eq_true_eq] at h
          exact h
        simp only [List.mem_cons, List.not_mem_nil, or_false] at hs
        rcases hs with h | h | h | h
        · exact h ▸ ⟨by omega, wp⟩
        · exact h ▸ ⟨Nat.le_trans (la (la (Nat.le_trans l1 lp) ls) (Nat.le_trans l2 lp)) (by decide), low_app (low_app (low_cut wp _ _) ws) (low_cut wp _ _)⟩
        · exact h ▸ ⟨by omega, low_repl wp wn⟩
        · exact h ▸ ⟨by omega, ws⟩
      have hmem : ∀ (i : Nat) (v : V), ([V.str part, V.str ((cutS part none (some (spot : Int)) ++ sign) ++ cutS part (some (spot : Int)) none), V.str (Txt.replace part " " " \n "), V.str sign] : List V)[i]? = some v → ∃ s : Str, v = .str s ∧ s.length ≤ 250 ∧ low s := by
        intro i v hv
        obtain ⟨s, hs, e⟩ := any_str (ws := [part, (cutS part none (some (spot : Int)) ++ sign) ++ cutS part (some (spot : Int)) none, Txt.replace part " " " \n ", sign]) hv
        exact ⟨s, e, hall s hs⟩
      generalize hxs : ([V.str part, V.str ((cutS part none (some (spot : Int)) ++ sign) ++ cutS part (some (spot : Int)) none), V.str (Txt.replace part " " " \n "), V.str sign] : List V) = xs at hmem
      have eT : Ex H5 (upd H5 t (.tup xs)) := Ex.new ht
      refine for_tup (K := K) (a := t) (xs := xs) (fun i σ' H' => ∃ y8 y9 y10 : Option V, σ' = [some (.ref p), some (.str x), lap, some (.int (a : Int)), some (.int (z : Int)), some (.str part), some (.str sign), some (.int (spot : Int)), y8, y9, y10, y11] ∧ Ex (upd H5 t (.tup xs)) H')
        ⟨y8, y9, y10, rfl, Ex.refl _⟩ (fun i σ' H' _ q => by obtain ⟨_, _, _, _, e⟩ := q; exact ex_t e (st_of upd_same)) ?_ ?_
      · rintro i v σ' H6 hi ⟨y8, y9, y10, rfl, e6⟩
        obtain ⟨s, rfl, ls1, ws1⟩ := hmem i v hi
        have hag := toks_agree (tl s)
        have hsub := toksL_sub (tl s)
        have lts : s.length = (tl s).length := len_tl s
        have sws : Sw 250 0 (.str s) := (sw_str fun c hc => by have := ws1 c hc; omega).mono ls1 (Nat.le_refl _)
        -- own
        refine ⟨fun σ' H' => ∃ u, σ' = [some (.ref p), some (.str x), lap, some (.int (a : Int)), some (.int (z : Int)), some (.str part), some (.str sign), some (.int (spot : Int)), some (.str s), some u, y10, y11] ∧ Ex H6 H' ∧ Dp K H' u (ltkD (toksL (tl s))), ⟨_, rfl, s, rfl, by omega, fun u H' e hd => ⟨u, rfl, e, hd⟩⟩, ?_⟩
        rintro σ H7 ⟨u, rfl, e7, hu⟩
        -- none that run into one another
        refine ⟨fun σ' H' => σ' = [some (.ref p), some (.str x), lap, some (.int (a : Int)), some (.int (z : Int)), some (.str part), some (.str sign), some (.int (spot : Int)), some (.str s), some u, y10, y11] ∧ Ex H7 H' ∧ toksL (tl s) ≠ .run, ?_, ?_⟩
        · have hsh : SeqAt.shaped (ltkD (toksL (tl s))) = true := by
            cases hT : toksL (tl s) with
            | bad => decide
            | run => decide
            | ok ts => exact strD_shaped fun t ht c hc => ws1 c (((hsub ts hT).1 t ht).2 c hc)
          refine ⟨_, rfl, by decide, fun t2 ht2 => ⟨_, .tuple [], dp_ex (Ex.new ht2) hu, .tup (st_of upd_same) .nil, hsh, by decide, _, rfl, ?_⟩⟩
          cases hT : toksL (tl s) with
          | bad => exact itF rfl (itF rfl ⟨rfl, Ex.new ht2, fun h => nomatch h⟩)
          | run =>
            rw [hT] at hag
            obtain ⟨c, hc, hcw⟩ := hag
            have hne : Txt.stripChars s " \n" ≠ Str.ofString "" := fun h => by
              have := (strip_empty s).mp h c hc
              rw [hcw] at this
              cases this
            refine itT rfl ⟨_, rfl, rfl, _, _, rfl, rfl, Nat.le_trans ls1 (by decide), rfl, _, rfl, itT (by rw [str_ne hne]; rfl) ?_⟩
            exact ⟨_, _, _, rfl, (e6.trans e7).trans (Ex.new ht2)⟩
          | ok ts =>
            rw [hT] at hag
            cases ts with
            | nil =>
              have hem := (strip_empty s).mpr (hag.2 rfl)
              exact itT rfl ⟨_, rfl, rfl, _, _, rfl, rfl, Nat.le_trans ls1 (by decide), rfl, _, rfl, itF (by rw [str_eq hem]; rfl) ⟨rfl, Ex.new ht2, fun h => nomatch h⟩⟩
            | cons t0 tr => exact itF rfl (itF rfl ⟨rfl, Ex.new ht2, fun h => nomatch h⟩)
        rintro σ H8 ⟨rfl, e8, hrun⟩
        -- due
        refine ⟨fun σ' H' => ∃ dd, σ' = [some (.ref p), some (.str x), lap, some (.int (a : Int)), some (.int (z : Int)), some (.str part), some (.str sign), some (.int (spot : Int)), some (.str s), some u, some dd, y11] ∧ Ex H8 H' ∧ Dp K H' dd (toldOf (.str s)) ∧ Shows (.list [toldOf (.str s), toldOf (.str s)]), ?_, ?_⟩
        · refine ⟨_, rfl, rfl, _, rfl, ?_⟩
          cases hT : toksL (tl s) with
          | run => exact absurd hT hrun
          | bad =>
            rw [hT] at hag hu
            obtain rfl := dp_non hu
            have ht : toldOf (.str s) = .list [.str "text", .str s] := toldOf_none hag
            have sw1 : Sw (4 + 1 + (250 + 1 + 0)) 1 (toldOf (.str s)) := by
              rw [ht]
              exact sw_lst (sws_cons (n := 4) ⟨by decide, by decide, by decide +kernel, by decide +kernel⟩ (sws_cons sws sws_nil))
            refine itT rfl ⟨_, rfl, sz1 (by simp), fun l hl => ⟨_, rfl, Ex.new hl, ?_, (sw_lst (sws_cons sw1 (sws_cons sw1 sws_nil))).shows (by decide) (by decide)⟩⟩
            rw [ht]
            exact .lst (sq_of upd_same) (.cons (.str _) (.cons (.str s) .nil))
          | ok ts =>
            rw [hT] at hag hu
            have ht : toldOf (.str s) = .list [.str "told", strD ts] := toldOf_some hag.1
            obtain ⟨hs1, hs2⟩ := hsub ts hT
            have swd : Sw ((250 + 1) * 250) 1 (strD ts) := sw_strD (fun t ht => ⟨by have := (hs1 t ht).1; omega, fun c hc => ws1 c ((hs1 t ht).2 c hc)⟩) (by omega)
            have sw1 : Sw (4 + 1 + ((250 + 1) * 250 + 1 + 0)) 2 (toldOf (.str s)) := by
              rw [ht]
              exact sw_lst (sws_cons (n := 4) ⟨by decide, by decide, by decide +kernel, by decide +kernel⟩ (sws_cons swd sws_nil))
            obtain ⟨b, ys, rfl, hb, hys⟩ := dp_tup hu
            refine itF (decide_eq_false fun h => nomatch h) ⟨_, rfl, sz1 (by simp), fun l hl => ⟨_, rfl, Ex.new hl, ?_, (sw_lst (sws_cons sw1 (sws_cons sw1 sws_nil))).shows (by decide) (by decide)⟩⟩
            rw [ht]
            exact .lst (sq_of upd_same) (.cons (.str _) (.cons (dp_ex (e8.trans (Ex.new hl)) hu) .nil))
        rintro σ H9 ⟨dd, rfl, e9, hdd, hsw⟩
        -- the same
        have full : ∀ {l : Addr} {k : Str} {y : V} {dz : PyData} {G : Hp}, G l = some (.lst [.str k, y]) → toldOf (.str s) = .list [.str k, dz] → Dp K G y dz → Dp K G (.ref l) (toldOf (.str s)) := fun h1 h2 h3 => by
          rw [h2]
          exact .lst (sq_of h1) (.cons (.str _) (.cons h3 .nil))
        refine ⟨_, rfl, _, .str s, rfl, .str s, .inl ⟨s, rfl, by omega⟩, fun l1 k1 w1 dz1 HA eA _ hA tA dA _ => ⟨_, rfl, rfl, _, .str s, rfl, .str s, .inl ⟨s, rfl, by omega⟩, fun l2 k2 w2 dz2 HB eB _ hB tB dB _ => ⟨sz1 (by simp), fun l3 hl3 => ⟨_, rfl, _, rfl, sz1 (by simp), fun l4 hl4 => ⟨_, _, _, rfl, .lst (sq_of (Ex.new hl4 l3 _ upd_same)) ?_, .lst (sq_of upd_same) ?_, hsw, true, rfl, itF rfl ?_⟩⟩⟩⟩⟩
        · have eC := (Ex.new (o := .lst [.ref l1, .ref l2]) hl3).trans (Ex.new (o := .lst [dd, dd]) hl4)
          exact .cons (dp_ex (eB.trans eC) (full hA tA dA)) (.cons (dp_ex eC (full hB tB dB)) .nil)
        · have eC := (eA.trans eB).trans ((Ex.new (o := .lst [.ref l1, .ref l2]) hl3).trans (Ex.new (o := .lst [dd, dd]) hl4))
          exact .cons (dp_ex eC hdd) (.cons (dp_ex eC hdd) .nil)
        · exact ⟨_, _, _, rfl, ((((e6.trans e7).trans e8).trans e9).trans (eA.trans eB)).trans ((Ex.new hl3).trans (Ex.new hl4))⟩
      · rintro σ' H6 ⟨y8, y9, y10, rfl, e6⟩
        obtain ⟨q1, q2, q3, P5⟩ := P5
        exact ⟨_, _, _, _, _, _, _, _, _, _, rfl, k5.trans (Kp.of (eT.trans e6)), ⟨q1, q2, q3, e6 p _ (eT p _ P5)⟩⟩
    rintro σ H2 ⟨y2, y3, y4, y5, y6, y7, y8, y9, y10, y11, rfl, k2, P2⟩
    -- own
    refine ⟨fun σ' H' => ∃ u, σ' = [some (.ref p), some (.str x), y2, y3, y4, y5, y6, y7, y8, some u, y10, y11] ∧ Ex H2 H' ∧ Dp K H' u (strD (ts.map tl)), ?_, ?_⟩
    · refine ⟨_, rfl, x, rfl, by omega, fun u H' e hd => ⟨u, rfl, e, ?_⟩⟩
      rw [tk1] at hd
      exact hd
    rintro σ H3 ⟨u, rfl, e3, hu⟩
    -- had
    refine ⟨fun σ' H' => ∃ a, σ' = [some (.ref p), some (.str x), y2, y3, y4, y5, y6, y7, y8, some u, y10, some a] ∧ Ex H3 H' ∧ Dp K H' a (.list [strD (ts.map tl), strD (ts.map tl), .str x]), ?_, ?_⟩
    · have rl := TK.replace_len x " " "\n"
      have e1 : ("\n" : Str).length = 1 := by decide +kernel
      rw [e1] at rl
      have same : ∀ {l : List Nat} {us : List (List Nat)}, toksP l = some (ts.map tl) → toksP l = some us → us = ts.map tl := fun h1 h2 => by
        rw [h1] at h2
        exact (Option.some.inj h2).symm
      refine ⟨_, rfl, .inl ⟨x, rfl, by omega, fun us v1 H4 h1 e4 d1 _ => ?_, fun h => by rw [tk2] at h; cases h⟩⟩
      obtain rfl := same tk2 h1
      refine ⟨_, rfl, x, rfl, by rw [e1]; omega, rfl, .inl ⟨_, rfl, by omega, fun us v2 H5 h2 e5 d2 _ => ?_, fun h => by rw [tk3] at h; cases h⟩⟩
      obtain rfl := same tk3 h2
      refine ⟨rfl, _, rfl, .inl ⟨x, rfl, by omega, fun us v3 H6 h3 e6 d3 s3 => ?_, fun h => by rw [tk2] at h; cases h⟩⟩
      obtain rfl := same tk2 h3
      obtain ⟨b, ys, rfl, hS, rfl⟩ := s3
      refine ⟨_, b, _, rfl, rfl, .inr hS, ?_, ?_⟩
      · rw [ofs_tl, show (" " : Str).length = 1 from by decide +kernel]
        have : ∀ l : List Str, (∀ y ∈ l, gt y) → (l.map (·.length)).sum ≤ 12 * l.length := by
          intro l
          induction l with
          | nil => intro _; simp
          | cons y r ih =>
            intro h
            have h1 := ih fun z hz => h z (List.mem_cons_of_mem _ hz)
            have h2 := (h y (by simp)).2
            simp only [List.map_cons, List.sum_cons, List.length_cons]
            omega
        have := this ts hgt
        omega
      rw [join_eq, ofs_tl, show Str.join " " ts = x from hx.symm]
      refine ⟨sz1 (by simp), fun l hl => ⟨_, rfl, ((e4.trans e5).trans e6).trans (Ex.new hl), .lst (sq_of upd_same) ?_⟩⟩
      exact .cons (dp_ex ((e5.trans e6).trans (Ex.new hl)) d1) (.cons (dp_ex (e6.trans (Ex.new hl)) d2) (.cons (.str x) .nil))
    rintro σ H4 ⟨a, rfl, e4, ha⟩
    have swx : Sw 19110 0 (.str x) := (sw_str fun c hc => by have := hlow c hc; omega).mono hlen (Nat.le_refl _)
    have swt : Sw (13 * 1470) 1 (strD (ts.map tl)) := by
      unfold strD
      rw [ofs_tl]
      refine (sw_tup (sws_all (n := 12) (dp := 0) (ds := ts.map PyData.str) fun d hd => ?_)).mono (by rw [List.length_map]; omega) (Nat.le_refl _)
      obtain ⟨y, hy, rfl⟩ := List.mem_map.mp hd
      exact (sw_str fun c hc => by have := (gtL_low (hgt y hy).1 c hc).1; omega).mono (hgt y hy).2 (Nat.le_refl _)
    have sw3 : Shows (.list [strD (ts.map tl), strD (ts.map tl), .str x]) := (sw_lst (sws_cons swt (sws_cons swt (sws_cons (swx.mono (Nat.le_refl _) (by omega)) sws_nil)))).shows (by decide) (by decide)
    refine ⟨fun σ' H' => σ' = [some (.ref p), some (.str x), y2, y3, y4, y5, y6, y7, y8, some u, y10, some a] ∧ Ex H4 H', ?_, ?_⟩
    · refine ⟨_, rfl, _, rfl, _, rfl, _, rfl, sz1 (by simp), fun l hl => ⟨_, _, _, rfl, dp_ex (Ex.new hl) ha, .lst (sq_of upd_same) ?_, sw3, true, rfl, itF rfl ⟨rfl, Ex.new hl⟩⟩⟩
      have hu4 := dp_ex (e4.trans (Ex.new (o := .lst [u, u, .str x]) hl)) hu
      exact .cons hu4 (.cons hu4 (.cons (.str x) .nil))
    rintro σ H5 ⟨rfl, e5⟩
    -- values that are no texts
    refine ⟨sz1 (by simp), fun ta hta => ⟨sz1 (by simp), fun tb htb => ⟨tb, rfl, ⟨_, st_of upd_same⟩, fun D hD => ?_⟩⟩⟩
    generalize hB : upd (upd H5 ta (.tup [.str "a"])) tb (.tup [.non, .int 5, .ref ta]) = B at hD
    have hBa : B ta = some (.tup [.str "a"]) := by rw [← hB, upd_ne (ne_of_none upd_same htb), upd_same]
    have hBb : B tb = some (.tup [.non, .int 5, .ref ta]) := by rw [← hB, upd_same]
    have eB : Ex H5 B := by rw [← hB]; exact (Ex.new hta).trans (Ex.new htb)
    have dB : DpAll K B [.non, .int 5, .ref ta] [.none, .int 5, .tuple [.str "a"]] := .cons .non (.cons (.int 5) (.cons (.tup (st_of hBa) (.cons (.str "a") .nil)) .nil))
    refine lc_tup (K := K) (a := tb) (xs := [.non, .int 5, .ref ta]) (fun i H' => Ex B H' ∧ ∃ vs, H' D = some (.lst vs) ∧ DpAll K (hid [D] H') vs (([.list [.str "text", .none], .list [.str "text", .int 5], .list [.str "text", .tuple [.str "a"]]] : List PyData).take i))
      ⟨exm (Ex.refl B) hD, [], upd_same, .nil⟩ (fun i H' _ z => ex_t z.1 (st_of hBb)) ?_ ?_
    · rintro i y H' hi ⟨eH, vs, hDD, dvs⟩
      obtain ⟨d, hd, hy⟩ := dpa_getV dB hi
      have hi3 : i < 3 := (List.getElem?_eq_some_iff.mp hi).1
      have lv : vs.length ≤ 3 := by
        rw [dpa_len dvs, List.length_take]
        simp
        omega
      obtain ⟨hno, htd, hnx, hnt⟩ : NoTxt K H' y ∧ toldOf d = .list [.str "text", d] ∧ ([.list [.str "text", .none], .list [.str "text", .int 5], .list [.str "text", .tuple [.str "a"]]] : List PyData)[i]? = some (.list [.str "text", d]) ∧ ∀ z : Str, y ≠ .str z := by
        rcases i with _ | _ | _ | i
        · cases hi; cases hd
          exact ⟨⟨"NoneType", .base .non, by decide +kernel⟩, rfl, rfl, fun z h => nomatch h⟩
        · cases hi; cases hd
          exact ⟨⟨"int", .base (.int 5), by decide +kernel⟩, rfl, rfl, fun z h => nomatch h⟩
        · cases hi; cases hd
          exact ⟨⟨"tuple", .base (.tup (eH ta _ hBa)), by decide +kernel⟩, rfl, rfl, fun z h => nomatch h⟩
        · omega
      refine ⟨rfl, lc_yes ⟨_, rfl, y, d, rfl, dp_ex eH hy, .inr ⟨hno, htd⟩, fun l k z dz H6 e6 hl0 hl1 et hz hor => ⟨vs, e6 D _ hDD, ?_, exm (eH.trans e6) hD, vs ++ [.ref l], upd_same, ?_⟩⟩⟩
      · exact Nat.lt_of_le_of_lt lv (by decide)
      · rcases hor with ⟨z', h⟩ | ⟨rfl, rfl⟩
        · exact absurd h (hnt z')
        obtain rfl : k = "text" := by
          rw [htd] at et
          injection et with et
          injection et with et _
          injection et with et
          exact et.symm
        have nlD : l ≠ D := fun h => by rw [h, hDD] at hl0; cases hl0
        rw [hid_upd, take_snoc hnx]
        have eK : Ex (hid [D] H') (hid [D] H6) := (Kp.of e6).ex
        exact dpa_app (dpa_ex eK dvs) (dpa_one (.lst (sq_of (hid_of hl1 (by simpa using nlD))) (.cons (.str _) (.cons (dp_ex (ex_hid (eH.trans e6) hD) hy) .nil))))
    · rintro H6 ⟨eH, vs, hDD, dvs⟩
      have sw4 : Shows (.list [.list [.str "text", .none], .list [.str "text", .int 5], .list [.str "text", .tuple [.str "a"]]]) := ⟨by decide +kernel, by decide +kernel, by decide +kernel⟩
      refine arg_evd (K := K) (d := .list [.list [.str "text", .none], .list [.str "text", .int 5], .list [.str "text", .tuple [.str "a"]]])
        (evd_lst (evds_cons (evd_lst (evds_cons (evd_ev ev_c (.str _)) (evds_cons (evd_ev ev_c .non) evds_nil)) (by simp)) (evds_cons (evd_lst (evds_cons (evd_ev ev_c (.str _)) (evds_cons (evd_ev ev_c (.int _)) evds_nil)) (by simp))
          (evds_cons (evd_lst (evds_cons (evd_ev ev_c (.str _)) (evds_cons (evd_tup (evds_cons (evd_ev ev_c (.str _)) evds_nil) (by simp)) evds_nil)) (by simp)) evds_nil))) (by simp)) fun v H7 e7 hv => ?_
      refine ⟨_, _, _, rfl, .lst (ex_l e7 (sq_of hDD)) (dpa_ex (hid_ex.trans e7) dvs), hv, sw4, ?_⟩
      exact kk H7 (k2.trans (Kp.of (((((e3.trans e4).trans e5).trans eB).trans eH).trans e7)))
end
end K2

set_option maxHeartbeats 4000000
namespace K2
open PySem L2 Evl DL PG TL
section
variable {P : Program} {w : World} {K : PySem.W.Frag} {mg : Str → Option Value} {base : Heap} {C : Addr}
def spLaw (K : PySem.W.Frag) : Sp := fun vs H Q _ => ∃ (a : Addr) (ns : List Int), vs = [.ref a] ∧ SqL K H a (ns.map V.int) ∧ ns.length ≤ 63 ∧ ∀ H', Q (.bl true) H'
theorem bd_law : BindP "law" s_law ["script"] := fun _ _ _ _ _ _ us hl => match us, hl with | [_], _ => rfl
theorem ok_law (T : Txt K mg) (R : ErrAt P w K mg base "InvalidText" "given" C) : DefOk P w K mg base CX0 true 27 "law" s_law ["script"] (spLaw K) := by
  refine T.d_law.okG scs_law (fun vs H Q E h => ?_) (fun f cdv A outer s0 H vs Q E hg hr h => ?_)
  · obtain ⟨a, ns, rfl, _⟩ := h
    rfl
  · obtain ⟨a, ns, rfl, hS, hl, kk⟩ := h
    have nd := scs_law.nd
    have hr1 : Room 1 _ := hr.mono (by decide)
    refine ⟨_, pss_one (ps_ret (pe_callB (cr_all rfl) (by rfl) T.b_all (by decide +kernel) (pa_cons
      (pe_lc (own := [("turn", 1)]) (g := gName 1) (tt := tYes) rfl nd (pi_range1 (by rfl) T.b_range (pa_cons (pe_callB (call_max2 rfl) (by rfl) T.b_max (by decide +kernel) (pa_cons pe_int (pa_cons
          (pe_callB (call_min2 rfl) (by rfl) T.b_min (by decide +kernel) (pa_cons (pe_callB call_len_seq (by rfl) T.b_len PySem.boot_len (pa_cons (pv 0) pa_nil)) (pa_cons pe_int pa_nil))) pa_nil))) pa_nil))
        (blkOk_by (N := ["script", "turn"]) (sc := defScope s_law) (by decide +kernel)) (fun _ _ _ _ _ => pg_name (i := 1) nd rfl (Or.inl rfl)) (fun _ _ _ _ _ => pts_nil)
        (fun _ _ _ _ _ => pe_callD (ok_rgt T R) hr (.inr hg) bd_rgt pass0 (pa_cons (pe_callD (ok_pail T) hr1 (.inl rfl) bd_pail pass0 (pa_cons (pv 0) (pa_cons (pv 1) pa_nil))) pa_nil))) pa_nil))), ?_⟩
    have hb : ∃ n : Nat, n ≤ 5 ∧ (if (if (5 : Int) < (((ns.map V.int).length : Nat) : Int) then (5 : Int) else (((ns.map V.int).length : Nat) : Int)) > 3 then (if (5 : Int) < (((ns.map V.int).length : Nat) : Int) then (5 : Int) else (((ns.map V.int).length : Nat) : Int)) else (3 : Int)) = (n : Int) := by
      generalize (ns.map V.int).length = m
      by_cases h5 : (5 : Int) < (m : Int)
      · exact ⟨5, by decide, by rw [if_pos h5]; rfl⟩
      · rw [if_neg h5]
        by_cases h3 : (m : Int) > 3
        · exact ⟨m, by omega, by rw [if_pos h3]⟩
        · exact ⟨3, by decide, by rw [if_neg h3]; rfl⟩
    obtain ⟨n, hn, hb⟩ := hb
    refine ⟨_, rfl, a, _, rfl, .inl hS, _, _, rfl, _, _, rfl, ?_⟩
    rw [hb]
    refine ⟨_, rfl, by omega, by omega, fun D hD => ?_⟩
    refine lc_range (lo := 0) (n := ((n : Int)).toNat) (fun i H' => Ex H H' ∧ H' D = some (.lst ((List.replicate i true).map V.bl))) ⟨exm (Ex.refl H) hD, upd_same⟩ ?_ ?_
    · rintro i H1 hi ⟨e1, hDD⟩
      have hi5 : i < 5 := by omega
      refine ⟨rfl, lc_yes ⟨_, rfl, _, rfl, a, ns, i, by show [V.ref a, V.int (0 + (i : Int))] = _; rw [Int.zero_add], ex_l e1 hS, by omega, fun p H2 hp e2 P2 => ⟨p, rfl, P2, fun H3 k3 => ⟨_, k3 D _ (fun h => by rw [List.mem_singleton.mp h, hp] at hDD; cases hDD) (e2 D _ hDD), ?_, ?_, ?_⟩⟩⟩⟩
      · rw [List.length_map, List.length_replicate]
        exact Nat.lt_of_lt_of_le hi5 (by decide)
      · refine exm (fun b o hb => ?_) hD
        refine k3 b o (fun h => ?_) (e2 b o (e1 b o hb))
        have := e1 b o hb
        rw [List.mem_singleton.mp h, hp] at this
        cases this
      · rw [upd_same, List.replicate_succ', List.map_append]
        rfl
    · rintro H1 ⟨e1, hDD⟩
      refine ⟨D, _, rfl, sq_of hDD, ?_⟩
      have : (List.replicate (n : Int).toNat true).all id = true := by rw [List.all_replicate]; cases (n : Int).toNat <;> rfl
      rw [this]
      exact kk _
end
end K2

set_option maxHeartbeats 4000000
namespace DL
open PySem L2 Evl PySem.Spec PyProof.Rows
/-! ### the end: a law that asks that no repr is under way -/
section
variable {P : Program} {w : World} {K : PySem.W.Frag} {mg mb : Str → Option Value} {CX : CXT} {k : Nat} {fa a : Addr} {fd : FuncData} {x : Str} {sp : Sp} {s1 : Shared} {vs : List Value} {ns : List Int}
theorem law_callG (KX : K.In s1.heap) (hns : s1.heap.Ns mainGlobals mg) (hb : s1.heap.Ns builtinsNs mb) (hbb : ∀ x : Str, x ≠ "__name__" → mb x = bootBuiltins x) (hlim : s1.heap.NoLimit) (hg : s1.gens = #[])
    (ha : s1.heap.get? a = some { cls := .type "list", data := .seq vs.toArray }) (hi : IntsAre vs ns) (hl : ns.length ≤ sizeLine) (hr : Room k callerA)
    (F : ∀ base : Heap, K.In base → base.Ns mainGlobals mg → FnG P w K mg base CX k fa fd [x] sp) (bind : ∀ (s : Shared) (u : Value), BindsTo s fd ⟨[u], []⟩ [(x, u)])
    (hsp : ∀ H : Hp, Only H → SqL K H a (ns.map V.int) → sp [.ref a] H (fun v _ => v = .bl true) fun _ _ _ => False) (hCX : ∀ H e s', CX [] H s1 (fun _ _ _ => False) e s' → False) :
    codeAny (model P w) callerA (.call (.ref fa) ⟨[.ref a], []⟩) (fun r s' => r = .ok (.ret (.bool true)) ∧ OldK s1.heap s'.heap ∧ s'.os = s1.os ∧ AllBare s'.gens) s1 := by
  have rel := vals_ints hi
  have size := hi.length
  -- H: the script, or nothing
  have main : ∀ H : Hp, (∀ b, H b = none ∨ b = a ∧ K.lookup a = none ∧ H b = some (.frz { cls := .type "list", data := .seq vs.toArray } (.lst (ns.map V.int)))) → SqL K H a (ns.map V.int) → HOk P w H s1.heap →
      codeAny (model P w) callerA (.call (.ref fa) ⟨[.ref a], []⟩) (fun r s' => r = .ok (.ret (.bool true)) ∧ OldK s1.heap s'.heap ∧ s'.os = s1.os ∧ AllBare s'.gens) s1 := by
    intro H hH hS ok
    have only : Only H := fun b => (hH b).imp id fun z => ⟨_, _, z.2.2⟩
    have free : ∀ {b : Addr} {o : Obj}, s1.heap.get? b = some o → (∀ its n, o.data ≠ .seq its n) → H b = none := fun {b o} e d => by
      rcases hH b with z | ⟨rfl, _, _⟩
      · exact z
      · rw [ha] at e
        cases e
        exact absurd rfl (d _ _)
    have stay : ∀ {b : Addr} {m : Str → Option Value}, s1.heap.Ns b m → (hidT s1.heap H).Ns b m := fun {b m} ⟨o, es, ep, e, d, z⟩ => ⟨o, es, ep, hidT_get e (free e fun its n q => by rw [d] at q; cases q), d, z⟩
    have KB : K.In (hidT s1.heap H) := fun b o e => hidT_get (KX b o e) ((hH b).elim id fun z => by
      obtain ⟨rfl, z, _⟩ := z
      rw [z] at e
      cases e)
    obtain ⟨mc, lim1, lim2⟩ := hlim
    have env : Env0 P w K mg (hidT s1.heap H) callerA [] s1 H := ⟨rfl, ⟨KB, stay hns, ⟨mb, stay hb, hbb⟩, ⟨mc, stay lim1, lim2⟩⟩, fun b o e => of_hidT e, Nat.le_of_eq (hidT_size _ _), trivial, fun b z => absurd (show b ∈ ([] : List Addr) from z) (by simp), ok, .of_eq hg⟩
    refine codeAny_mono ((F _ KB (stay hns)).run callerA [] s1 H ⟨[.ref a], []⟩ [.ref a] [.ref a] _ _ rfl hr env (bind s1 (.ref a)) (.cons rfl .nil) (hsp H only hS)) fun r s2 h => ?_
    match r, h with
    | .error e, h => exact (hCX H e s2 h).elim
    | .ok (.ret u), h =>
      obtain ⟨v, H2, os, bare, un, ok2, rv, rfl⟩ := h
      obtain rfl : u = Value.bool true := rv
      refine ⟨rfl, OldK.of_keep fun b o e => ?_, os, bare⟩
      rcases hH b with z | ⟨_, _, z⟩
      · exact un.keep b o e z (fun q => absurd (show b ∈ ([] : List Addr) from q) (by simp)) (by simp)
      · have e1 := (ok b _ z).1
        have e2 := (ok2 b _ (un.frzs b _ _ z)).1
        rw [e] at e1
        cases e1
        exact e2
    | .ok .next, h => exact h.elim
    | .ok .brk, h => exact h.elim
    | .ok .cont, h => exact h.elim
  cases hk : K.lookup a with
  | some o =>
    have e := ha.symm.trans (KX a o hk)
    cases e
    exact main (fun _ => none) (fun _ => .inl rfl) (.inr ⟨_, vs.toArray, _, hk, rfl, rfl, rfl, by rw [List.size_toArray, size]; exact hl, by simpa using rel⟩) fun b u z => by cases (show (none : Option HO) = some u from z)
  | none =>
    have one : ∀ b, (if b = a then some (HO.frz { cls := .type "list", data := .seq vs.toArray } (.lst (ns.map V.int))) else none) = none ∨ b = a ∧ K.lookup a = none ∧ (if b = a then some (HO.frz { cls := .type "list", data := .seq vs.toArray } (.lst (ns.map V.int))) else none) = some (.frz { cls := .type "list", data := .seq vs.toArray } (.lst (ns.map V.int))) := fun b => by
      by_cases h : b = a
      · exact .inr ⟨h, hk, if_pos h⟩
      · exact .inl (if_neg h)
    refine main (fun b => if b = a then some (.frz { cls := .type "list", data := .seq vs.toArray } (.lst (ns.map V.int))) else none) one (.inl (.inr ⟨{ cls := .type "list", data := .seq vs.toArray }, if_pos rfl⟩)) fun b u z => ?_
    by_cases h : b = a
    · subst h
      cases (if_pos rfl).symm.trans z
      exact ⟨ha, by rw [List.length_map]; exact hl, vs, _, rel, ha⟩
    · cases (if_neg h).symm.trans z
end
theorem walk_ofG {l : PySem.W.OpenLaw} {n k : Nat} {q : Program} {loose : List Str} {XP : (Str → Option Value) → Heap → Prop} {YP : World → Heap → Prop} {d : DefRec} {CX : CXT} {x : Str}
    (hn : l.most = some n) (hn2 : n ≤ sizeLine) (hdf : d.params.defaults = []) (hr : Room k callerA)
    (F : ∀ (w : World) (mg : Str → Option Value) (fa : Addr) (h : Heap), YP w h → h.Ns mainGlobals mg → mg d.name = some (.ref fa) → ∃ (K : PySem.W.Frag) (fd : FuncData) (sp : Sp), K.In h ∧ (∀ (s : Shared) (u : Value), BindsTo s fd ⟨[u], []⟩ [(x, u)]) ∧
        (∀ (H : Hp) (a : Addr) (ns : List Int), ns.length ≤ n → Only H → SqL K H a (ns.map V.int) → sp [.ref a] H (fun v _ => v = .bl true) fun _ _ _ => False) ∧ ∀ base : Heap, K.In base → base.Ns mainGlobals mg → FnG l.prog w K mg base CX k fa fd [x] sp)
    (hCX : ∀ (H : Hp) (s : Shared) (e : Value) (s' : Shared), CX [] H s (fun _ _ _ => False) e s' → False) : PySem.W.WalkO q loose XP YP l.row.toRowW d [] (fun f vs => PySem.call f vs) := by
  refine Att.attach_call hn hdf fun w s0 s1 mg mb fa o pm cd doc a vs ns G Y ho hd hcd hmg hobj hints hlen hg => ?_
  obtain ⟨K, fd, sp, KX, hb, hsp, hF⟩ := F w mg fa _ Y G.T.g hmg
  exact law_callG KX G.T.g G.T.b G.T.builtins G.T.nolimit hg hobj hints (Nat.le_trans hlen hn2) hr hF hb (fun H hO hS => hsp H a ns hlen hO hS) fun H e s' => hCX H s1 e s'
theorem law_end {P : Program} {w : World} {K : PySem.W.Frag} {mg : Str → Option Value} {CX : CXT} {k : Nat} {x a : Str} {st : Stmt} {sp : Sp} {fa : Addr} (b0 : Heap) (D : ∀ base : Heap, DefOk P w K mg base CX true k x st [a] sp) (hm : mg x = some (.ref fa)) (hb : BindP x st [a]) :
    ∃ fd, (∀ (s : Shared) (u : Value), BindsTo s fd ⟨[u], []⟩ [(a, u)]) ∧ ∀ base : Heap, FnG P w K mg base CX k fa fd [a] sp := by
  obtain ⟨f, fd, F, hf, _⟩ := (D b0).ex
  obtain rfl : f = fa := by
    have e := hf.symm.trans hm
    injection e with e
    injection e
  refine ⟨fd, fun s u => ?_, fun base => ?_⟩
  · obtain ⟨oc, od, kV, doc, pm, an, cdv, ct, osl, rfl, lk, hcd⟩ := F.ex
    exact .of_eq (hb kV doc pm an cdv ct [u] rfl)
  · obtain ⟨g, gd, G, hg, R⟩ := (D base).ex
    obtain rfl : g = f := by
      have e := hg.symm.trans hm
      injection e with e
      injection e
    obtain rfl : gd = fd := by
      obtain ⟨oc, od, kV, doc, pm, an, cdv, ct, osl, rfl, lk, _⟩ := F.ex
      obtain ⟨oc2, od2, kV2, doc2, pm2, an2, cdv2, ct2, osl2, rfl, lk2, _⟩ := G.ex
      have e := lk2.symm.trans lk
      injection e with e
      injection e with _ _ e _
      injection e
    exact R
end DL

set_option maxHeartbeats 4000000
namespace DL
open PySem L2 Evl PySem.Spec PyProof.Rows
/-! ### the head: defs, constants, an error class, read off the heap -/
theorem defAt_of {K : PySem.W.Frag} {mg : Str → Option Value} {x : Str} {st : Stmt} {f : Addr} (h : ∃ fd, FunD K x x (defArgs st) (defBody st) (defScope st) [] [] f fd) (g : mg x = some (.ref f)) : DefAt K mg x st := by
  obtain ⟨fd, F⟩ := h
  obtain ⟨oc, od, dV, kV, doc, pm, an, cdv, ct, osl, rfl, lk, hcd, hd, _⟩ := F.ex
  rcases hd with ⟨_, rfl⟩ | ⟨n, _⟩
  · exact ⟨f, _, ⟨⟨oc, od, kV, doc, pm, an, cdv, ct, osl, rfl, lk, hcd⟩, F.kp⟩, g⟩
  · exact absurd rfl n
theorem oexB_cls {K : PySem.W.Frag} {C : Addr} (h : oexB K C = true) : ∃ nm q N bs bm sn sub ab col dd k0 k1 k2 k3 k5, K.lookup C = some (excClassObj nm q C N bs bm true sn sub ab col dd k0 k1 k2 k3 k5 "ValueError.__new__") ∧ HandSPX.refsVE bm = true := by
  unfold oexB at h
  split at h
  · rename_i dd cd sl ho
    split at h
    · rename_i C1 bm k0 k1 k2 k3 n k5 hm hs
      simp only [Bool.and_eq_true, beq_iff_eq, Bool.not_eq_true'] at h
      obtain ⟨rfl, rfl, hdel, hdict, hbm⟩ := h
      obtain ⟨nm, bs, mro, ns, qn, hd, sn, sub, ab, col, del⟩ := cd
      dsimp only at hm hdel hdict
      subst hm hdel hdict
      have esl : sl = #[k0, k1, k2, k3, some (.builtin "ValueError.__new__"), k5] := by
        obtain ⟨l⟩ := sl
        exact congrArg Array.mk hs
      subst esl
      exact ⟨nm, qn, ns, bs, bm, sn, sub, ab, col, dd, k0, k1, k2, k3, k5, ho, hbm⟩
    · cases h
  · cases h
variable {P : Program} {w : World} {K : PySem.W.Frag} {mg : Str → Option Value} {base : Heap}
theorem err_of {file fld x name qual : Str} {params : Arguments} {body : List Stmt} {scope : Scope} {ar : Arg} {p0 p1 p2 p3 p4 p5 p6 p7 p8 p9 : Pos} (he : errB file fld K x = true) (ho : iniObs K x = some (name, qual, params, FuncBody.stmts body, scope, mainGlobals, [("__class__" : Str)], builtinsNs)) (hm : mg x = some (.ref (He.ga K x)))
    (hbd : body = [.Expr (.Call (.Attribute (.Call (.Name "super" p0) [] [] p1) "__init__" p2) [.Name fld p3] [] p4) p5, .Assign [.Attribute (.Name "self" p6) fld p7] (.Name fld p8) p9])
    (S : SupScope "self" fld scope) (hp : (params.posonlyargs ++ params.args).head? = some ar) (har : ar.arg = "self") (hfile : ((P.main.file : Str) == file) = true) (hsm : mg "super" = none) (htop : (P.main.scope.names.lookup ("super" : Str)).isSome = false)
    (hbind : ∀ (kV doc pm : Value) (an : Option Addr) (cdv ct : Value) (cc : Addr) (us : List Value), us.length = 2 → bindArgs (PySem.W.ksFn name qual params body scope .none kV doc pm an cdv ct cc) ⟨us, []⟩ = pure ((["self", fld] : List Str).zip us))
    {pl : Addr → Addr → Addr → Addr → Sem Bool} (hc : ∀ f cda cc L : Addr, eval (.Call (.Attribute (.Call (.Name "super" p0) [] [] p1) "__init__" p2) [.Name fld p3] [] p4) (PySem.W.ksEnv qual scope L f (.ref cda) cc) = (do
      let ov ← attributeBase (.Call (.Name "super" p0) [] [] p1) "__init__" (PySem.W.ksEnv qual scope L f (.ref cda) cc) (eval (.Call (.Name "super" p0) [] [] p1) (PySem.W.ksEnv qual scope L f (.ref cda) cc))
      standAt p2.atName
      let (m, first) ← holding [ov] (getMethod ov "__init__" (pl f cda cc L))
      callWith p4 m first (backTo p4 (starEach [.Name fld p3] (PySem.W.ksEnv qual scope L f (.ref cda) cc))) []))
    (hdx : (fld == ("__debug__" : Str)) = false) (hcx : (fld == ("__classdict__" : Str)) = false) : ErrAt P w K mg base x fld (He.ga K x) := by
  unfold errB at he
  simp only [Bool.and_eq_true, decide_eq_true_eq] at he
  obtain ⟨h1, h2, h3, h4, h5, h6, h7, h8, h9, h10, h11, h12, h13, h14, h15, h16⟩ := he
  have T : OexC K (He.ga K x) := ⟨oexB_cls h1, He.eqO_ok h2, h3, h4, h5⟩
  refine ⟨hm, T, ?_, He.eqO_ok h8, h9, He.eqO_ok h10, h11, xfB_ok h12, h13⟩
  unfold codeB at h16
  unfold iniObs at ho
  cases hl : K.lookup (He.ma K (He.ga K x) "__init__") with
  | none => rw [hl] at h16; cases h16
  | some o =>
    obtain ⟨oc, od, dat, osl⟩ := o
    rw [hl] at h16 ho
    cases dat with
    | func fd =>
      simp only at h16 ho
      obtain ⟨nm, qn, pr, bdy, scp, gl, clo, dV, kV, doc, pm, an, code, ct, bl⟩ := fd
      simp only [Option.some.injEq, Prod.mk.injEq] at ho
      obtain ⟨rfl, rfl, rfl, rfl, rfl, rfl, hclo, rfl⟩ := ho
      split at h16
      · rename_i cda nc cc e1 e2 e3
        simp only at e1 e2 e3
        subst e1 e2 e3
        simp only [List.map_cons, List.map_nil, List.cons.injEq, and_true] at hclo
        subst hclo
        simp only [Bool.and_eq_true] at h16
        obtain ⟨c1, c2, c3⟩ := h16
        split at c2
        · rename_i ccl cdd vs ccs hcode
          split at c2
          · rename_i f0 tf hvs
            obtain rfl : f0 = file := by simpa using c2
            split at c3
            · rename_i cl cld D csl hcell
              obtain rfl : D = He.ga K x := by simpa using c3
              obtain ⟨cdD, hD⟩ := Option.isSome_iff_exists.mp h14
              exact ⟨_, _, He.eqO_ok h6, h7, Binds.all fun us hl => hbind _ _ _ _ _ _ _ us hl, fun CX k => fn_super hl hbd c1 S hp har hcode hvs hfile hcell hD hsm htop (He.eqO_ok h15) (hc _ _ _) (by decide) (by decide) hdx hcx⟩
            · cases c3
          · cases c2
        · cases c2
      · cases h16
    | _ => cases h16
end DL

set_option maxHeartbeats 0
namespace K2
open PySem L2 Evl DL PySem.Spec PyProof.Rows
section
variable {P : Program} {w : World} {K : PySem.W.Frag} {h base : Heap} {mg : Str → Option Value}
theorem txt_of (X : K.In h) (G : h.Ns mainGlobals mg) (c : SaysX fa fn chk "InvalidText" iniV K) : Txt K mg where
  d_run_at := defAt_of (c.1.def_ 0 rfl) (He.glo_ok X G (c.1.fact 0 (f := .glo "run_at") rfl))
  d_tokens_in := defAt_of (c.1.def_ 1 rfl) (He.glo_ok X G (c.1.fact 1 (f := .glo "tokens_in") rfl))
  d_check_text := defAt_of (c.1.def_ 2 rfl) (He.glo_ok X G (c.1.fact 2 (f := .glo "check_text") rfl))
  d_tokens := defAt_of (c.1.def_ 3 rfl) (He.glo_ok X G (c.1.fact 3 (f := .glo "tokens") rfl))
  d_law_pail := defAt_of (c.1.def_ 4 rfl) (He.glo_ok X G (c.1.fact 4 (f := .glo "_law_pail") rfl))
  d_law_deal := defAt_of (c.1.def_ 5 rfl) (He.glo_ok X G (c.1.fact 5 (f := .glo "_law_deal") rfl))
  d_law_any := defAt_of (c.1.def_ 6 rfl) (He.glo_ok X G (c.1.fact 6 (f := .glo "_law_any") rfl))
  d_law_shuffled := defAt_of (c.1.def_ 7 rfl) (He.glo_ok X G (c.1.fact 7 (f := .glo "_law_shuffled") rfl))
  d_law_size := defAt_of (c.1.def_ 8 rfl) (He.glo_ok X G (c.1.fact 8 (f := .glo "_law_size") rfl))
  d_law_drawn_right := defAt_of (c.1.def_ 9 rfl) (He.glo_ok X G (c.1.fact 9 (f := .glo "_law_drawn_right") rfl))
  d_law_drawn_body := defAt_of (c.1.def_ 10 rfl) (He.glo_ok X G (c.1.fact 10 (f := .glo "_law_drawn_body") rfl))
  d_law_program := defAt_of (c.1.def_ 11 rfl) (He.glo_ok X G (c.1.fact 11 (f := .glo "_law_program") rfl))
  d_law_is := defAt_of (c.1.def_ 12 rfl) (He.glo_ok X G (c.1.fact 12 (f := .glo "_law_is") rfl))
  d_law_atoms_text := defAt_of (c.1.def_ 13 rfl) (He.glo_ok X G (c.1.fact 13 (f := .glo "_law_atoms_text") rfl))
  d_law_right_text := defAt_of (c.1.def_ 14 rfl) (He.glo_ok X G (c.1.fact 14 (f := .glo "_law_right_text") rfl))
  d_law_point_text := defAt_of (c.1.def_ 15 rfl) (He.glo_ok X G (c.1.fact 15 (f := .glo "_law_point_text") rfl))
  d_law_body_text := defAt_of (c.1.def_ 16 rfl) (He.glo_ok X G (c.1.fact 16 (f := .glo "_law_body_text") rfl))
  d_law_text := defAt_of (c.1.def_ 17 rfl) (He.glo_ok X G (c.1.fact 17 (f := .glo "_law_text") rfl))
  d_law_tokens := defAt_of (c.1.def_ 18 rfl) (He.glo_ok X G (c.1.fact 18 (f := .glo "_law_tokens") rfl))
  d_law_told := defAt_of (c.1.def_ 19 rfl) (He.glo_ok X G (c.1.fact 19 (f := .glo "_law_told") rfl))
  d_law_right := defAt_of (c.1.def_ 20 rfl) (He.glo_ok X G (c.1.fact 20 (f := .glo "_law_right") rfl))
  d_law := defAt_of (c.1.def_ 21 rfl) (He.glo_ok X G (c.1.fact 21 (f := .glo "law") rfl))
  b_abs := He.free_ok X G (c.1.fact 22 (f := .free "abs") rfl)
  b_all := He.free_ok X G (c.1.fact 23 (f := .free "all") rfl)
  b_divmod := He.free_ok X G (c.1.fact 24 (f := .free "divmod") rfl)
  b_int := He.free_ok X G (c.1.fact 25 (f := .free "int") rfl)
  b_isinstance := He.free_ok X G (c.1.fact 26 (f := .free "isinstance") rfl)
  b_len := He.free_ok X G (c.1.fact 27 (f := .free "len") rfl)
  b_list := He.free_ok X G (c.1.fact 28 (f := .free "list") rfl)
  b_max := He.free_ok X G (c.1.fact 29 (f := .free "max") rfl)
  b_min := He.free_ok X G (c.1.fact 30 (f := .free "min") rfl)
  b_range := He.free_ok X G (c.1.fact 31 (f := .free "range") rfl)
  b_repr := He.free_ok X G (c.1.fact 32 (f := .free "repr") rfl)
  b_str := He.free_ok X G (c.1.fact 33 (f := .free "str") rfl)
  b_sum := He.free_ok X G (c.1.fact 34 (f := .free "sum") rfl)
  b_super := He.free_ok X G (c.1.fact 35 (f := .free "super") rfl)
  b_tuple := He.free_ok X G (c.1.fact 36 (f := .free "tuple") rfl)
  c_LETTERS := by
    obtain ⟨t, e⟩ := He.str_ok X G (c.1.fact 37 (f := .str "LETTERS" "abcdefghijklmnopqrstuvwxyz") rfl)
    exact ⟨_, e, t, rfl⟩
  c_FIGURES := by
    obtain ⟨t, e⟩ := He.str_ok X G (c.1.fact 38 (f := .str "FIGURES" "0123456789") rfl)
    exact ⟨_, e, t, rfl⟩
  c_SIGNS := by
    obtain ⟨t, e⟩ := He.str_ok X G (c.1.fact 39 (f := .str "SIGNS" "{}(),;=<+-*") rfl)
    exact ⟨_, e, t, rfl⟩
  c_PARTING := by
    have hc := c.2.1
    unfold chk at hc
    rw [Bool.and_eq_true] at hc
    exact ⟨_, He.glo_ok X G (c.1.fact 40 (f := .glo "PARTING") rfl), fun H => He.tupB_ok hc.1 H⟩
theorem err_at (X : K.In h) (G : h.Ns mainGlobals mg) (c : SaysX fa fn chk "InvalidText" iniV K) : ErrAt PySem.Challenge.pw_leastkept_k02_whole_tokens_of_texts w K mg base "InvalidText" "given" (He.ga K "InvalidText") := by
  have hc := c.2.1
  unfold chk at hc
  rw [Bool.and_eq_true] at hc
  exact err_of hc.2 c.2.2 (He.glo_ok X G (c.1.fact 41 (f := .glo "InvalidText") rfl)) rfl ⟨rfl, rfl, rfl, by decide +kernel, by decide +kernel, by decide +kernel, by decide +kernel, by decide +kernel, rfl, rfl, rfl, rfl⟩ rfl rfl (by decide +kernel)
    (He.free_ok X G (c.1.fact 35 (f := .free "super") rfl)) (by decide +kernel) (fun _ _ _ _ _ _ _ us hl => match us, hl with | [_, _], _ => rfl) (fun _ _ _ _ => rfl) (by decide +kernel) (by decide +kernel)
end
end K2
open PySem PySem.W PySem.Calls PyProof.Rows
theorem K2.walks : WalkO K2.q32 K2.loose (XL K2.q32 []) K2.hk.says K2.R.toRowW K2.d32 [] fun f vs => PySem.call f vs := by
  refine DL.walk_ofG (l := PySem.Challenge.rw_leastkept_k02_whole_tokens_of_texts) (n := 63) (k := 27) (x := "script") (CX := L2.CX0) rfl (by decide) K2.h_dfl K2.h_room (fun w mg fa h Y G hmg0 => ?_) (fun _ _ _ _ z => z)
  obtain ⟨K, KX, c⟩ := Y
  rw [K2.h_name] at hmg0
  have T := K2.txt_of KX G c
  obtain ⟨fd, hb, hF⟩ := DL.law_end h (fun base => K2.ok_law (P := PySem.Challenge.pw_leastkept_k02_whole_tokens_of_texts) (w := w) (base := base) T (K2.err_at KX G c)) hmg0 K2.bd_law
  exact ⟨K, fd, K2.spLaw K, KX, hb, fun H a ns hl _ hS => ⟨a, ns, rfl, hS, hl, fun _ => rfl⟩, fun base _ _ => hF base⟩
theorem PySem.Challenge.cw_leastkept_k02_whole_tokens_of_texts_holds : PySem.Challenge.rw_leastkept_k02_whole_tokens_of_texts.Holds :=
  K2.holds_of K2.walks
