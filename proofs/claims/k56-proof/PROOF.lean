import PyProof.Rows.All
import Wide.All
import OpenK.AllK
import Wide.FinOn
import HandS.ForMost
import HandS.TupLe
import HandS.Walk
import HandS.Deep
import HandS.IsInst
import KE.SortKeyHeap
import KE.GoesMore
import HandS.SortKw
import HandS.More
import KE.KDictCopyH
import KE.KDictSum
import HandS.Wide
import KE.KDictPairs
import KE.KDictKeyed
import HandS.Style
import HandS.EndBits
import PySem.Challenge.RW_trothbase_k56_whole_trees_page_by_page
set_option Elab.async false
set_option linter.all false
set_option maxRecDepth 100000
/-! Calls of defs that know that no guard runs (repr asks it). -/
namespace G
open PySem PySem.Spec PyProof.Rows L2

theorem caller_quiet : callerA.guards = some [] := by first | rfl | decide +kernel

/-- room, and no guard runs -/
structure GR (k : Nat) (A : Around) : Prop where
  rm : Room k A
  gd : A.guards = some []
theorem GR.mono {j k : Nat} {A : Around} (r : GR k A) (h : j ≤ k) : GR j A := ⟨r.rm.mono h, r.gd⟩
theorem GR.deeper {k : Nat} {A : Around} (r : GR (k + 1) A) (env : Env) : GR k (A.deeper env) := ⟨r.rm.deeper env, r.gd⟩
theorem GR.hu {k : Nat} {A : Around} (r : GR k A) : A.units + 1 < cLine := hu_of r.rm
theorem GR.hu64 {k : Nat} {A : Around} (r : GR k A) : A.units + 64 < cLine := r.rm.units
theorem GR.make {k : Nat} {A : Around} (r : GR (k + 1) A) (C : Addr) (us : List Value) (kw : List (Str × Value)) : GR k (A.under (.builtin "type.__call__" ⟨.ref C :: us, kw⟩)) :=
  ⟨r.rm.make C us kw, by
    have e : Code.isGuard (.builtin "type.__call__" ⟨.ref C :: us, kw⟩) = false := by first | rfl | simp [Code.isGuard, guardIds]
    have e2 : Code.guards (.builtin "type.__call__" ⟨.ref C :: us, kw⟩) = [] := by unfold Code.guards; rw [e]; rfl
    unfold Around.under
    rw [e2]
    exact r.gd⟩

/-- a def's promise, where no guard runs -/
structure Fg (P : Program) (w : World) (K : PySem.W.Frag) (mg : Str → Option Value) (base : Heap) (CX : CXT) (k : Nat) (f : Addr) (fd : FuncData) (ps : List Str) (sp : Sp) : Prop where
  len : ∀ vs H Q E, sp vs H Q E → vs.length = ps.length
  run : ∀ (A : Around) (outer : List Env) (s : Shared) (H : Hp) (args : Args) (us : List Value) (vs : List V) (Q : VK) (E : XK),
    GR k A → Env0 P w K mg base A outer s H → BindsTo s fd args (ps.zip us) → Vals vs us → sp vs H Q E →
      codeAny (model P w) A (.call (.ref f) args) (CR CX outer P w H s Q E) s
section
variable {P : Program} {w : World} {K : PySem.W.Frag} {mg : Str → Option Value} {base : Heap} {CX : CXT} {j k : Nat} {f : Addr} {fd : FuncData} {ps : List Str} {sp sp' : Sp}
theorem Fg.of (F : FnOk P w K mg base CX k f fd ps sp) : Fg P w K mg base CX k f fd ps sp :=
  ⟨F.len, fun A outer s H args us vs Q E hr => F.run A outer s H args us vs Q E hr.rm⟩
theorem Fg.mono (F : Fg P w K mg base CX j f fd ps sp) (h : j ≤ k) : Fg P w K mg base CX k f fd ps sp :=
  ⟨F.len, fun A outer s H args us vs Q E hr => F.run A outer s H args us vs Q E (hr.mono h)⟩
theorem Fg.imp (F : Fg P w K mg base CX k f fd ps sp) (h : ∀ vs H Q E, sp' vs H Q E → sp vs H Q E) : Fg P w K mg base CX k f fd ps sp' :=
  ⟨fun vs H Q E q => F.len vs H Q E (h _ _ _ _ q), fun A outer s H args us vs Q E hr he hb hv hs => F.run A outer s H args us vs Q E hr he hb hv (h _ _ _ _ hs)⟩
end

section
variable {X : Cx} {CX : CXT} {k : Nat} {f C : Addr} {fd : FuncData} {ps : List Str} {sp : Sp} {dvs : List V} {ds : List Value} {E : XK} {x m : Str} {p pos apos : Pos} {e o : Expr} {es : List Expr} {ta : TE} {t : TA}
  {pins : List (Addr × Obj)} {σ : L2.St} {H : Hp} {s : Shared} {Q : VK} {us : List Value} {vs : List V}
/-- the callee runs -/
theorem goFn (F : Fg X.prog X.w X.K X.mg X.base CX k f fd ps sp) (hr : GR k X.A) (hb : Binds X.K fd ps ds) (hd : Vals dvs ds) (hx : Passes CX X E)
    (I : Inv X pins σ H s) (r : Vals vs us) (h : sp (vs ++ dvs) H Q E) : wpAny (model X.prog X.w) X.A (call (.ref f) us) (EP X pins σ Q) X.xe s := by
  have r2 := r.append hd
  have hl : (us ++ ds).length = ps.length := r2.length.symm.trans (F.len _ _ _ _ h)
  refine wpAny_call (codeAny_mono (F.run X.A X.stack s H ⟨us, []⟩ _ _ Q E hr I.env0 (hb s us I.kIn hl) r2 h) ?_)
  intro r s' hq
  match r, hq with
  | .error e, hq => exact hx pins σ H s e s' I hq
  | .ok (.ret u), hq => exact I.after hq
  | .ok .next, hq => exact False.elim hq
  | .ok .brk, hq => exact False.elim hq
  | .ok .cont, hq => exact False.elim hq

theorem pg_call (F : Fg X.prog X.w X.K X.mg X.base CX k f fd ps sp) (hr : GR k X.A) (hg : Gl X x) (hm : X.mg x = some (.ref f)) (hk : PySem.W.keepIn X.K (.ref f) = true) (hb : Binds X.K fd ps ds) (hd : Vals dvs ds) (hx : Passes CX X E)
    (ha : PA X (e :: es) t) (hdb : (x == ("__debug__" : Str)) = false := by decide) (he : starEach (e :: es) X.env = (false, eval e X.env) :: starEach es X.env := by rfl) (hpl : (backTo pos (starEach es X.env)).any (·.1) = false := by rfl) :
    PE X (.Call (.Name x p) (e :: es) [] pos) (tCall sp dvs E t) := ⟨fun pins s σ H Q I h =>
  wpAny_Call_Name_kw (ld_glob I hg hm (PySem.W.callWith_K (h₀ := X.base) I.ok.mod.kin hk (thn (ha.run pos pins s σ H _ I h) fun us s1 ⟨vs, H1, I1, r, q⟩ => ⟨I1.kIn, goFn F hr hb hd hx I1 r q⟩) he hpl) hdb)⟩
theorem pg_call0 (F : Fg X.prog X.w X.K X.mg X.base CX k f fd ps sp) (hr : GR k X.A) (hg : Gl X x) (hm : X.mg x = some (.ref f)) (hk : PySem.W.keepIn X.K (.ref f) = true) (hb : Binds X.K fd ps ds) (hd : Vals dvs ds) (hx : Passes CX X E)
    (hdb : (x == ("__debug__" : Str)) = false := by decide) : PE X (.Call (.Name x p) [] [] pos) (tCall sp dvs E tNil) := ⟨fun pins s σ H Q I h =>
  wpAny_Call_Name_kw (ld_glob I hg hm (PySem.W.callWith_K0 I.kIn hk (goFn (us := []) F hr hb hd hx I .nil h)) hdb)⟩

theorem pg_meth {pl : Sem Bool} (he : PE X o ta) (c : Cls X.K C) (hm : Meth X.K C m f) (F : Fg X.prog X.w X.K X.mg X.base CX k f fd ps sp) (hr : GR k X.A) (hb : Binds X.K fd ps ds) (hd : Vals dvs ds) (hx : Passes CX X E) (ha : PA X (e :: es) t)
    (hst : starEach (e :: es) X.env = (false, eval e X.env) :: starEach es X.env := by rfl) (hpl : (backTo pos (starEach es X.env)).any (·.1) = false := by rfl)
    (ht : eval (.Call (.Attribute o m apos) (e :: es) [] pos) X.env = (do
      let ov ← eval o X.env
      standAt apos.atName
      let (f, first) ← holding [ov] (getMethod ov m pl)
      callWith pos f first (backTo pos (starEach (e :: es) X.env)) (backToKw pos (keywordEach [] X.env))) := by rfl) :
    PE X (.Call (.Attribute o m apos) (e :: es) [] pos) (tMeth C m sp dvs E ta t) := by
  refine ⟨fun pins s σ H Q I h => PySem.W.methodCall_KW (pl := pl) (thn (he.run pins s σ H _ I h) ?_) ht⟩
  rintro u s1 ⟨x, H1, I1, rx, a, dx, fs, rfl, ea, l, q⟩
  obtain rfl : u = Value.ref a := rx
  refine getmeth_ok I1 ea c hm l (PySem.W.callWith_K (first := [.ref a]) (h₀ := X.base) I.ok.mod.kin hm.kp (thn (ha.run pos pins s1 σ H1 _ I1 q) ?_) hst hpl)
  rintro us s2 ⟨vs, H2, I2, r, q2⟩
  exact ⟨I2.kIn, goFn (us := .ref a :: us) (vs := .ref a :: vs) F hr hb hd hx I2 (.cons rfl r) q2⟩
theorem pg_meth0 {pl : Sem Bool} (he : PE X o ta) (c : Cls X.K C) (hm : Meth X.K C m f) (F : Fg X.prog X.w X.K X.mg X.base CX k f fd ps sp) (hr : GR k X.A) (hb : Binds X.K fd ps ds) (hd : Vals dvs ds) (hx : Passes CX X E)
    (ht : eval (.Call (.Attribute o m apos) [] [] pos) X.env = (do
      let ov ← eval o X.env
      standAt apos.atName
      let (f, first) ← holding [ov] (getMethod ov m pl)
      callWith pos f first (backTo pos (starEach [] X.env)) (backToKw pos (keywordEach [] X.env))) := by rfl) :
    PE X (.Call (.Attribute o m apos) [] [] pos) (tMeth C m sp dvs E ta tNil) := by
  refine ⟨fun pins s σ H Q I h => PySem.W.methodCall_KW (pl := pl) (thn (he.run pins s σ H _ I h) ?_) ht⟩
  rintro u s1 ⟨x, H1, I1, rx, a, dx, fs, rfl, ea, l, q⟩
  obtain rfl : u = Value.ref a := rx
  exact getmeth_ok I1 ea c hm l (PySem.W.callWith_K0 (first := [.ref a]) I1.kIn hm.kp (goFn (us := [.ref a]) (vs := [.ref a]) F hr hb hd hx I1 (.cons rfl .nil) q))

theorem goMake (M : Mk X.K C f) (F : Fg X.prog X.w X.K X.mg X.base CX k f fd ps sp) (hr : GR (k + 1) X.A) (hb : Binds X.K fd ps ds) (hd : Vals dvs ds)
    (hx : Passes CX X E) (I : Inv X pins σ H s) (r : Vals vs us)
    (h : ∀ x dx, H x = none → H dx = none → dx ≠ x → sp (.ref x :: (vs ++ dvs)) (upd (upd H dx (.own x)) x (.ins C dx [])) (fun v H2 => v = .non ∧ Q (.ref x) H2) E) :
    wpAny (model X.prog X.w) X.A (call (.ref C) us) (EP X pins σ Q) X.xe s := by
  have f1 : H (s.heap.objs.size + 1) = none := I.hok.fresh (Nat.le_succ _)
  have f2 : H s.heap.objs.size = none := I.hok.fresh (Nat.le_refl _)
  have hq := h _ _ f1 f2 (Nat.ne_of_lt (Nat.lt_succ_self _))
  have I2 := Inv.made (C := C) I
  have r2 : Vals (V.ref (s.heap.objs.size + 1) :: (vs ++ dvs)) (Value.ref (s.heap.objs.size + 1) :: (us ++ ds)) := .cons rfl (r.append hd)
  have hl : (Value.ref (s.heap.objs.size + 1) :: us ++ ds).length = ps.length := (r2.length.symm.trans (F.len _ _ _ _ hq))
  refine wpAny_call (make_map (f := f) I.kIn M.makes M.init (beq_iff_eq.mp M.fn) (codeAny_mono (F.run _ X.stack _ _ ⟨Value.ref (s.heap.objs.size + 1) :: us, []⟩ _ _ _ E (hr.make C us [])
    (I2.env0.make C us []) (hb _ _ I2.kIn hl) r2 hq) ?_))
  intro r s' hq'
  match r, hq' with
  | .error e, hq' => exact hx pins σ _ _ e s' I2 hq'
  | .ok (.ret u), hq' =>
    obtain ⟨v, H', I3, rv, ev, q3⟩ := I2.after hq'
    subst ev
    exact ⟨rv, ⟨V.ref (s.heap.objs.size + 1), H', I3, rfl, q3⟩⟩
  | .ok .next, hq' => exact False.elim hq'
  | .ok .brk, hq' => exact False.elim hq'
  | .ok .cont, hq' => exact False.elim hq'
theorem pg_make (M : Mk X.K C f) (F : Fg X.prog X.w X.K X.mg X.base CX k f fd ps sp) (hr : GR (k + 1) X.A) (hg : Gl X x) (hm : X.mg x = some (.ref C)) (hb : Binds X.K fd ps ds) (hd : Vals dvs ds) (hx : Passes CX X E)
    (ha : PA X (e :: es) t) (hdb : (x == ("__debug__" : Str)) = false := by decide) (he : starEach (e :: es) X.env = (false, eval e X.env) :: starEach es X.env := by rfl) (hpl : (backTo pos (starEach es X.env)).any (·.1) = false := by rfl) :
    PE X (.Call (.Name x p) (e :: es) [] pos) (tMake C sp dvs E t) := ⟨fun pins s σ H Q I h =>
  wpAny_Call_Name_kw (ld_glob I hg hm (PySem.W.callWith_K (h₀ := X.base) I.ok.mod.kin M.kp (thn (ha.run pos pins s σ H _ I h) fun us s1 ⟨vs, H1, I1, r, q⟩ => ⟨I1.kIn, goMake M F hr hb hd hx I1 r q⟩) he hpl) hdb)⟩
theorem pg_make0 (M : Mk X.K C f) (F : Fg X.prog X.w X.K X.mg X.base CX k f fd ps sp) (hr : GR (k + 1) X.A) (hg : Gl X x) (hm : X.mg x = some (.ref C)) (hb : Binds X.K fd ps ds) (hd : Vals dvs ds) (hx : Passes CX X E)
    (hdb : (x == ("__debug__" : Str)) = false := by decide) : PE X (.Call (.Name x p) [] [] pos) (tMake C sp dvs E tNil) := ⟨fun pins s σ H Q I h =>
  wpAny_Call_Name_kw (ld_glob I hg hm (PySem.W.callWith_K0 I.kIn M.kp (goMake (us := []) M F hr hb hd hx I .nil h)) hdb)⟩
end

/-! ### a def's body -/
section
variable {P : Program} {w : World} {K : PySem.W.Frag} {mg : Str → Option Value} {base : Heap} {CX : CXT}
theorem goBody {k : Nat} {f : Addr} {name qual : Str} {params : Arguments} {body : List Stmt} {scope : Scope} {dV kV doc pm cdv ct oc : Value} {an od : Option Addr}
    {osl : Array (Option Value)} {N ps : List Str} {sp : Sp} (lk : K.lookup f = some ⟨oc, od, .func (PySem.W.fnOf name qual params body scope dV kV doc pm an cdv ct), osl⟩) (hcd : PySem.W.codeIn K cdv qual = true) (S : FnScope N ps scope)
    (len : ∀ vs H Q E, sp vs H Q E → vs.length = ps.length)
    (hbody : ∀ (A : Around) (outer : List Env) (s : Shared) (H : Hp) (vs : List V) (Q : VK) (E : XK), GR k (A.deeper (envOfC qual scope s.heap.objs.size f cdv)) → sp vs H Q E →
      ∃ t, PSs (cxOf CX P w K mg base N qual scope f cdv A outer s H E) body t ∧ t { nx := fun _ H' => Q .non H', rt := Q } (start N vs) H) :
    Fg P w K mg base CX (k + 1) f (PySem.W.fnOf name qual params body scope dV kV doc pm an cdv ct) ps sp := by
  refine ⟨len, fun A outer s H args us vs Q E hr e0 hb r hsp => ?_⟩
  have stays : ∀ b o, base.get? b = some o → s.heap.get? b = some o := fun b o e => (e0.bs b o e).1
  have KX := e0.mod.kin.keeps stays
  refine codeAny_call_function hr.rm.depth (KX _ _ lk) rfl S.co S.gen rfl (PySem.W.codeRec_of KX hcd) (hb _ _ _ _ ?_)
  refine wpAny_newFunctionEnv_cells S.kind (fun ⟨n, v⟩ hy => ?_) fun env he s1 x => ?_
  · exact (S.par n (List.of_mem_zip hy).1).elim Or.inl fun q => Or.inr ⟨q, PySem.W.cellsFrom_some _ _ _ (.inl q)⟩
  · subst he
    refine ⟨(e0.mod.nolimit.keeps stays).keeps x.toInCall.keep, codeAny_func ?_⟩
    obtain ⟨t, ht, hq⟩ := hbody A outer s H vs Q E (hr.deeper _) hsp
    have I : Inv (cxOf CX P w K mg base N qual scope f cdv A outer s H E) [] (start N vs) H s1 := inv_start S hr.rm.hd e0 (len _ _ _ _ hsp) r x
    refine wpAny_mono (ht.run [] s1 (start N vs) H _ I hq) ?_ fun e s' hs => hs
    intro fl s' hs
    match fl, hs with
    | .ret u, ⟨v, σ', H', J, rv, q⟩ => exact ⟨v, H', J.os, J.bare, J.base, J.hok, rv, q⟩
    | .next, ⟨σ', H', J, q⟩ => exact ⟨V.non, H', J.os, J.bare, J.base, J.hok, rfl, q⟩
    | .brk, ⟨_, _, _, q⟩ => exact False.elim q
    | .cont, ⟨_, _, _, q⟩ => exact False.elim q
end
section
variable {P : Program} {w : World} {K : PySem.W.Frag} {mg : Str → Option Value} {base : Heap}
/-- THE RULE for a def that lets no exception out -/
theorem okG {x qual : Str} {st : Stmt} {f : Addr} {fd : FuncData} {N ps : List Str} {k : Nat} {sp : Sp} (F : Fun K x qual st f fd) (S : FnScope N ps (defScope st)) (len : ∀ vs H Q E, sp vs H Q E → vs.length = ps.length)
    (hbody : ∀ (cdv : Value) (A : Around) (outer : List Env) (s : Shared) (H : Hp) (vs : List V) (Q : VK) (E : XK), GR k (A.deeper (envOfC qual (defScope st) s.heap.objs.size f cdv)) → sp vs H Q E →
      ∃ t, PSs (cxOf CX0 P w K mg base N qual (defScope st) f cdv A outer s H E).nox (defBody st) t ∧ t { nx := fun _ H' => Q .non H', rt := Q } (start N vs) H) : Fg P w K mg base CX0 (k + 1) f fd ps sp := by
  obtain ⟨oc, od, kV, doc, pm, an, cdv, ct, osl, rfl, lk, hcd⟩ := F.ex
  refine goBody lk hcd S len fun A outer s H vs Q E hr hsp => ?_
  obtain ⟨t, h, q⟩ := hbody cdv A outer s H vs Q E hr hsp
  exact ⟨t, h.nox, q⟩
end

/-! ### the law's end: from a promise that knows that no guard runs -/
section
/-- a promise over every state, at the caller's own place alone -/
theorem endG {l : PySem.W.OpenLaw} {n k : Nat} {q : Program} {loose : List Str} {XP : (Str → Option Value) → Heap → Prop} {YP : World → Heap → Prop} {d : DefRec} {K : Params → PySem.W.Frag} {sp : World → Sp} {x : Str}
    (hn : l.most = some n) (hn2 : n ≤ sizeLine) (hdf : d.params.defaults = []) (hr : Room k callerA)
    (hY : ∀ (w : World) (h : Heap), YP w h → (K w.params).In h)
    (F : ∀ (w : World) (mg : Str → Option Value) (fa : Addr) (h : Heap), (K w.params).In h → h.Ns mainGlobals mg → mg d.name = some (.ref fa) →
      ∃ fd : FuncData, (∀ (s : Shared) (u : Value), BindsTo s fd ⟨[u], []⟩ [(x, u)]) ∧
        ∀ base : Heap, (K w.params).In base → base.Ns mainGlobals mg → Fg l.prog w (K w.params) mg base CX0 k fa fd [x] (sp w))
    (hsp : ∀ (w : World) (H : Hp) (a : Addr) (ns : List Int), ns.length ≤ n → Only H → SqL (K w.params) H a (ns.map V.int) → sp w [.ref a] H (fun v _ => v = .bl true) fun _ _ _ => False) :
    PySem.W.WalkO q loose XP YP l.row.toRowW d [] (fun f vs => PySem.call f vs) := by
  refine Att.attach_call hn hdf fun w s₀ s₁ mg mb fa o pm cd doc a vs ns Gd Y ho hd hcd hmg hobj hints hlen hg => ?_
  have KX := hY w _ Y
  obtain ⟨fd, hb, hF⟩ := F w mg fa _ KX Gd.T.g hmg
  have rv := vals_ints hints
  have nV : (ns.map V.int).length = vs.length := rv.length
  have small : (ns.map V.int).length ≤ sizeLine := by rw [List.length_map]; exact Nat.le_trans hlen hn2
  -- all of the heap but what is tracked is the base
  have run : ∀ H : Hp, Only H → SqL (K w.params) H a (ns.map V.int) → HOk l.prog w H s₁.heap → (∀ b, H b ≠ none → b = a ∧ (K w.params).lookup a = none) →
      codeAny (model l.prog w) callerA (.call (.ref fa) ⟨[.ref a], []⟩) (fun r s' => r = .ok (.ret (.bool true)) ∧ OldK s₁.heap s'.heap ∧ s'.os = s₁.os ∧ AllBare s'.gens) s₁ := by
    intro H hO hS hok hA
    have out : ∀ b, b ≠ a → H b = none := fun b hb => by
      cases q : H b with
      | none => rfl
      | some u => exact absurd (hA b (by rw [q]; exact fun z => nomatch z)).1 hb
    have dicts : ∀ {b : Addr} {o : Obj} {es : Array DictEntry} {ep : Nat}, s₁.heap.get? b = some o → o.data = .dict es ep → H b = none := fun {b o es ep} e d => out b fun z => by
      rw [z, hobj] at e
      cases e
      exact absurd (show Data.seq vs.toArray _ = Data.dict es ep from d) (fun z => nomatch z)
    have nsB : ∀ {b : Addr} {m : Str → Option Value}, s₁.heap.Ns b m → (hidT s₁.heap H).Ns b m := fun {b m} ⟨o, es, ep, e, d, r⟩ => ⟨o, es, ep, hidT_get e (dicts e d), d, r⟩
    have kB : (K w.params).In (hidT s₁.heap H) := fun b o e => hidT_get (KX b o e) (by
      cases q : H b with
      | none => rfl
      | some u =>
        obtain ⟨z, z2⟩ := hA b (by rw [q]; exact fun z => nomatch z)
        rw [z, z2] at e
        cases e)
    have gB := nsB Gd.T.g
    have M : Mod (K w.params) mg (hidT s₁.heap H) := ⟨kB, gB, ⟨mb, nsB Gd.T.b, Gd.T.builtins⟩, let ⟨mc, h1, h2⟩ := Gd.T.nolimit; ⟨mc, nsB h1, h2⟩⟩
    have e0 : Env0 l.prog w (K w.params) mg (hidT s₁.heap H) callerA [] s₁ H :=
      ⟨rfl, M, fun b o e => of_hidT e, Nat.le_of_eq (hidT_size _ _), trivial, fun b hb => absurd (show b ∈ ([] : List Addr) from hb) List.not_mem_nil, hok, .of_eq hg⟩
    refine codeAny_mono ((hF _ kB gB).run callerA [] s₁ H ⟨[.ref a], []⟩ [.ref a] [.ref a] _ _ ⟨hr, caller_quiet⟩ e0 (hb s₁ (.ref a)) (.cons rfl .nil) (hsp w H a ns hlen hO hS)) ?_
    intro r s' h
    match r, h with
    | .error e, h => exact False.elim h
    | .ok .next, h => exact False.elim h
    | .ok .brk, h => exact False.elim h
    | .ok .cont, h => exact False.elim h
    | .ok (.ret u), ⟨v, H', os, bare, un, hok', r', q⟩ =>
      obtain rfl : v = .bl true := q
      obtain rfl : u = Value.bool true := r'
      refine ⟨rfl, OldK.of_keep fun b o e => ?_, os, bare⟩
      rcases hO b with z | ⟨ob, xs, z⟩
      · exact un.keep b o e z (fun z => absurd (show b ∈ ([] : List Addr) from z) List.not_mem_nil) List.not_mem_nil
      · have e1 := (hok b _ z).1
        have e2 := (hok' b _ (un.frzs b ob _ z)).1
        rw [e] at e1
        cases e1
        exact e2
  cases hk : (K w.params).lookup a with
  | some o =>
    have e := KX a o hk
    rw [hobj] at e
    cases e
    exact run (fun _ => none) (fun _ => .inl rfl) (.inr ⟨_, vs.toArray, _, hk, rfl, rfl, rfl, by rw [List.size_toArray, ← nV]; exact small, rv⟩) (fun b u z => nomatch z) fun b z => absurd rfl z
  | none =>
    refine run (fun b => if b = a then some (.frz { cls := .type "list", data := .seq vs.toArray } (.lst (ns.map V.int))) else none) (fun b => ?_) (.inl (.inr ⟨_, if_pos rfl⟩)) (fun b u z => ?_) fun b z => ⟨?_, hk⟩
    · by_cases hb : b = a
      · exact .inr ⟨_, _, if_pos hb⟩
      · exact .inl (if_neg hb)
    · by_cases hb : b = a
      · subst hb
        cases (if_pos rfl).symm.trans z
        exact ⟨hobj, small, vs, _, rv, hobj⟩
      · cases (if_neg hb).symm.trans z
    · by_cases hb : b = a
      · exact hb
      · exact absurd (if_neg hb) z
end
end G

/-! Plain values of the program: tuples, ints, texts, bools, None, told as data; keys; how keys are ordered. -/
namespace G
open PySem PySem.Spec PyProof.Rows L2

/-! ### frames -/
/-- a tuple, or one whose object is known to have no dict of its own -/
def isTup : HO → Prop
  | .tup _ => True
  | .frz _ (.tup _) => True
  | _ => False
/-- tuples stand -/
def Tk (H H' : Hp) : Prop := ∀ a o, H a = some o → isTup o → H' a = some o
theorem Tk.refl (H : Hp) : Tk H H := fun _ _ h _ => h
theorem Tk.trans {H H1 H2 : Hp} (a : Tk H H1) (b : Tk H1 H2) : Tk H H2 := fun x o h t => b x o (a x o h t) t
/-- all but what S tells stands; tuples stand anyway -/
structure Fr (S : Addr → Prop) (H H' : Hp) : Prop where
  keep : ∀ b o, ¬ S b → H b = some o → H' b = some o
  tup : Tk H H'
def S0 : Addr → Prop := fun _ => False
def S1 (a : Addr) : Addr → Prop := fun b => b = a
def Su (S T : Addr → Prop) : Addr → Prop := fun b => S b ∨ T b
theorem Fr.refl (S : Addr → Prop) (H : Hp) : Fr S H H := ⟨fun _ _ _ h => h, Tk.refl H⟩
theorem Fr.trans {S : Addr → Prop} {H H1 H2 : Hp} (a : Fr S H H1) (b : Fr S H1 H2) : Fr S H H2 := ⟨fun x o n h => b.keep x o n (a.keep x o n h), a.tup.trans b.tup⟩
theorem Fr.mono {S T : Addr → Prop} {H H1 : Hp} (a : Fr S H H1) (h : ∀ b, S b → T b) : Fr T H H1 := ⟨fun x o n e => a.keep x o (fun z => n (h x z)) e, a.tup⟩
/-- also where what S tells more is not there -/
theorem Fr.less {S T : Addr → Prop} {H H1 : Hp} (a : Fr S H H1) (h : ∀ b, S b → T b ∨ H b = none) : Fr T H H1 := ⟨fun x o n e => a.keep x o (fun z => (h x z).elim n fun q => by rw [q] at e; cases e) e, a.tup⟩
theorem Fr.new {S : Addr → Prop} {H : Hp} {p : Addr} {o : HO} (h : H p = none) : Fr S H (upd H p o) :=
  ⟨fun b u _ e => by rw [upd_ne (ne_of_none e h)]; exact e, fun b u e _ => by rw [upd_ne (ne_of_none e h)]; exact e⟩
theorem Fr.put {S : Addr → Prop} {H : Hp} {p : Addr} {u o : HO} (h : H p = some u) (n : ¬ isTup u) (hs : S p) : Fr S H (upd H p o) :=
  ⟨fun b v m e => by rw [upd_ne (fun z => m (by rw [z]; exact hs))]; exact e, fun b v e t => by
    rw [upd_ne (fun z => by rw [z, h] at e; cases e; exact n t)]
    exact e⟩
theorem Fr.free {S : Addr → Prop} {H H' : Hp} (e : Fr S H H') {l : Addr} (h : H' l = Option.none) (n : ¬ S l) : H l = Option.none := by
  cases q : H l with
  | none => rfl
  | some o =>
    rw [e.keep l o n q] at h
    cases h
/-- a tuple whose object has no dict of its own -/
def FzT (H : Hp) (a : Addr) (xs : List V) : Prop := ∃ o : Obj, H a = some (.frz o (.tup xs)) ∧ o.dict = none
def TupAt (H : Hp) (a : Addr) (xs : List V) : Prop := H a = some (.tup xs) ∨ FzT H a xs
theorem TupAt.of {H : Hp} {a : Addr} {xs : List V} (h : H a = some (.tup xs)) : TupAt H a xs := .inl h
theorem FzT.tup {H : Hp} {a : Addr} {xs : List V} (h : FzT H a xs) : TupAt H a xs := .inr h
theorem FzT.keep {H H' : Hp} {a : Addr} {xs : List V} (k : Tk H H') (h : FzT H a xs) : FzT H' a xs := let ⟨o, e, d⟩ := h; ⟨o, k a _ e trivial, d⟩
theorem TupAt.keep {H H' : Hp} {a : Addr} {xs : List V} (k : Tk H H') (h : TupAt H a xs) : TupAt H' a xs := h.elim (fun e => .inl (k a _ e trivial)) fun e => .inr (e.keep k)
theorem TupAt.sq {K : PySem.W.Frag} {H : Hp} {a : Addr} {xs : List V} (h : TupAt H a xs) : SqT K H a xs := h.elim (fun e => .inl (.inl e)) fun ⟨o, e, _⟩ => .inl (.inr ⟨o, e⟩)

/-! ### data -/
mutual
def Td (H : Hp) : V → PyData → Prop
  | v, .none => v = .non
  | v, .bool b => v = .bl b
  | v, .int i => v = .int i
  | v, .str x => v = .str x
  | v, .tuple ds => ∃ a xs, v = .ref a ∧ TupAt H a xs ∧ TdAll H xs ds
  | _, .list _ => False
  | _, .dict _ => False
def TdAll (H : Hp) : List V → List PyData → Prop
  | [], [] => True
  | x :: xs, d :: ds => Td H x d ∧ TdAll H xs ds
  | _, _ => False
end
section
variable {H H' : Hp} {K : PySem.W.Frag}
theorem Td.none' {v : V} : Td H v .none ↔ v = .non := by rw [Td]
theorem Td.bool' {v : V} {b : Bool} : Td H v (.bool b) ↔ v = .bl b := by rw [Td]
theorem Td.int' {v : V} {i : Int} : Td H v (.int i) ↔ v = .int i := by rw [Td]
theorem Td.str' {v : V} {x : Str} : Td H v (.str x) ↔ v = .str x := by rw [Td]
theorem Td.tup' {v : V} {ds : List PyData} : Td H v (.tuple ds) ↔ ∃ a xs, v = .ref a ∧ TupAt H a xs ∧ TdAll H xs ds := by rw [Td]
theorem TdAll.nil' {xs : List V} : TdAll H xs [] ↔ xs = [] := by cases xs <;> simp [TdAll]
theorem TdAll.cons' {xs : List V} {d : PyData} {ds : List PyData} : TdAll H xs (d :: ds) ↔ ∃ x ys, xs = x :: ys ∧ Td H x d ∧ TdAll H ys ds := by
  cases xs with
  | nil => simp [TdAll]
  | cons x ys =>
    rw [TdAll]
    exact ⟨fun h => ⟨x, ys, rfl, h⟩, fun ⟨_, _, e, h⟩ => by cases e; exact h⟩
theorem Td.mk1 {a : Addr} {x : V} {d : PyData} (h : TupAt H a [x]) (h1 : Td H x d) : Td H (.ref a) (.tuple [d]) :=
  Td.tup'.mpr ⟨a, [x], rfl, h, by simp [TdAll, h1]⟩
theorem Td.mk2 {a : Addr} {x y : V} {d e : PyData} (h : TupAt H a [x, y]) (h1 : Td H x d) (h2 : Td H y e) : Td H (.ref a) (.tuple [d, e]) :=
  Td.tup'.mpr ⟨a, [x, y], rfl, h, by simp [TdAll, h1, h2]⟩
theorem Td.two {v : V} {d e : PyData} (h : Td H v (.tuple [d, e])) : ∃ a x y, v = .ref a ∧ TupAt H a [x, y] ∧ Td H x d ∧ Td H y e := by
  obtain ⟨a, xs, rfl, ha, h⟩ := Td.tup'.mp h
  obtain ⟨x, ys, rfl, h1, h⟩ := TdAll.cons'.mp h
  obtain ⟨y, zs, rfl, h2, h⟩ := TdAll.cons'.mp h
  obtain rfl := TdAll.nil'.mp h
  exact ⟨a, x, y, rfl, ha, h1, h2⟩
mutual
theorem Td.keep (k : Tk H H') : ∀ (d : PyData) (v : V), Td H v d → Td H' v d
  | .none, v, h => Td.none'.mpr (Td.none'.mp h)
  | .bool b, v, h => Td.bool'.mpr (Td.bool'.mp h)
  | .int i, v, h => Td.int'.mpr (Td.int'.mp h)
  | .str x, v, h => Td.str'.mpr (Td.str'.mp h)
  | .tuple ds, v, h => by
    obtain ⟨a, xs, e, ha, h⟩ := Td.tup'.mp h
    exact Td.tup'.mpr ⟨a, xs, e, ha.keep k, TdAll.keep k ds xs h⟩
  | .list _, v, h => by rw [Td] at h; exact h.elim
  | .dict _, v, h => by rw [Td] at h; exact h.elim
theorem TdAll.keep (k : Tk H H') : ∀ (ds : List PyData) (xs : List V), TdAll H xs ds → TdAll H' xs ds
  | [], xs, h => TdAll.nil'.mpr (TdAll.nil'.mp h)
  | d :: ds, xs, h => by
    obtain ⟨x, ys, e, h1, h2⟩ := TdAll.cons'.mp h
    exact TdAll.cons'.mpr ⟨x, ys, e, Td.keep k d x h1, TdAll.keep k ds ys h2⟩
end
mutual
theorem Td.dp : ∀ (d : PyData) (v : V), Td H v d → Dp K H v d
  | .none, v, h => by rw [Td.none'.mp h]; exact .non
  | .bool b, v, h => by rw [Td.bool'.mp h]; exact .bl b
  | .int i, v, h => by rw [Td.int'.mp h]; exact .int i
  | .str x, v, h => by rw [Td.str'.mp h]; exact .str x
  | .tuple ds, v, h => by
    obtain ⟨a, xs, rfl, ha, h⟩ := Td.tup'.mp h
    exact .tup ha.sq (TdAll.dp ds xs h)
  | .list _, v, h => by rw [Td] at h; exact h.elim
  | .dict _, v, h => by rw [Td] at h; exact h.elim
theorem TdAll.dp : ∀ (ds : List PyData) (xs : List V), TdAll H xs ds → DpAll K H xs ds
  | [], xs, h => by rw [TdAll.nil'.mp h]; exact .nil
  | d :: ds, xs, h => by
    obtain ⟨x, ys, rfl, h1, h2⟩ := TdAll.cons'.mp h
    exact .cons (Td.dp d x h1) (TdAll.dp ds ys h2)
end
theorem TdAll.len : ∀ {ds : List PyData} {xs : List V}, TdAll H xs ds → xs.length = ds.length
  | [], xs, h => by rw [TdAll.nil'.mp h]; rfl
  | d :: ds, xs, h => by
    obtain ⟨x, ys, rfl, h1, h2⟩ := TdAll.cons'.mp h
    rw [List.length_cons, List.length_cons, TdAll.len h2]
theorem TdAll.get : ∀ {ds : List PyData} {xs : List V} {i : Nat} {d : PyData}, TdAll H xs ds → ds[i]? = some d → ∃ x, xs[i]? = some x ∧ Td H x d
  | [], xs, i, d, h, e => by simp at e
  | d :: ds, xs, 0, d', h, e => by
    obtain ⟨x, ys, rfl, h1, h2⟩ := TdAll.cons'.mp h
    cases e
    exact ⟨x, rfl, h1⟩
  | d :: ds, xs, i + 1, d', h, e => by
    obtain ⟨x, ys, rfl, h1, h2⟩ := TdAll.cons'.mp h
    exact TdAll.get (i := i) h2 e
theorem TdAll.getV : ∀ {ds : List PyData} {xs : List V} {i : Nat} {x : V}, TdAll H xs ds → xs[i]? = some x → ∃ d, ds[i]? = some d ∧ Td H x d := fun {ds xs i x} h e => by
  have hi : i < ds.length := by rw [← h.len]; exact (List.getElem?_eq_some_iff.mp e).1
  obtain ⟨y, e2, h2⟩ := h.get (List.getElem?_eq_getElem hi)
  rw [e] at e2
  cases e2
  exact ⟨_, List.getElem?_eq_getElem hi, h2⟩
theorem TdAll.append : ∀ {ds es : List PyData} {xs ys : List V}, TdAll H xs ds → TdAll H ys es → TdAll H (xs ++ ys) (ds ++ es)
  | [], es, xs, ys, h, h' => by rw [TdAll.nil'.mp h]; exact h'
  | d :: ds, es, xs, ys, h, h' => by
    obtain ⟨x, zs, rfl, h1, h2⟩ := TdAll.cons'.mp h
    exact TdAll.cons'.mpr ⟨x, zs ++ ys, rfl, h1, h2.append h'⟩
theorem TdAll.one {x : V} {d : PyData} (h : Td H x d) : TdAll H [x] [d] := by simp [TdAll, h]
theorem TdAll.snoc {x : V} {d : PyData} {ds : List PyData} {xs : List V} (h : TdAll H xs ds) (h1 : Td H x d) : TdAll H (xs ++ [x]) (ds ++ [d]) := h.append (TdAll.one h1)
theorem TdAll.take : ∀ {ds : List PyData} {xs : List V} (n : Nat), TdAll H xs ds → TdAll H (xs.take n) (ds.take n)
  | _, _, 0, _ => by simp [TdAll]
  | [], xs, n + 1, h => by rw [TdAll.nil'.mp h]; simp [TdAll]
  | d :: ds, xs, n + 1, h => by
    obtain ⟨x, ys, rfl, h1, h2⟩ := TdAll.cons'.mp h
    exact TdAll.cons'.mpr ⟨x, ys.take n, rfl, h1, h2.take n⟩
theorem TdAll.drop : ∀ {ds : List PyData} {xs : List V} (n : Nat), TdAll H xs ds → TdAll H (xs.drop n) (ds.drop n)
  | _, _, 0, h => h
  | [], xs, n + 1, h => by rw [TdAll.nil'.mp h]; simp [TdAll]
  | d :: ds, xs, n + 1, h => by
    obtain ⟨x, ys, rfl, h1, h2⟩ := TdAll.cons'.mp h
    exact h2.drop n
end

/-! ### keys -/
abbrev LKey := List Key
def kD : Key → PyData
  | .inl i => .int i
  | .inr x => .str x
def keyD (k : LKey) : PyData := .tuple (k.map kD)
theorem td_kV {H : Hp} {v : V} {k : Key} : Td H v (kD k) ↔ v = kV k := by
  cases k with
  | inl i => exact Td.int'
  | inr x => exact Td.str'
theorem td_kVs {H : Hp} : ∀ {k : LKey} {xs : List V}, TdAll H xs (k.map kD) ↔ xs = k.map kV
  | [], xs => TdAll.nil'
  | k :: r, xs => by
    rw [List.map_cons, TdAll.cons']
    constructor
    · rintro ⟨x, ys, rfl, h1, h2⟩
      rw [td_kV.mp h1, td_kVs.mp h2]
      rfl
    · rintro rfl
      exact ⟨_, _, rfl, td_kV.mpr rfl, td_kVs.mpr rfl⟩
/-- a key's own tuple -/
def KeyAt (H : Hp) (v : V) (k : LKey) : Prop := ∃ a, v = .ref a ∧ H a = some (.tup (k.map kV))
theorem KeyAt.td {H : Hp} {v : V} {k : LKey} (h : KeyAt H v k) : Td H v (keyD k) := by
  obtain ⟨a, rfl, h⟩ := h
  exact Td.tup'.mpr ⟨a, _, rfl, .of h, td_kVs.mpr rfl⟩
theorem KeyAt.keep {H H' : Hp} {v : V} {k : LKey} (t : Tk H H') (h : KeyAt H v k) : KeyAt H' v k := let ⟨a, e, h⟩ := h; ⟨a, e, t a _ h trivial⟩
theorem KeyAt.inj {H : Hp} {v : V} {k l : LKey} (h : KeyAt H v k) (h' : KeyAt H v l) : k = l := by
  obtain ⟨a, rfl, h⟩ := h
  obtain ⟨b, e, h'⟩ := h'
  cases e
  rw [h] at h'
  exact kVs_inj (by injection h' with h'; injection h')

/-! ### the order of keys -/
def lt1 : Key → Key → Bool
  | .inl i, .inl j => decide (i < j)
  | .inl _, .inr _ => true
  | .inr _, .inl _ => false
  | .inr x, .inr y => decide (x.cps.toList < y.cps.toList)
def klt : LKey → LKey → Bool
  | _, [] => false
  | [], _ :: _ => true
  | a :: r, b :: q => if a = b then klt r q else lt1 a b
def kle (a b : LKey) : Bool := !klt b a
def tagD : Key → PyData
  | .inl i => .tuple [.int 0, .int i]
  | .inr x => .tuple [.int 1, .str x]
/-- what order(key) gives -/
def ordD (k : LKey) : PyData := .tuple (k.map tagD)
end G

/-! Tuples compared: only the first place that differs is asked for its order. -/
namespace G
open PySem PySem.SeqAt Ob
open PySem.AutoSeq1 (wpAny_loadPart')
open PySem.MeetsSeq PySem.MeetsSeq2 PySem.MeetsSeq3

theorem lexAt_all {e r : Nat → Bool} {z : Bool} : ∀ (k i : Nat), (∀ j, i ≤ j → j < i + k → e j = true) → lexAt e r z i k = z
  | 0, i, _ => rfl
  | k + 1, i, h => by
    rw [lexAt_succ, if_pos (h i (Nat.le_refl _) (by omega))]
    exact lexAt_all k (i + 1) fun j h1 h2 => h j (by omega) (by omega)

theorem tlt_at (l b : Addr) (xs ys : Array Value) (n n2 : Nat) (dd dd2 : Option Addr) (sl sl2 : Array (Option Value)) (e r : Nat → Bool) :
    Meets (Builtin.«tuple.__lt__» ⟨[.ref l, .ref b], []⟩)
      (fun A R s => s.heap.get? l = some { cls := .type "tuple", dict := dd, data := .seq xs n, slots := sl } ∧ s.heap.get? b = some { cls := .type "tuple", dict := dd2, data := .seq ys n2, slots := sl2 } ∧
        (∀ j (h1 : j < xs.size) (h2 : j < ys.size), (∀ m, m < j → e m = true) → EqAt A.in1 s xs[j] ys[j] (e j)) ∧
        (∀ j (h1 : j < xs.size) (h2 : j < ys.size), (∀ m, m < j → e m = true) → e j = false → RcOp .Lt A.in1 s xs[j] ys[j] (r j)) ∧
        R (.ok (.ret (.bool (lexAt e r (decide (xs.size < ys.size)) 0 (min xs.size ys.size))))) s) :=
  .of_wp fun prog w A R s h => by
    obtain ⟨hp, g, d, tk, os⟩ := s
    obtain ⟨hl, hb, he, hr, h⟩ := h
    have sub := AutoSeq1.sub_tuple_tuple
    have zl : (xs.toList.zip ys.toList).length = min xs.size ys.size := by simp
    wp_walk using wpAny_loadPart' hl, wpAny_loadPart' hb, wpAny_forIn_list _ (fun rest b s' => b.1 = none ∧ s' = ⟨hp, g, d, tk, os⟩ ∧ ∃ i, (∀ m, m < i → e m = true) ∧ rest = (xs.toList.zip ys.toList).drop i ∧
      R (.ok (.ret (.bool (lexAt e r (decide (xs.size < ys.size)) i (min xs.size ys.size - i))))) ⟨hp, g, d, tk, os⟩) _
    case turn =>
      rintro ⟨y, x⟩ rest b s' ⟨_, rfl, i, hi, hz, hR⟩
      have lt : i < (xs.toList.zip ys.toList).length := Nat.lt_of_not_le fun q => by
        rw [List.drop_of_length_le q] at hz
        cases hz
      have h1 : i < xs.size := by omega
      have h2 : i < ys.size := by omega
      rw [List.drop_eq_getElem_cons lt] at hz
      injection hz with hyx hrest
      obtain ⟨rfl, rfl⟩ : y = xs[i] ∧ x = ys[i] := by simpa using hyx
      rw [show min xs.size ys.size - i = (min xs.size ys.size - (i + 1)) + 1 by omega, lexAt_succ] at hR
      refine wpAny_bind (he i h1 h2 hi prog w _ _ ?_)
      by_cases q : e i = true
      · rw [if_pos q] at hR
        rw [q]
        wp_walk
        exact ⟨rfl, rfl, i + 1, fun m hm => (Nat.lt_succ_iff_lt_or_eq.mp hm).elim (hi m) fun z => z ▸ q, hrest, hR⟩
      · rw [if_neg q] at hR
        have q' : e i = false := Bool.eq_false_iff.mpr q
        have ri := hr i h1 h2 hi q' prog w
        rw [q']
        wp_walk using ri
        exact ⟨_, rfl, by simpa using hR⟩
    case fin =>
      rintro ⟨b1, b2⟩ s' ⟨e0, rfl, i, hi, hz, hR⟩
      obtain rfl : b1 = none := e0
      have ge : min xs.size ys.size ≤ i := Nat.le_of_not_lt fun q => by
        rw [List.drop_eq_getElem_cons (by omega)] at hz
        cases hz
      rw [Nat.sub_eq_zero_of_le ge, lexAt_zero] at hR
      wp_walk
      exact ⟨_, rfl, by simpa [Builtin.Tuple.tupleCompareSizes] using hR⟩
    case h => exact ⟨rfl, rfl, 0, fun m hm => absurd hm (Nat.not_lt_zero m), rfl, by simpa using h⟩
theorem rclt {A : Around} {s : Shared} {l b : Addr} {xs ys : Array Value} {e r : Nat → Bool} (hl : s.heap.IsTuple l xs) (hb : s.heap.IsTuple b ys) (hu : A.units < cLine)
    (he : ∀ j (h1 : j < xs.size) (h2 : j < ys.size), (∀ m, m < j → e m = true) → EqAt A.in1 s xs[j] ys[j] (e j))
    (hr : ∀ j (h1 : j < xs.size) (h2 : j < ys.size), (∀ m, m < j → e m = true) → e j = false → RcOp .Lt A.in1 s xs[j] ys[j] (r j)) :
    RcOp .Lt A s (.ref l) (.ref b) (lexAt e r (decide (xs.size < ys.size)) 0 (min xs.size ys.size)) := fun prog w E Q h => by
  obtain ⟨⟨c1, d1, a1, l1⟩, o1, k1, n1, z1⟩ := id hl
  obtain ⟨⟨c2, d2, a2, l2⟩, o2, k2, n2, z2⟩ := id hb
  simp only at k1 z1 k2 z2
  subst k1 z1 k2 z2
  exact richCompare_meets_room (op := .Lt) ⟨_, o1, rfl⟩ ⟨_, o2, rfl⟩ F.slot_tuple_lt F.entry_tuple_lt (F.args_tuple_lt_2 _ _) (tlt_at l b xs ys n1 n2 d1 d2 l1 l2 e r)
    ⟨o1, o2, he, hr, ⟨(fun x => nomatch x), h⟩⟩ hu

theorem tle_at (l b : Addr) (xs ys : Array Value) (n n2 : Nat) (dd dd2 : Option Addr) (sl sl2 : Array (Option Value)) (e r : Nat → Bool) :
    Meets (Builtin.«tuple.__le__» ⟨[.ref l, .ref b], []⟩)
      (fun A R s => s.heap.get? l = some { cls := .type "tuple", dict := dd, data := .seq xs n, slots := sl } ∧ s.heap.get? b = some { cls := .type "tuple", dict := dd2, data := .seq ys n2, slots := sl2 } ∧
        (∀ j (h1 : j < xs.size) (h2 : j < ys.size), (∀ m, m < j → e m = true) → EqAt A.in1 s xs[j] ys[j] (e j)) ∧
        (∀ j (h1 : j < xs.size) (h2 : j < ys.size), (∀ m, m < j → e m = true) → e j = false → RcOp .LtE A.in1 s xs[j] ys[j] (r j)) ∧
        R (.ok (.ret (.bool (lexAt e r (decide (xs.size ≤ ys.size)) 0 (min xs.size ys.size))))) s) :=
  .of_wp fun prog w A R s h => by
    obtain ⟨hp, g, d, tk, os⟩ := s
    obtain ⟨hl, hb, he, hr, h⟩ := h
    have sub := AutoSeq1.sub_tuple_tuple
    have zl : (xs.toList.zip ys.toList).length = min xs.size ys.size := by simp
    wp_walk using wpAny_loadPart' hl, wpAny_loadPart' hb, wpAny_forIn_list _ (fun rest b s' => b.1 = none ∧ s' = ⟨hp, g, d, tk, os⟩ ∧ ∃ i, (∀ m, m < i → e m = true) ∧ rest = (xs.toList.zip ys.toList).drop i ∧
      R (.ok (.ret (.bool (lexAt e r (decide (xs.size ≤ ys.size)) i (min xs.size ys.size - i))))) ⟨hp, g, d, tk, os⟩) _
    case turn =>
      rintro ⟨y, x⟩ rest b s' ⟨_, rfl, i, hi, hz, hR⟩
      have lt : i < (xs.toList.zip ys.toList).length := Nat.lt_of_not_le fun q => by
        rw [List.drop_of_length_le q] at hz
        cases hz
      have h1 : i < xs.size := by omega
      have h2 : i < ys.size := by omega
      rw [List.drop_eq_getElem_cons lt] at hz
      injection hz with hyx hrest
      obtain ⟨rfl, rfl⟩ : y = xs[i] ∧ x = ys[i] := by simpa using hyx
      rw [show min xs.size ys.size - i = (min xs.size ys.size - (i + 1)) + 1 by omega, lexAt_succ] at hR
      refine wpAny_bind (he i h1 h2 hi prog w _ _ ?_)
      by_cases q : e i = true
      · rw [if_pos q] at hR
        rw [q]
        wp_walk
        exact ⟨rfl, rfl, i + 1, fun m hm => (Nat.lt_succ_iff_lt_or_eq.mp hm).elim (hi m) fun z => z ▸ q, hrest, hR⟩
      · rw [if_neg q] at hR
        have q' : e i = false := Bool.eq_false_iff.mpr q
        have ri := hr i h1 h2 hi q' prog w
        rw [q']
        wp_walk using ri
        exact ⟨_, rfl, by simpa using hR⟩
    case fin =>
      rintro ⟨b1, b2⟩ s' ⟨e0, rfl, i, hi, hz, hR⟩
      obtain rfl : b1 = none := e0
      have ge : min xs.size ys.size ≤ i := Nat.le_of_not_lt fun q => by
        rw [List.drop_eq_getElem_cons (by omega)] at hz
        cases hz
      rw [Nat.sub_eq_zero_of_le ge, lexAt_zero] at hR
      wp_walk
      exact ⟨_, rfl, by simpa [Builtin.Tuple.tupleCompareSizes] using hR⟩
    case h => exact ⟨rfl, rfl, 0, fun m hm => absurd hm (Nat.not_lt_zero m), rfl, by simpa using h⟩
theorem rcle {A : Around} {s : Shared} {l b : Addr} {xs ys : Array Value} {e r : Nat → Bool} (hl : s.heap.IsTuple l xs) (hb : s.heap.IsTuple b ys) (hu : A.units < cLine)
    (he : ∀ j (h1 : j < xs.size) (h2 : j < ys.size), (∀ m, m < j → e m = true) → EqAt A.in1 s xs[j] ys[j] (e j))
    (hr : ∀ j (h1 : j < xs.size) (h2 : j < ys.size), (∀ m, m < j → e m = true) → e j = false → RcOp .LtE A.in1 s xs[j] ys[j] (r j)) :
    RcOp .LtE A s (.ref l) (.ref b) (lexAt e r (decide (xs.size ≤ ys.size)) 0 (min xs.size ys.size)) := fun prog w E Q h => by
  obtain ⟨⟨c1, d1, a1, l1⟩, o1, k1, n1, z1⟩ := id hl
  obtain ⟨⟨c2, d2, a2, l2⟩, o2, k2, n2, z2⟩ := id hb
  simp only at k1 z1 k2 z2
  subst k1 z1 k2 z2
  exact richCompare_meets_room (op := .LtE) ⟨_, o1, rfl⟩ ⟨_, o2, rfl⟩ F.slot_tuple_le F.entry_tuple_le (F.args_tuple_le_2 _ _) (tle_at l b xs ys n1 n2 d1 d2 l1 l2 e r)
    ⟨o1, o2, he, hr, ⟨(fun x => nomatch x), h⟩⟩ hu
end G

/-! The order of keys: strict, total; the tuples that order() makes compare so. -/
namespace G
open PySem PySem.Spec PyProof.Rows L2

theorem lt1_irr (a : Key) : lt1 a a = false := by
  cases a with
  | inl i => simp [lt1]
  | inr x => simp only [lt1, decide_eq_false_iff_not]; exact List.lt_irrefl _
theorem lt1_tri (a b : Key) : lt1 a b = true ∨ a = b ∨ lt1 b a = true := by
  cases a with
  | inl i =>
    cases b with
    | inl j =>
      simp only [lt1, decide_eq_true_eq, Sum.inl.injEq]
      omega
    | inr y => exact .inl rfl
  | inr x =>
    cases b with
    | inl j => exact .inr (.inr rfl)
    | inr y =>
      simp only [lt1, decide_eq_true_eq, Sum.inr.injEq]
      by_cases h : x.cps.toList < y.cps.toList
      · exact .inl h
      · by_cases h2 : y.cps.toList < x.cps.toList
        · exact .inr (.inr h2)
        · exact .inr (.inl (PySem.W.str_of_cps (List.le_antisymm (List.not_lt.mp h2) (List.not_lt.mp h))))
theorem lt1_trans {a b c : Key} (h1 : lt1 a b = true) (h2 : lt1 b c = true) : lt1 a c = true := by
  cases a <;> cases b <;> cases c <;> simp only [lt1, decide_eq_true_eq] at h1 h2 ⊢ <;> first | omega | exact List.lt_trans h1 h2 | (cases h1; done) | (cases h2; done)
theorem lt1_asym {a b : Key} (h1 : lt1 a b = true) : lt1 b a = false := by
  cases q : lt1 b a with
  | false => rfl
  | true =>
    have z := lt1_trans h1 q
    rw [lt1_irr] at z
    cases z
theorem klt_irr : ∀ a : LKey, klt a a = false
  | [] => rfl
  | a :: r => by rw [klt, if_pos rfl]; exact klt_irr r
theorem klt_tri : ∀ a b : LKey, klt a b = true ∨ a = b ∨ klt b a = true
  | [], [] => .inr (.inl rfl)
  | [], _ :: _ => .inl rfl
  | _ :: _, [] => .inr (.inr rfl)
  | a :: r, b :: q => by
    by_cases e : a = b
    · subst e
      rw [klt, klt, if_pos rfl, if_pos rfl]
      rcases klt_tri r q with h | h | h
      · exact .inl h
      · exact .inr (.inl (by rw [h]))
      · exact .inr (.inr h)
    · rw [klt, klt, if_neg e, if_neg (fun z => e z.symm)]
      rcases lt1_tri a b with h | h | h
      · exact .inl h
      · exact absurd h e
      · exact .inr (.inr h)
theorem klt_trans : ∀ {a b c : LKey}, klt a b = true → klt b c = true → klt a c = true
  | _, [], _, h, _ => by rw [klt] at h; cases h
  | _, _ :: _, [], _, h => by rw [klt] at h; cases h
  | [], _ :: _, _ :: _, _, _ => rfl
  | a :: r, b :: q, c :: t, h1, h2 => by
    rw [klt] at h1 h2 ⊢
    by_cases e : a = b
    · subst e
      rw [if_pos rfl] at h1
      by_cases e2 : a = c
      · rw [if_pos e2] at h2 ⊢
        exact klt_trans h1 h2
      · rw [if_neg e2] at h2 ⊢
        exact h2
    · rw [if_neg e] at h1
      by_cases e2 : b = c
      · subst e2
        rw [if_neg e]
        exact h1
      · rw [if_neg e2] at h2
        have z := lt1_trans h1 h2
        rw [if_neg (fun z2 => by rw [z2, lt1_irr] at z; cases z)]
        exact z
theorem klt_asym {a b : LKey} (h1 : klt a b = true) : klt b a = false := by
  cases q : klt b a with
  | false => rfl
  | true =>
    have z := klt_trans h1 q
    rw [klt_irr] at z
    cases z
theorem kle_iff {a b : LKey} : kle a b = true ↔ klt a b = true ∨ a = b := by
  unfold kle
  constructor
  · intro h
    rcases klt_tri a b with q | q | q
    · exact .inl q
    · exact .inr q
    · rw [q] at h; cases h
  · rintro (h | rfl)
    · rw [klt_asym h]; rfl
    · rw [klt_irr]; rfl
theorem kle_not {a b : LKey} : kle a b = false ↔ klt b a = true := by
  unfold kle
  cases klt b a <;> simp
theorem kle_refl (a : LKey) : kle a a = true := kle_iff.mpr (.inr rfl)
theorem kle_trans {a b c : LKey} (h1 : kle a b = true) (h2 : kle b c = true) : kle a c = true := by
  rcases kle_iff.mp h1 with h1 | rfl
  · rcases kle_iff.mp h2 with h2 | rfl
    · exact kle_iff.mpr (.inl (klt_trans h1 h2))
    · exact kle_iff.mpr (.inl h1)
  · exact h2
theorem klt_of_lt_le {a b c : LKey} (h1 : klt a b = true) (h2 : kle b c = true) : klt a c = true := by
  rcases kle_iff.mp h2 with h2 | rfl
  · exact klt_trans h1 h2
  · exact h1
theorem klt_of_le_lt {a b c : LKey} (h1 : kle a b = true) (h2 : klt b c = true) : klt a c = true := by
  rcases kle_iff.mp h1 with h1 | rfl
  · exact klt_trans h1 h2
  · exact h2
theorem klt_ne {a b : LKey} (h : klt a b = true) : a ≠ b := fun e => by rw [e, klt_irr] at h; cases h

/-! ### keys that may be laid -/
def ok1 : Key → Bool
  | .inl _ => true
  | .inr x => PySem.PyData.strOk x
def okK (k : LKey) : Bool := k.all ok1
theorem okK_cons {a : Key} {r : LKey} (h : okK (a :: r) = true) : ok1 a = true ∧ okK r = true := by
  unfold okK at h ⊢
  rw [List.all_cons, Bool.and_eq_true] at h
  exact h
theorem kD_lay {a : Key} (h : ok1 a = true) : (kD a).canLay0 = true := by
  cases a with
  | inl i => simp [kD, PyData.canLay0]
  | inr x => simpa [kD, PyData.canLay0, ok1] using h
theorem tagD_lay {a : Key} (h : ok1 a = true) : (tagD a).canLay0 = true := by
  cases a with
  | inl i => simp [tagD, PyData.canLay0, PyData.canLayAll0]
  | inr x => simpa [tagD, PyData.canLay0, PyData.canLayAll0, ok1] using h
theorem kDs_lay : ∀ {k : LKey}, okK k = true → PyData.canLayAll0 (k.map kD) = true
  | [], _ => by simp [PyData.canLayAll0]
  | a :: r, h => by
    rw [List.map_cons, PyData.canLayAll0, kD_lay (okK_cons h).1, kDs_lay (okK_cons h).2]
    rfl
theorem keyD_lay {k : LKey} (h : okK k = true) : (keyD k).canLay0 = true := by
  unfold keyD
  rw [PyData.canLay0]
  exact kDs_lay h
theorem tagD_depth (a : Key) : (tagD a).depth = 1 := by cases a <;> simp [tagD, PyData.depth, PyData.depthAll]
theorem kD_depth (a : Key) : (kD a).depth = 0 := by cases a <;> simp [kD, PyData.depth]
theorem kDs_depth : ∀ k : LKey, PyData.depthAll (k.map kD) = 0
  | [] => by simp [PyData.depthAll]
  | a :: r => by rw [List.map_cons, PyData.depthAll, kD_depth, kDs_depth r]; rfl
theorem keyD_depth (k : LKey) : (keyD k).depth = 1 := by
  unfold keyD
  rw [PyData.depth, kDs_depth]
theorem tagDs_depth : ∀ k : LKey, PyData.depthAll (k.map tagD) ≤ 1
  | [] => by simp [PyData.depthAll]
  | a :: r => by
    have h := tagDs_depth r
    rw [List.map_cons, PyData.depthAll, tagD_depth]
    omega
theorem ordD_depth (k : LKey) : (ordD k).depth ≤ 2 := by
  have h := tagDs_depth k
  unfold ordD
  rw [PyData.depth]
  omega
theorem keyD_shaped {k : LKey} (h : okK k = true) : SeqAt.shaped (keyD k) = true := by
  unfold SeqAt.shaped
  rw [keyD_lay h, keyD_depth]
  rfl
theorem kD_inj {a b : Key} : PyData.eqv (kD a) (kD b) = decide (a = b) := by
  cases a with
  | inl i =>
    cases b with
    | inl j => simp [kD, PyData.eqv, Bool.beq_eq_decide_eq]
    | inr y => simp [kD, PyData.eqv]
  | inr x =>
    cases b with
    | inl j => simp [kD, PyData.eqv]
    | inr y => simp [kD, PyData.eqv, Bool.beq_eq_decide_eq]
theorem kDs_eqv : ∀ a b : LKey, PyData.eqvAll (a.map kD) (b.map kD) = decide (a = b)
  | [], [] => by simp [PyData.eqvAll]
  | [], _ :: _ => by simp [PyData.eqvAll]
  | _ :: _, [] => by simp [PyData.eqvAll]
  | a :: r, b :: q => by
    rw [List.map_cons, List.map_cons, PyData.eqvAll, kD_inj, kDs_eqv r q]
    by_cases h1 : a = b <;> by_cases h2 : r = q <;> simp [h1, h2]
theorem keyD_eqv (a b : LKey) : PyData.eqv (keyD a) (keyD b) = decide (a = b) := by
  unfold keyD
  rw [PyData.eqv]
  exact kDs_eqv a b
theorem tagD_eqv (a b : Key) : PyData.eqv (tagD a) (tagD b) = decide (a = b) := by
  cases a with
  | inl i =>
    cases b with
    | inl j => simp [tagD, PyData.eqv, PyData.eqvAll, Bool.beq_eq_decide_eq]
    | inr y => simp [tagD, PyData.eqv, PyData.eqvAll]
  | inr x =>
    cases b with
    | inl j => simp [tagD, PyData.eqv, PyData.eqvAll]
    | inr y => simp [tagD, PyData.eqv, PyData.eqvAll, Bool.beq_eq_decide_eq]

/-! ### what is read -/
theorem reads_two {h : Heap} {v : Value} {d e : PyData} {as : List Addr} (r : Reads h v (.tuple [d, e]) as) : ∃ a x y bs cs, v = .ref a ∧ h.IsTuple a #[x, y] ∧ Reads h x d bs ∧ Reads h y e cs := by
  cases r with
  | @tuple a o vs n _ _ ho hc hd hr =>
    cases q : vs.toList with
    | nil => rw [q] at hr; cases hr
    | cons x t =>
      rw [q] at hr
      cases hr with
      | cons r1 r2 =>
        cases t with
        | nil => cases r2
        | cons y t2 =>
          cases r2 with
          | cons r3 r4 =>
            cases r4
            have e : vs = #[x, y] := by
              have z := congrArg List.toArray q
              simpa using z
            subst e
            exact ⟨a, x, y, _, _, rfl, ⟨o, ho, hc, n, hd⟩, r1, r3⟩
theorem reads_at {h : Heap} : ∀ {vs : List Value} {k : LKey} {as : List Addr}, ReadsAll h vs (k.map tagD) as → vs.length = k.length ∧ ∀ j (h1 : j < vs.length) (h2 : j < k.length), ∃ bs, Reads h vs[j] (tagD k[j]) bs
  | vs, [], as, r => by
    cases r
    exact ⟨rfl, fun j h1 => absurd h1 (Nat.not_lt_zero j)⟩
  | vs, a :: k, as, r => by
    cases r with
    | cons r1 r2 =>
      obtain ⟨e, ih⟩ := reads_at r2
      refine ⟨by rw [List.length_cons, List.length_cons, e], fun j h1 h2 => ?_⟩
      cases j with
      | zero => exact ⟨_, r1⟩
      | succ j => exact ih j (Nat.lt_of_succ_lt_succ h1) (Nat.lt_of_succ_lt_succ h2)
def kt : Key → Int
  | .inl _ => 0
  | .inr _ => 1
theorem tag_fields {h : Heap} {v : Value} {a : Key} {as : List Addr} (r : Reads h v (tagD a) as) : ∃ p t u bs, v = .ref p ∧ h.IsTuple p #[.int (kt a) t, u] ∧ Reads h u (kD a) bs := by
  cases a with
  | inl i =>
    obtain ⟨p, x, y, bs, cs, rfl, h1, h2, h3⟩ := reads_two r
    cases h2
    exact ⟨p, _, y, _, rfl, h1, h3⟩
  | inr z =>
    obtain ⟨p, x, y, bs, cs, rfl, h1, h2, h3⟩ := reads_two r
    cases h2
    exact ⟨p, _, y, _, rfl, h1, h3⟩
theorem lex_klt : ∀ (a b : LKey) (e r : Nat → Bool), (∀ j (h1 : j < a.length) (h2 : j < b.length), e j = decide (a[j] = b[j])) → (∀ j (h1 : j < a.length) (h2 : j < b.length), e j = false → r j = lt1 a[j] b[j]) →
    ∀ z : Bool, Ob.lexAt e r z 0 (min a.length b.length) = if a.take b.length = b.take a.length then z else klt a b
  | [], b, e, r, _, _, z => by
    rw [List.length_nil, Nat.zero_min, Ob.lexAt_zero]
    simp
  | a :: s, [], e, r, _, _, z => by
    rw [List.length_nil, Nat.min_zero, Ob.lexAt_zero]
    simp
  | a :: s, b :: q, e, r, he, hr, z => by
    have shift : ∀ (k i : Nat), Ob.lexAt e r z (i + 1) k = Ob.lexAt (fun j => e (j + 1)) (fun j => r (j + 1)) z i k := by
      intro k
      induction k with
      | zero => intro i; rfl
      | succ k ih => intro i; rw [Ob.lexAt_succ, Ob.lexAt_succ, ih]
    rw [List.length_cons, List.length_cons, Nat.succ_min_succ, Ob.lexAt_succ]
    have e0 : e 0 = decide (a = b) := he 0 (Nat.succ_pos _) (Nat.succ_pos _)
    have ih := lex_klt s q (fun j => e (j + 1)) (fun j => r (j + 1)) (fun j h1 h2 => he (j + 1) (Nat.succ_lt_succ h1) (Nat.succ_lt_succ h2)) (fun j h1 h2 => hr (j + 1) (Nat.succ_lt_succ h1) (Nat.succ_lt_succ h2)) z
    by_cases q0 : a = b
    · subst q0
      rw [if_pos (by rw [e0]; exact decide_eq_true rfl), shift, ih, klt, if_pos rfl]
      simp only [List.take_succ_cons, List.cons.injEq, true_and]
    · rw [if_neg (by rw [e0]; simp [q0]), hr 0 (Nat.succ_pos _) (Nat.succ_pos _) (by rw [e0]; exact decide_eq_false q0), klt, if_neg q0, if_neg (by simp [q0])]
      rfl
theorem klt_pre : ∀ {a b : LKey}, a.take b.length = b.take a.length → klt a b = decide (a.length < b.length)
  | [], [], _ => rfl
  | [], _ :: _, _ => by simp [klt]
  | _ :: _, [], _ => by simp [klt]
  | a :: r, b :: q, h => by
    simp only [List.length_cons, List.take_succ_cons, List.cons.injEq] at h
    rw [klt, if_pos h.1, klt_pre h.2, List.length_cons, List.length_cons]
    exact decide_eq_decide.mpr (by omega)
theorem kle_pre : ∀ {a b : LKey}, a.take b.length = b.take a.length → kle a b = decide (a.length ≤ b.length) := fun {a b} h => by
  unfold kle
  rw [klt_pre h.symm]
  by_cases q : b.length < a.length
  · simp [q]
  · simp [q]; omega
theorem kle_nopre {a b : LKey} (h : ¬ a.take b.length = b.take a.length) : kle a b = klt a b := by
  unfold kle
  rcases klt_tri a b with q | q | q
  · rw [q, klt_asym q]; rfl
  · subst q; exact absurd rfl h
  · rw [q, klt_asym q]; rfl
theorem lt_pre' {a b : LKey} (h : a.take b.length = b.take a.length) : klt a b = decide (a.length < b.length) := klt_pre h
theorem le_pre' {a b : LKey} (h : a.take b.length = b.take a.length) : kle a b = decide (a.length ≤ b.length) := kle_pre h
theorem not_ltL {x y : Str} (h : x ≠ y) : (!decide (y.cps.toList < x.cps.toList)) = decide (x.cps.toList < y.cps.toList) := by
  have z := lt1_tri (.inr x) (.inr y)
  simp only [lt1, decide_eq_true_eq, Sum.inr.injEq] at z
  rcases z with z | z | z
  · have q : decide (y.cps.toList < x.cps.toList) = false := lt1_asym (a := .inr x) (b := .inr y) (decide_eq_true z)
    rw [q, decide_eq_true z]; rfl
  · exact absurd z h
  · have q : decide (x.cps.toList < y.cps.toList) = false := lt1_asym (a := .inr y) (b := .inr x) (decide_eq_true z)
    rw [q, decide_eq_true z]; rfl

theorem partlt {A : Around} {s : Shared} {a b : Key} {x y : Value} {as bs : List Addr} (r1 : Reads s.heap x (kD a) as) (r2 : Reads s.heap y (kD b) bs) (ht : kt a = kt b) (hne : a ≠ b) :
    Ob.RcOp .Lt A s x y (lt1 a b) := by
  cases a with
  | inl i =>
    cases b with
    | inl j =>
      cases r1
      cases r2
      have e : decide (i < j) = lt1 (.inl i) (.inl j) := decide_eq_decide.mpr (by have : i ≠ j := fun z => hne (by rw [z]); omega)
      exact fun _ _ _ _ h => PyProof.Rows.lt_int (by rw [e]; exact h)
    | inr y => exact absurd ht (by simp [kt])
  | inr z =>
    cases b with
    | inl j => exact absurd ht (by simp [kt])
    | inr w =>
      cases r1
      cases r2
      exact fun _ _ _ _ h => PySem.P.lt_str (by
        exact h)
theorem taglt {A : Around} {s : Shared} {a b : Key} {x y : Value} {as bs : List Addr} (r1 : Reads s.heap x (tagD a) as) (r2 : Reads s.heap y (tagD b) bs) (o1 : ok1 a = true) (o2 : ok1 b = true) (hu : A.units + 4 < cLine) (hne : a ≠ b) :
    Ob.RcOp .Lt A s x y (lt1 a b) := by
  obtain ⟨p, t, u, cs, rfl, h1, h2⟩ := tag_fields r1
  obtain ⟨q, t', u', cs', rfl, h3, h4⟩ := tag_fields r2
  generalize e1 : kt a = ta at h1
  generalize e2 : kt b = tb at h3
  have main := rclt (A := A) (s := s) (e := fun j => if j = 0 then decide (ta = tb) else decide (a = b)) (r := fun j => if j = 0 then decide (ta < tb) else lt1 a b) h1 h3 (by omega) (fun j j1 j2 hm => ?_) (fun j j1 j2 hm hj => ?_)
  · have val : Ob.lexAt (fun j => if j = 0 then decide (ta = tb) else decide (a = b)) (fun j => if j = 0 then decide (ta < tb) else lt1 a b) (decide ((#[Value.int ta t, u] : Array Value).size < (#[Value.int tb t', u'] : Array Value).size)) 0 (min (#[Value.int ta t, u] : Array Value).size (#[Value.int tb t', u'] : Array Value).size) = lt1 a b := by
      show Ob.lexAt _ _ _ 0 2 = _
      rw [Ob.lexAt_succ, Ob.lexAt_succ, Ob.lexAt_zero]
      simp only [if_true, Nat.zero_add, Nat.one_ne_zero, if_false, hne, decide_false, Bool.false_eq_true]
      by_cases q : ta = tb
      · simp [q]
      · simp only [q, decide_false, Bool.false_eq_true, if_false]
        subst e1 e2
        cases a <;> cases b <;> simp [lt1, kt] at q ⊢
    rw [val] at main
    exact main
  · match j, j1, j2 with
    | 0, _, _ =>
      show SeqAt.EqAt A.in1 s (.int ta t) (.int tb t') (decide (ta = tb))
      rw [← Bool.beq_eq_decide_eq]
      exact SeqAt.EqAt.int_int ta t tb t'
    | 1, _, _ =>
      show SeqAt.EqAt A.in1 s u u' (decide (a = b))
      rw [← kD_inj]
      exact SeqAt.eqAt_reads _ _ _ _ _ _ _ _ h2 h4 (kD_lay o1) (kD_lay o2) (by rw [kD_depth]; show A.units + 1 + min 0 _ < _; omega)
    | j + 2, j1, _ => exact absurd j1 (by show ¬ j + 2 < 2; omega)
  · match j, j1, j2 with
    | 0, _, _ => exact Ob.RcOp.lt_int ta tb t t'
    | 1, _, _ =>
      have ht := of_decide_eq_true (hm 0 (by omega))
      exact partlt h2 h4 (by rw [e1, e2]; exact ht) hne
    | j + 2, j1, _ => exact absurd j1 (by show ¬ j + 2 < 2; omega)
theorem ordlt {A : Around} {s : Shared} {a b : LKey} {x y : Value} {as bs : List Addr} (r1 : Reads s.heap x (ordD a) as) (r2 : Reads s.heap y (ordD b) bs) (o1 : okK a = true) (o2 : okK b = true) (hu : A.units + 8 < cLine) :
    Ob.RcOp .Lt A s x y (klt a b) := by
  cases r1 with
  | @tuple p o vs n _ _ h1 h2 h3 h4 =>
    cases r2 with
    | @tuple q o' ws n' _ _ k1 k2 k3 k4 =>
      obtain ⟨l1, g1⟩ := reads_at h4
      obtain ⟨l2, g2⟩ := reads_at k4
      have z1 : vs.size = a.length := by rw [← Array.length_toList]; exact l1
      have z2 : ws.size = b.length := by rw [← Array.length_toList]; exact l2
      have okA : ∀ j (h : j < a.length), ok1 a[j] = true := fun j h => List.all_eq_true.mp o1 _ (List.getElem_mem h)
      have okB : ∀ j (h : j < b.length), ok1 b[j] = true := fun j h => List.all_eq_true.mp o2 _ (List.getElem_mem h)
      have main := rclt (A := A) (s := s) (e := fun j => decide (a[j]? = b[j]?)) (r := fun j => lt1 (a.getD j (.inl 0)) (b.getD j (.inl 0))) (show s.heap.IsTuple p vs from ⟨o, h1, h2, n, h3⟩) (show s.heap.IsTuple q ws from ⟨o', k1, k2, n', k3⟩) (by omega) (fun j j1 j2 hm => ?_) (fun j j1 j2 hm hj => ?_)
      · rw [z1, z2, lex_klt a b _ _ (fun j h h' => by simp [h, h']) (fun j h h' _ => by simp [List.getD, h, h'])] at main
        by_cases t : a.take b.length = b.take a.length
        · rw [if_pos t] at main
          rw [lt_pre' t]
          exact main
        · rw [if_neg t] at main
          exact main
      · obtain ⟨cs, c1⟩ := g1 j (by simpa using j1) (by omega)
        obtain ⟨ds, c2⟩ := g2 j (by simpa using j2) (by omega)
        have ja : j < a.length := by omega
        have jb : j < b.length := by omega
        have ev : decide (a[j]? = b[j]?) = PyData.eqv (tagD a[j]) (tagD b[j]) := by rw [tagD_eqv]; simp [ja, jb]
        show SeqAt.EqAt A.in1 s vs[j] ws[j] (decide (a[j]? = b[j]?))
        rw [ev]
        refine SeqAt.eqAt_reads _ _ _ _ _ _ _ _ (by simpa using c1) (by simpa using c2) (tagD_lay (okA j ja)) (tagD_lay (okB j jb)) ?_
        rw [tagD_depth, tagD_depth]
        show A.units + 1 + 1 < _
        omega
      · obtain ⟨cs, c1⟩ := g1 j (by simpa using j1) (by omega)
        obtain ⟨ds, c2⟩ := g2 j (by simpa using j2) (by omega)
        have ja : j < a.length := by omega
        have jb : j < b.length := by omega
        have ne : a[j] ≠ b[j] := by
          have z := of_decide_eq_false hj
          simpa [ja, jb] using z
        have ev : lt1 (a.getD j (.inl 0)) (b.getD j (.inl 0)) = lt1 a[j] b[j] := by simp [List.getD, ja, jb]
        show Ob.RcOp .Lt A.in1 s vs[j] ws[j] (lt1 (a.getD j (.inl 0)) (b.getD j (.inl 0)))
        rw [ev]
        exact taglt (by simpa using c1) (by simpa using c2) (okA j ja) (okB j jb) (by show A.units + 1 + 4 < _; omega) ne

theorem partle {A : Around} {s : Shared} {a b : Key} {x y : Value} {as bs : List Addr} (r1 : Reads s.heap x (kD a) as) (r2 : Reads s.heap y (kD b) bs) (ht : kt a = kt b) (hne : a ≠ b) :
    Ob.RcOp .LtE A s x y (lt1 a b) := by
  cases a with
  | inl i =>
    cases b with
    | inl j =>
      cases r1
      cases r2
      have e : decide (i ≤ j) = lt1 (.inl i) (.inl j) := decide_eq_decide.mpr (by have : i ≠ j := fun z => hne (by rw [z]); omega)
      exact fun _ _ _ _ h => PyProof.Rows.le_int (by rw [e]; exact h)
    | inr y => exact absurd ht (by simp [kt])
  | inr z =>
    cases b with
    | inl j => exact absurd ht (by simp [kt])
    | inr w =>
      cases r1
      cases r2
      exact fun _ _ _ _ h => PySem.P.le_str (by
        rw [not_ltL (fun z => hne (by rw [z]))]; exact h)
theorem tagle {A : Around} {s : Shared} {a b : Key} {x y : Value} {as bs : List Addr} (r1 : Reads s.heap x (tagD a) as) (r2 : Reads s.heap y (tagD b) bs) (o1 : ok1 a = true) (o2 : ok1 b = true) (hu : A.units + 4 < cLine) (hne : a ≠ b) :
    Ob.RcOp .LtE A s x y (lt1 a b) := by
  obtain ⟨p, t, u, cs, rfl, h1, h2⟩ := tag_fields r1
  obtain ⟨q, t', u', cs', rfl, h3, h4⟩ := tag_fields r2
  generalize e1 : kt a = ta at h1
  generalize e2 : kt b = tb at h3
  have main := rcle (A := A) (s := s) (e := fun j => if j = 0 then decide (ta = tb) else decide (a = b)) (r := fun j => if j = 0 then decide (ta ≤ tb) else lt1 a b) h1 h3 (by omega) (fun j j1 j2 hm => ?_) (fun j j1 j2 hm hj => ?_)
  · have val : Ob.lexAt (fun j => if j = 0 then decide (ta = tb) else decide (a = b)) (fun j => if j = 0 then decide (ta ≤ tb) else lt1 a b) (decide ((#[Value.int ta t, u] : Array Value).size ≤ (#[Value.int tb t', u'] : Array Value).size)) 0 (min (#[Value.int ta t, u] : Array Value).size (#[Value.int tb t', u'] : Array Value).size) = lt1 a b := by
      show Ob.lexAt _ _ _ 0 2 = _
      rw [Ob.lexAt_succ, Ob.lexAt_succ, Ob.lexAt_zero]
      simp only [if_true, Nat.zero_add, Nat.one_ne_zero, if_false, hne, decide_false, Bool.false_eq_true]
      by_cases q : ta = tb
      · simp [q]
      · simp only [q, decide_false, Bool.false_eq_true, if_false]
        subst e1 e2
        cases a <;> cases b <;> simp [lt1, kt] at q ⊢
    rw [val] at main
    exact main
  · match j, j1, j2 with
    | 0, _, _ =>
      show SeqAt.EqAt A.in1 s (.int ta t) (.int tb t') (decide (ta = tb))
      rw [← Bool.beq_eq_decide_eq]
      exact SeqAt.EqAt.int_int ta t tb t'
    | 1, _, _ =>
      show SeqAt.EqAt A.in1 s u u' (decide (a = b))
      rw [← kD_inj]
      exact SeqAt.eqAt_reads _ _ _ _ _ _ _ _ h2 h4 (kD_lay o1) (kD_lay o2) (by rw [kD_depth]; show A.units + 1 + min 0 _ < _; omega)
    | j + 2, j1, _ => exact absurd j1 (by show ¬ j + 2 < 2; omega)
  · match j, j1, j2 with
    | 0, _, _ => exact Ob.RcOp.le_int ta tb t t'
    | 1, _, _ =>
      have ht := of_decide_eq_true (hm 0 (by omega))
      exact partle h2 h4 (by rw [e1, e2]; exact ht) hne
    | j + 2, j1, _ => exact absurd j1 (by show ¬ j + 2 < 2; omega)
theorem ordle {A : Around} {s : Shared} {a b : LKey} {x y : Value} {as bs : List Addr} (r1 : Reads s.heap x (ordD a) as) (r2 : Reads s.heap y (ordD b) bs) (o1 : okK a = true) (o2 : okK b = true) (hu : A.units + 8 < cLine) :
    Ob.RcOp .LtE A s x y (kle a b) := by
  cases r1 with
  | @tuple p o vs n _ _ h1 h2 h3 h4 =>
    cases r2 with
    | @tuple q o' ws n' _ _ k1 k2 k3 k4 =>
      obtain ⟨l1, g1⟩ := reads_at h4
      obtain ⟨l2, g2⟩ := reads_at k4
      have z1 : vs.size = a.length := by rw [← Array.length_toList]; exact l1
      have z2 : ws.size = b.length := by rw [← Array.length_toList]; exact l2
      have okA : ∀ j (h : j < a.length), ok1 a[j] = true := fun j h => List.all_eq_true.mp o1 _ (List.getElem_mem h)
      have okB : ∀ j (h : j < b.length), ok1 b[j] = true := fun j h => List.all_eq_true.mp o2 _ (List.getElem_mem h)
      have main := rcle (A := A) (s := s) (e := fun j => decide (a[j]? = b[j]?)) (r := fun j => lt1 (a.getD j (.inl 0)) (b.getD j (.inl 0))) (show s.heap.IsTuple p vs from ⟨o, h1, h2, n, h3⟩) (show s.heap.IsTuple q ws from ⟨o', k1, k2, n', k3⟩) (by omega) (fun j j1 j2 hm => ?_) (fun j j1 j2 hm hj => ?_)
      · rw [z1, z2, lex_klt a b _ _ (fun j h h' => by simp [h, h']) (fun j h h' _ => by simp [List.getD, h, h'])] at main
        by_cases t : a.take b.length = b.take a.length
        · rw [if_pos t] at main
          rw [le_pre' t]
          exact main
        · rw [if_neg t] at main
          rw [kle_nopre t]
          exact main
      · obtain ⟨cs, c1⟩ := g1 j (by simpa using j1) (by omega)
        obtain ⟨ds, c2⟩ := g2 j (by simpa using j2) (by omega)
        have ja : j < a.length := by omega
        have jb : j < b.length := by omega
        have ev : decide (a[j]? = b[j]?) = PyData.eqv (tagD a[j]) (tagD b[j]) := by rw [tagD_eqv]; simp [ja, jb]
        show SeqAt.EqAt A.in1 s vs[j] ws[j] (decide (a[j]? = b[j]?))
        rw [ev]
        refine SeqAt.eqAt_reads _ _ _ _ _ _ _ _ (by simpa using c1) (by simpa using c2) (tagD_lay (okA j ja)) (tagD_lay (okB j jb)) ?_
        rw [tagD_depth, tagD_depth]
        show A.units + 1 + 1 < _
        omega
      · obtain ⟨cs, c1⟩ := g1 j (by simpa using j1) (by omega)
        obtain ⟨ds, c2⟩ := g2 j (by simpa using j2) (by omega)
        have ja : j < a.length := by omega
        have jb : j < b.length := by omega
        have ne : a[j] ≠ b[j] := by
          have z := of_decide_eq_false hj
          simpa [ja, jb] using z
        have ev : lt1 (a.getD j (.inl 0)) (b.getD j (.inl 0)) = lt1 a[j] b[j] := by simp [List.getD, ja, jb]
        show Ob.RcOp .LtE A.in1 s vs[j] ws[j] (lt1 (a.getD j (.inl 0)) (b.getD j (.inl 0)))
        rw [ev]
        exact tagle (by simpa using c1) (by simpa using c2) (okA j ja) (okB j jb) (by show A.units + 1 + 4 < _; omega) ne
end G

/-! enumerate(t), t a tuple. -/
namespace G
open PySem
open PySem.AutoSeq1 (wpAny_loadPart')
theorem meetsEnumT (l : Addr) (items : Array Value) (n : Nat) (dct : Option Addr) (sl : Array (Option Value)) :
    Meets (Builtin.«enumerate.__new__» ⟨[.type "enumerate", .ref l], []⟩) (fun _ R s => s.heap.get? l = some { cls := .type "tuple", dict := dct, data := .seq items n, slots := sl } ∧
      R (.ok (.ret (.ref (s.heap.push { cls := .type "tuple_iterator", data := .fields #[.ref l, .int 0 0] }).objs.size)))
        { s with heap := (s.heap.push { cls := .type "tuple_iterator", data := .fields #[.ref l, .int 0 0] }).push { cls := .type "enumerate", data := .fields #[.none, .bool false, .ref s.heap.objs.size, rawInt 0, .none, .none] } }) :=
  .of_wp fun prog w A R s h => by
    obtain ⟨hp, g, d, tk, os⟩ := s
    obtain ⟨hl, h⟩ := h
    have hsub := sub_enumerate
    have hT : Heap.IsTuple (Shared.heap ⟨hp, g, d, tk, os⟩) l items := ⟨_, hl, rfl, n, rfl⟩
    wp_walk using wpAny_loadPart' hl
    refine wpAny_stack_any fun st => wpAny_pure ?_
    split
    · rename_i c _ _ _ _ _
      cases (c == Value.type "enumerate") <;>
      · wp_walk using wpAny_loadPart' hl, wpAny_pyIter_tuple hT
        exact ⟨_, rfl, h⟩
    · wp_walk using wpAny_loadPart' hl, wpAny_pyIter_tuple hT
      exact ⟨_, rfl, h⟩
theorem callEnumT {prog : Program} {w : World} {A : Around} {E : Value → Shared → Prop} {s : Shared} {l : Addr} {items : Array Value} {Q : Value → Shared → Prop} (hT : s.heap.IsTuple l items)
    (h : ∀ h', IsEnum h' (s.heap.objs.size + 1) s.heap.objs.size 0 .none → h'.IsTupleIter s.heap.objs.size l 0 → (∀ b o, s.heap.get? b = some o → h'.get? b = some o) → Q (.ref (s.heap.objs.size + 1)) { s with heap := h' }) :
    wpAny (model prog w) A (call (.type "enumerate") [.ref l]) Q E s := by
  obtain ⟨⟨c, dct, dt, sl⟩, hl, hc, n, hd⟩ := hT
  obtain rfl : c = .type "tuple" := hc
  obtain rfl : dt = .seq items n := hd
  refine callType_new F.called_enumerate (by decide) (F.typeCall_enumerate_1 _) (F.newCall_enumerate_1 _) (fun obj => F.args_object_init_2 obj _) F.entry_enumerate_new (meetsEnumT l items n dct sl) ⟨hl, ?_⟩
  have e1 : (s.heap.push { cls := .type "tuple_iterator", data := .fields #[.ref l, .int 0 0] }).objs.size = s.heap.objs.size + 1 := Heap.size_push ..
  show _ ∧ _
  rw [e1]
  have he : IsEnum ((s.heap.push { cls := .type "tuple_iterator", data := .fields #[.ref l, .int 0 0] }).push { cls := .type "enumerate", data := .fields #[.none, .bool false, .ref s.heap.objs.size, rawInt 0, .none, .none] }) (s.heap.objs.size + 1) s.heap.objs.size 0 .none := by
    have q := Heap.get?_push_size (s.heap.push { cls := .type "tuple_iterator", data := .fields #[.ref l, .int 0 0] }) (o := { cls := .type "enumerate", data := .fields #[.none, .bool false, .ref s.heap.objs.size, rawInt 0, .none, .none] }) rfl
    rw [e1] at q
    exact q
  exact ⟨⟨_, he, rfl⟩, h _ he ⟨_, Heap.get?_push_of_some _ (Heap.get?_push_size _ rfl), rfl, rfl⟩ fun b o x => Heap.get?_push_of_some _ (Heap.get?_push_of_some _ x)⟩
end G
namespace G
open PySem PySem.Spec PyProof.Rows L2
/-- the tuple at a, each item in a new pair with its number -/
def Iet (K : PySem.W.Frag) (a : Addr) : It :=
  ⟨fun i H => ∃ (xs : List V) (x : V), SqT K H a xs ∧ xs[i]? = some x, fun i H v H' => ∃ T x, v = .ref T ∧ H T = none ∧ H' = upd H T (.tup [.int (i : Nat), x]) ∧ ∀ xs, SqT K H a xs → xs[i]? = some x, fun i H => ∃ xs : List V, SqT K H a xs ∧ xs.length ≤ i⟩
theorem turnEnumT {P : Program} {w : World} {K : PySem.W.Frag} {elts : List Expr} {kk : Nat} {tpos : Pos} (a e it : Addr) :
    Turn P w K (.Tuple elts kk tpos) (Iet K a) [e, it] e (fun i h => (∃ old, IsEnum h e it ((i : Nat) : Int) old) ∧ h.IsTupleIter it a i ∧ e ≠ it ∧ it ≠ a ∧ e ≠ a) where
  mem := by simp
  obj := fun i h st b hb => by
    obtain ⟨⟨old, he⟩, ⟨o, ho, hc, hd⟩, _⟩ := st
    rcases (by simpa using hb : b = e ∨ b = it) with rfl | rfl
    · exact ⟨_, he, fun v q => nomatch q⟩
    · exact ⟨o, ho, fun v q => by rw [hd] at q; cases q⟩
  keep := fun i h h' st k => let ⟨⟨old, he⟩, hi, hne⟩ := st; ⟨⟨old, k e (by simp) _ he⟩, hi.at fun o q => k it (by simp) o q, hne⟩
  item := by
    intro X hP hw hK hc i pins s σ H E I hf st hg
    subst hP hw hK
    obtain ⟨⟨old, he⟩, hit, hne, ha, hea⟩ := st
    obtain ⟨xs, x, hq, hx⟩ := hg
    obtain ⟨its, rv, p, hz⟩ := I.tuple hq
    obtain ⟨u, hu, ru⟩ := rv.get hx
    have hil : i < its.length := (List.getElem?_eq_some_iff.mp hu).1
    have D := Draws.tuple (prog := X.prog) (w := X.w) (A := X.A.in1) (I.ok.hd hc) it a (Ne.symm ha) its.toArray
    refine wpAny_pyNext_enum_itemD D he ⟨hit, p⟩ (by simpa using hil) hne (by simp [hne, hea]) fun x' h' tk hx' ho hit' hT hsz hk => ?_
    obtain rfl : x' = u := by
      have q : its.toArray[i]? = some x' := hx'
      simp only [List.getElem?_toArray, hu, Option.some.injEq] at q
      exact q.symm
    refine ⟨_, rfl, wpAny_letOwnedTupleGo_enum (s := { s with heap := h', toks := tk + 1 }) ho fun h'' he' sb => ?_⟩
    have lt1 : e < s.heap.objs.size := Heap.lt_size he
    have lt2 : it < s.heap.objs.size := by obtain ⟨_, q, _⟩ := hit; exact Heap.lt_size q
    have hT2 : h''.get? s.heap.objs.size = some { cls := .type "tuple", data := .seq #[.int i tk, x'] } := (sb.2 _ (Nat.ne_of_gt lt1)).trans hT
    have new : ObjOk X.prog X.w (upd H s.heap.objs.size (.tup [.int (i : Nat), x])) h'' s.heap.objs.size (.tup [.int (i : Nat), x]) :=
      ⟨by show 2 ≤ sizeLine; decide, [.int i tk, x'], .cons ⟨_, rfl⟩ (.cons ru .nil), ⟨_, hT2, rfl, _, rfl⟩⟩
    have I1 : Inv X pins σ (upd H s.heap.objs.size (.tup [.int (i : Nat), x])) { s with heap := h'', toks := tk + 1 } :=
      I.turnedNew (ch := [e, it]) (fun b ob hb q => (sb.2 b (fun z => hb (by simp [z]))).trans (hk b ob (fun z => hb (by simp [z])) (fun z => hb (by simp [z])) q)) hf (Nat.le_refl _) new
    refine ⟨.ref s.heap.objs.size, _, I1, rfl, ⟨_, x, rfl, I.hok.fresh (Nat.le_refl _), rfl, fun ys hy => by rw [I.tuple_inj hy hq]; exact hx⟩, ⟨⟨x', ?_⟩, hit'.1.at fun o q => (sb.2 it (Ne.symm hne)).trans q, hne, ha, hea⟩, fun b hb => ?_⟩
    · rw [show ((i + 1 : Nat) : Int) = (i : Int) + 1 by omega]
      exact he'
    · have hb' : b < s.heap.objs.size := by
        rcases (by simpa using hb : b = e ∨ b = it) with rfl | rfl
        · exact lt1
        · exact lt2
      rw [upd_ne (Nat.ne_of_lt hb')]
      exact (hf b hb).1
  done := by
    intro X hP hw hK hc i pins s σ H E I hf st hg
    subst hP hw hK
    obtain ⟨⟨old, he⟩, hit, hne, ha, hea⟩ := st
    obtain ⟨xs, hq, hx⟩ := hg
    obtain ⟨its, rv, p, hz⟩ := I.tuple hq
    obtain ⟨f0, f1, f2, f3, f4, f5⟩ := hf it (by simp)
    have hl := rv.length
    have hT : s.TypeIs (.ref e) "enumerate" := ⟨_, he, rfl⟩
    unfold pyNext
    refine wpAny_bind (wpAny_attempt (wpAny_callSpecial?_slot (name := Str.ofString "__next__") hT F.slot_enumerate_next (wpAny_call_entry F.slot_enumerate_next hT F.entry_enumerate_next ?_ (F.args_enumerate_next_1 _))))
    show wpAny _ _ (field (.ref e) 2 >>= _) _ _ _
    refine wpAny_bind (wpAny_field he rfl (x := .ref it) rfl ?_)
    refine wpAny_bind (wpAny_nextOf_tuple_end (I.ok.hd hc) hit p (by simp; omega) fun h' x he' hx' => ?_)
    obtain ⟨o, ho, hcl⟩ := hx'
    refine wpAny_bind (wpAny_isInstance (T := "StopIteration") (b := true) ⟨o, ho, hcl⟩ isSubtype_stop ?_)
    exact wpAny_pure ⟨rfl, I.turned (t' := s.toks) (fun b o hb q => he' b o hb q) f0 f1 f3 f4 f5⟩
  self := fun A i s Q E st h => let ⟨⟨_, he⟩, _⟩ := st; wpAny_pyIter_enum he h
def iEnumT (K : PySem.W.Frag) (ta : TA) : TI := fun σ H R => ta σ H fun vs H1 => ∃ a xs, vs = [.ref a] ∧ SqT K H1 a xs ∧ R (Iet K a) H1
theorem pi_enumT {X : Cx} {e : Expr} {ta : TA} {p pos tpos : Pos} {elts : List Expr} {kk : Nat} (hg : Gl X "enumerate") (hm : X.mg "enumerate" = none) (ha : PA X [e] ta) (hs : starEach [e] X.env = [(false, eval e X.env)] := by rfl) :
    PI X (.Tuple elts kk tpos) (.Call (.Name "enumerate" p) [e] [] pos) (iEnumT X.K ta) := by
  refine ⟨fun pins s σ H R I h => Call_ (ld_blt I hg hm boot_enumerate (PyProof.Rows.callWith_type1 (thn (ha.run pos pins s σ H _ I h) ?_) hs rfl))⟩
  rintro us s1 ⟨vs, H1, I1, r1, a, xs, rfl, hq, q⟩
  obtain rfl := Vals.ref1 r1
  obtain ⟨its, rv, p', hz⟩ := I1.tuple hq
  have lta : a < s1.heap.objs.size := p'.lt
  refine callEnumT p' fun h' he hit hk => wpAny_pyIter_enum he ?_
  refine ⟨s1.heap.objs.size + 1, [s1.heap.objs.size + 1, s1.heap.objs.size], _, _, H1, rfl, I1.kept (t' := s1.toks) hk, turnEnumT a (s1.heap.objs.size + 1) s1.heap.objs.size, ⟨⟨.none, he⟩, hit, Nat.succ_ne_self _, Nat.ne_of_gt lta, Nat.ne_of_gt (Nat.lt_succ_of_lt lta)⟩, fun b hb => ?_, q⟩
  have hle : s1.heap.objs.size ≤ b := by
    rcases (by simpa using hb : b = s1.heap.objs.size + 1 ∨ b = s1.heap.objs.size) with rfl | rfl
    · exact Nat.le_add_right _ _
    · exact Nat.le_refl _
  exact I1.fpOk hle (I1.hok.fresh hle)
theorem walkEnumT {K : PySem.W.Frag} {a : Addr} {xs : List V} : Walk (Iet K a) xs.length (fun H => SqT K H a xs) (YPair (fun i => some (.int (i : Nat))) (fun i => xs[i]?)) := by
  refine ⟨fun i _ hi q => ⟨xs, xs[i], q, by simp [hi]⟩, fun _ q => ⟨xs, q, Nat.le_refl _⟩, fun i H v H' _ q y => ?_⟩
  obtain ⟨T, x, h1, h2, h3, h4⟩ := y
  exact ⟨T, .int (i : Nat), x, h1, h2, h3, rfl, h4 xs q⟩
end G

/-! sorted(d, key=f): d a dict whose keys are tuples, f gives what order() gives. -/
namespace G
open PySem PySem.Spec PyProof.Rows L2 PySem.W
abbrev VT := PySem.Value
theorem tagD_inj {a b : Key} (h : tagD a = tagD b) : a = b := by
  cases a <;> cases b <;> simp [tagD] at h <;> simp [h]
theorem tagDs_inj : ∀ {a b : LKey}, a.map tagD = b.map tagD → a = b
  | [], [], _ => rfl
  | [], _ :: _, h => by cases h
  | _ :: _, [], h => by cases h
  | a :: r, b :: q, h => by
    rw [List.map_cons, List.map_cons] at h
    injection h with h1 h2
    rw [tagD_inj h1, tagDs_inj h2]
theorem ordD_inj {a b : LKey} (h : ordD a = ordD b) : a = b := tagDs_inj (by unfold ordD at h; injection h)
theorem tagDs_lay : ∀ {k : LKey}, okK k = true → PyData.canLayAll0 (k.map tagD) = true
  | [], _ => by simp [PyData.canLayAll0]
  | a :: r, h => by
    rw [List.map_cons, PyData.canLayAll0, tagD_lay (okK_cons h).1, tagDs_lay (okK_cons h).2]
    rfl
theorem ordD_lay {k : LKey} (h : okK k = true) : (ordD k).canLay0 = true := by
  unfold ordD
  rw [PyData.canLay0]
  exact tagDs_lay h
theorem ord_unique {h : Heap} {v : Value} {a b : LKey} {as bs : List Addr} (o1 : okK a = true) (o2 : okK b = true) (r1 : Reads h v (ordD a) as) (r2 : Reads h v (ordD b) bs) : a = b :=
  ordD_inj ((SeqAt.readOf_eq (ordD_lay o1) r1).symm.trans (SeqAt.readOf_eq (ordD_lay o2) r2))

noncomputable def ordKind (h : Heap) : PyProof.Rows.KeyKind where
  α := LKey
  blt := klt
  irrefl := klt_irr
  trans := fun _ _ _ h1 h2 => klt_trans h1 h2
  negTrans := fun a b c h => by
    rcases klt_tri a b with q | q | q
    · exact .inl q
    · rw [q] at h; exact .inr h
    · exact .inr (klt_trans q h)
  total := fun a b h1 h2 => by
    rcases klt_tri a b with q | q | q
    · rw [q] at h1; cases h1
    · exact q
    · rw [q] at h2; cases h2
  keyOf v := open Classical in if q : ∃ k : LKey, (okK k = true ∧ k ≠ []) ∧ ∃ as, Reads h v (ordD k) as then some q.choose else none
  dflt := ([] : LKey)
theorem ordKind_some {h : Heap} {v : Value} {k : LKey} {as : List Addr} (o : okK k = true) (n : k ≠ []) (r : Reads h v (ordD k) as) : (ordKind h).keyOf v = some k := by
  have q : ∃ k : LKey, (okK k = true ∧ k ≠ []) ∧ ∃ as, Reads h v (ordD k) as := ⟨k, ⟨o, n⟩, as, r⟩
  have e : (ordKind h).keyOf v = some q.choose := by
    show (open Classical in if q : ∃ k : LKey, (okK k = true ∧ k ≠ []) ∧ ∃ as, Reads h v (ordD k) as then some q.choose else none) = _
    rw [dif_pos q]
  obtain ⟨⟨h1, _⟩, as', h2⟩ := q.choose_spec
  rw [e, ord_unique h1 o h2 r]
theorem ordKind_inv {h : Heap} {v : Value} {k : LKey} (e : (ordKind h).keyOf v = some k) : okK k = true ∧ k ≠ [] ∧ ∃ as, Reads h v (ordD k) as := by
  by_cases q : ∃ k : LKey, (okK k = true ∧ k ≠ []) ∧ ∃ as, Reads h v (ordD k) as
  · have e' : (ordKind h).keyOf v = some q.choose := by
      show (open Classical in if q : ∃ k : LKey, (okK k = true ∧ k ≠ []) ∧ ∃ as, Reads h v (ordD k) as then some q.choose else none) = _
      rw [dif_pos q]
    obtain ⟨⟨h1, h2⟩, as', h3⟩ := q.choose_spec
    rw [e'] at e
    cases e
    exact ⟨h1, h2, as', h3⟩
  · have e' : (ordKind h).keyOf v = none := by
      show (open Classical in if q : ∃ k : LKey, (okK k = true ∧ k ≠ []) ∧ ∃ as, Reads h v (ordD k) as then some q.choose else none) = _
      rw [dif_neg q]
      rfl
    rw [e'] at e
    cases e
section
variable {prog : Program} {w : World} {A : Around} {s : Shared}
theorem katLexOrd {fin : Bool} {Q : Bool → Shared → Prop} : ∀ (a b : LKey) (i : Nat) (vs ws : List VT) (as bs : List Addr), ReadsAll s.heap vs (a.map tagD) as → ReadsAll s.heap ws (b.map tagD) bs → okK a = true → okK b = true → A.units + 8 < cLine →
    fin = decide (a.length < b.length) → Q (klt a b) s → KatLex prog w A false fin Q (vs.zip ws) i s
  | [], b, i, vs, ws, _, _, ra, rb, _, _, _, hf, hq => by
    cases ra
    rw [List.zip_nil_left]
    refine kat_nil ?_
    rw [hf]
    cases b <;> simpa [klt] using hq
  | a :: r, [], i, vs, ws, _, _, ra, rb, _, _, _, hf, hq => by
    cases rb
    rw [List.zip_nil_right]
    refine kat_nil ?_
    rw [hf]
    simpa [klt] using hq
  | a :: r, b :: q, i, vs, ws, _, _, ra, rb, oa, ob, hu, hf, hq => by
    cases ra with
    | cons r1 r2 =>
      cases rb with
      | cons k1 k2 =>
        rw [List.zip_cons_cons]
        have ev := SeqAt.eqAt_reads (A := A) _ _ _ _ _ _ _ r1 k1 (tagD_lay (okK_cons oa).1) (tagD_lay (okK_cons ob).1) (by rw [tagD_depth, tagD_depth]; show A.units + 1 < _; omega)
        rw [tagD_eqv] at ev
        refine kat_cons (ev prog w _ _ ?_)
        rw [klt] at hq
        by_cases e : a = b
        · rw [if_pos e] at hq
          rw [decide_eq_true e]
          exact kat_yes (katLexOrd r q (i + 1) _ _ _ _ r2 k2 (okK_cons oa).2 (okK_cons ob).2 hu (by rw [hf, List.length_cons, List.length_cons]; exact decide_eq_decide.mpr (by omega)) hq)
        · rw [if_neg e] at hq
          rw [decide_eq_false e]
          exact kat_no (kat_one _ _ (taglt r1 k1 (okK_cons oa).1 (okK_cons ob).1 (by omega) e prog w _ _ hq))
theorem ord_kat {h : Heap} : ∀ {vs : List VT} {ks : List LKey}, EachIs (fun v k => (okK k = true ∧ k ≠ []) ∧ ∃ as, Reads h v (ordD k) as) vs ks →
    ∃ fs, KatTups h vs fs ∧ fs.length = vs.length ∧ ∀ f ∈ fs, ∃ (a : Key) (as : List Addr), Reads h f (tagD a) as
  | _, _, .nil => ⟨[], KatTups.nil, rfl, fun f hf => nomatch hf⟩
  | _, _, .cons ⟨⟨o, n⟩, as, r⟩ t => by
    obtain ⟨fs, h1, h2, h3⟩ := ord_kat t
    rename_i b _ _
    cases b with
    | nil => exact absurd rfl n
    | cons x rest =>
      cases r with
      | @tuple p ob xs m _ _ ho hc hd hr =>
        cases q : xs.toList with
        | nil => rw [q] at hr; cases hr
        | cons f fr =>
          rw [q] at hr
          cases hr with
          | cons r1 r2 =>
            have hf : xs[0]? = some f := by rw [← Array.getElem?_toList, q]; rfl
            refine ⟨f :: fs, KatTups.cons ho hc hd hf h1, by rw [List.length_cons, List.length_cons, h2], fun g hg => ?_⟩
            rcases List.mem_cons.mp hg with rfl | hg
            · exact ⟨x, _, r1⟩
            · exact h3 g hg
theorem ord_sorts {vs : List VT} {ks : List LKey} (e : EachIs (fun v k => (okK k = true ∧ k ≠ []) ∧ ∃ as, Reads s.heap v (ordD k) as) vs ks) (hu : A.units + 8 < cLine) : SortsAt prog w A s (ordKind s.heap) vs := by
  refine ⟨fun v hv => ?_, tuples' false, ?_, fun h2 E Q hq => ?_⟩
  · obtain ⟨k, _, ⟨o, n⟩, as, r⟩ := e.left v hv
    exact ⟨k, ordKind_some o n r⟩
  · intro E x y a b Q ha hb hq
    obtain ⟨oa, na, as, ra⟩ := ordKind_inv ha
    obtain ⟨ob, nb, bs, rb⟩ := ordKind_inv hb
    have hq' : Q (klt a b) s := hq
    cases ra with
    | @tuple l o xs n _ _ h1 h2 h3 h4 =>
      cases rb with
      | @tuple l' o' xs' n' _ _ k1 k2 k3 k4 =>
        have n1 : xs.size = a.length := by rw [← Array.length_toList]; exact (reads_at h4).1
        have n2 : xs'.size = b.length := by rw [← Array.length_toList]; exact (reads_at k4).1
        exact kat_lt h1 h3 k1 k3 (katLexOrd a b 0 _ _ _ _ h4 k4 oa ob hu (by rw [n1, n2]) hq')
  · obtain ⟨fs, t1, t2, t3⟩ := ord_kat e
    refine kat_kind (T := .type "tuple") t1 (by omega) (fun f hf => ?_) (beq_self_eq_true _) hq
    obtain ⟨a, as, r⟩ := t3 f hf
    have z := looks_reads (M := model prog w) r
    cases a <;> exact z
end
end G

namespace G
open PySem PySem.Spec PyProof.Rows L2 PySem.W
/-- tracked objects alone matter -/
theorem HOk.trk {P : Program} {w : World} {H : Hp} {h h' : Heap} (x : HOk P w H h) (k : ∀ b o u, H b = some u → h.get? b = some o → h'.get? b = some o) : HOk P w H h' := fun a o e =>
  (x a o e).stay (fun b u hb q => by
    rcases hb with rfl | hb
    · exact k b u _ e q
    · exact k b u _ hb q) (fun _ q => q) fun _ _ q => q
/-- what order(key) promises -/
def spOrd : Sp := fun vs H Q _ => ∃ k v, vs = [v] ∧ KeyAt H v k ∧ k.length ≤ 1000 ∧ ∀ H' r, Fr S0 H H' → Td H' r (ordD k) → Q r H'
def rSortK (f : Addr) : List V → List V → Hp → VK → Prop := fun vs zs H Q => ∃ a kvs, vs = [.ref a] ∧ zs = [.ref f] ∧ H a = some (.dT kvs) ∧ (∀ p ∈ kvs, okK p.1 = true ∧ p.1 ≠ [] ∧ p.1.length ≤ 1000) ∧
  ∀ H' p xs, Fr S0 H H' → H p = none → H' p = some (.lst xs) → Paired (KeyAt H') xs ((kvs.map (·.1)).mergeSort kle) → Q (.ref p) H'
theorem each_get {α β : Type} {R : α → β → Prop} : ∀ {as : List α} {bs : List β}, EachIs R as bs → ∀ {i : Nat} {a : α}, as[i]? = some a → ∃ b, bs[i]? = some b ∧ R a b
  | _, _, .nil, _, _, e => by simp at e
  | _, _, .cons h t, 0, _, e => by cases e; exact ⟨_, rfl, h⟩
  | _, _, .cons h t, i + 1, _, e => each_get t (i := i) e
theorem each_split {β : Type} {R : Value → β → Prop} {S : V → β → Prop} : ∀ {vs : List Value} {bs : List β}, EachIs R vs bs → (∀ v b, R v b → ∃ x, RelV x v ∧ S x b) → ∃ xs, Vals xs vs ∧ Paired S xs bs
  | _, _, .nil, _ => ⟨[], .nil, .nil⟩
  | _, _, .cons h t, f => by
    obtain ⟨x, h1, h2⟩ := f _ _ h
    obtain ⟨xs, h3, h4⟩ := each_split t f
    exact ⟨x :: xs, .cons h1 h3, .cons h2 h4⟩
section
variable {fs ex : List Addr} {H Hn : Hp} {h h1 h2 : Heap} {a : Addr} {o : HO} {P : Program} {w : World}
theorem Un.off (u : Un fs ex H Hn h h1) (k : ∀ b o, (h.get? b).isSome = true → h1.get? b = some o → h2.get? b = some o) : Un fs ex H Hn h h2 where
  keep := fun b o e n h3 h4 => k b o (by rw [e]; rfl) (u.keep b o e n h3 h4)
  slot := fun b o e n h3 h4 => let ⟨sl, q⟩ := u.slot b o e n h3 h4; ⟨sl, k b _ (by rw [e]; rfl) q⟩
  free := u.free
  there := fun b o e h4 => let ⟨o', q⟩ := u.there b o e h4; ⟨o', k b _ (by rw [e]; rfl) q⟩
  tups := u.tups
  frzs := u.frzs
  tbls := u.tbls
theorem Un.add (u : Un fs ex H Hn h h1) (ha : h.get? a = none) (n : Hn a = none) : Un fs ex H (upd Hn a o) h h1 where
  keep := u.keep
  slot := u.slot
  free := fun b o e m hx => by rw [upd_ne (fun z => by rw [z, ha] at e; cases e)]; exact u.free b o e m hx
  there := u.there
  tups := fun b xs e => by rw [upd_ne (ne_of_none (u.tups b xs e) n)]; exact u.tups b xs e
  frzs := fun b ob xs e => by rw [upd_ne (ne_of_none (u.frzs b ob xs e) n)]; exact u.frzs b ob xs e
  tbls := fun b ps e => by
    obtain ⟨m, q⟩ := u.tbls b ps e
    exact ⟨m, by rw [upd_ne (ne_of_none q n)]; exact q⟩
theorem HOk.add (x : HOk P w H h) (n : H a = none) (new : ObjOk P w (upd H a o) h a o) : HOk P w (upd H a o) h := fun b u e => by
  by_cases hb : b = a
  · subst hb
    rw [upd_same] at e
    cases e
    exact new
  · rw [upd_ne hb] at e
    exact (x b u e).stay (fun _ _ _ q => q) (fun c q => by rw [upd_ne (ne_of_none q n)]; exact q) fun c xs q => by rw [upd_ne (ne_of_none q n)]; exact q
end
section
variable {X : Cx} {pins : List (Addr × Obj)} {σ : L2.St} {H : Hp} {s : Shared}
theorem ordRest {k : Nat} {f : Addr} {fd : FuncData} (F : Fg X.prog X.w X.K X.mg X.base CX0 k f fd ["key"] spOrd) (hr : GR k X.A.in1.in1) (hb : Binds X.K fd ["key"] []) (I : Inv X pins σ H s)
    {h2 : Heap} {tk aL kS e1 : Nat} {L : List Value} {ks : List LKey} {P : PySem.Fin → Shared → Prop} {E : Value → Shared → Prop} (k2 : ∀ b o, s.heap.get? b = some o → h2.get? b = some o)
    (nk0 : h2.get? kS = some (seqObj "list" #[] 0)) (na0 : h2.get? aL = some (seqObj "list" #[] e1)) (fa : aL ∉ frs X.stack) (fb : H aL = none) (fc : s.heap.get? aL = none) (ga : kS ∉ frs X.stack) (gb : H kS = none) (gc : s.heap.get? kS = none) (hne : kS ≠ aL)
    (kl : ks.length = L.length) (hZ : L.length ≤ sizeLine) (hk : ∀ k ∈ ks, okK k = true ∧ k ≠ [] ∧ k.length ≤ 1000)
    (hLk : ∀ (j : Nat) (v : Value), L[j]? = some v → ∃ (k : LKey) (b : Addr), ks[j]? = some k ∧ v = Value.ref b ∧ H b = some (.tup (k.map kV)))
    (hq : ∀ s', (∃ H' xs, Inv X pins σ H' s' ∧ Fr S0 H H' ∧ H' aL = some (.lst xs) ∧ Paired (KeyAt H') xs (ks.mergeSort kle)) → P (.done (.ret .none)) s') :
    wpAny (model X.prog X.w) X.A.in1.in1 (ksk_rest aL (.ref f) false L.toArray e1 (.ref kS)) P E { s with heap := h2, toks := tk } := by
  have I2 : Inv X pins σ H { s with heap := h2, toks := tk } := I.kept k2
  unfold ksk_rest
  refine wpAny_bind (wpAny_rule ?_)
  rw [List.forIn_toArray]
  refine wpAny_bind (ksk_fold (fun i s' => ∃ Hi kA e, s'.os = s.os ∧ AllBare s'.gens ∧ L2.Un (frs X.stack) [] H Hi s.heap s'.heap ∧ HOk X.prog X.w Hi s'.heap ∧ Fr S0 H Hi ∧ s'.heap.get? kS = some (seqObj "list" kA e) ∧ s'.heap.get? aL = some (seqObj "list" #[] e1) ∧ Hi kS = none ∧ Hi aL = none ∧
    EachIs (fun (v : Value) (k : LKey) => ∃ x, L2.RelV x v ∧ Td Hi x (ordD k)) kA.toList (ks.take i)) L 0 _ ?start ?step ?done)
  case start =>
    refine ⟨H, #[], 0, rfl, I.bare, Un.kept fun b o e => k2 b o e, I2.hok, Fr.refl _ _, nk0, na0, gb, fb, ?_⟩
    rw [List.take_zero]
    exact .nil
  case step =>
    rintro j v s' hv ⟨Hi, kA, e, os, bare, un, hok, fr, nk, na, hk0, ha0, each⟩
    simp only [Nat.zero_add] at each ⊢
    obtain ⟨k, b, hkj, rfl, hbk⟩ := hLk j v hv
    obtain ⟨okk, nek, lek⟩ := hk k (List.mem_of_getElem? hkj)
    have J : Inv X pins σ Hi s' := I.call' os un hok bare (fun b z => absurd z List.not_mem_nil)
    have hsz : kA.size ≤ L.length := by
      have z := each.length
      rw [Array.length_toList, List.length_take] at z
      omega
    have kat : KeyAt Hi (.ref b) k := ⟨b, rfl, fr.tup b _ hbk trivial⟩
    refine wpAny_bind (wpAny_attempt (wpAny_call (codeAny_mono (F.run X.A.in1.in1 X.stack s' Hi ⟨[.ref b], []⟩ [.ref b] [.ref b] (fun r H' => Fr S0 Hi H' ∧ Td H' r (ordD k)) E0 hr J.env0.in1.in1 (hb s' [.ref b] J.kIn rfl) (.cons rfl .nil)
      ⟨k, .ref b, rfl, kat, lek, fun H' r h1 h2 => ⟨h1, h2⟩⟩) ?_)))
    intro r s'' hres
    match r, hres with
    | .error e, hres => exact False.elim hres
    | .ok .next, hres => exact False.elim hres
    | .ok .brk, hres => exact False.elim hres
    | .ok .cont, hres => exact False.elim hres
    | .ok (.ret u), ⟨x, H', os', bare', un', hok', rx, fr', td⟩ =>
      have nk' : s''.heap.get? kS = some (seqObj "list" kA e) := un'.keep kS _ nk hk0 ga List.not_mem_nil
      have na' : s''.heap.get? aL = some (seqObj "list" #[] e1) := un'.keep aL _ na ha0 fa List.not_mem_nil
      have hk1 : H' kS = none := un'.free kS _ nk hk0 List.not_mem_nil
      have ha1 : H' aL = none := un'.free aL _ na ha0 List.not_mem_nil
      have sb := Heap.SameBut.update s''.heap kS (Obj.mapSeq (·.push u))
      obtain ⟨c2, hc2⟩ : ∃ c2, (s''.heap.update kS (Obj.mapSeq (·.push u))).get? kS = some (seqObj "list" (kA.push u) c2) := ⟨_, get?_update_seq nk' (·.push u)⟩
      dsimp only
      refine wpAny_bind (listUpdate_at nk' rfl ?_ (Nat.le_trans hsz hZ) (Nat.le_trans (Nat.le_of_eq (Array.size_push ..)) (Nat.succ_le_succ (Nat.le_trans hsz hZ))))
      refine wpAny_pure ⟨rfl, H', kA.push u, c2, os'.trans os, bare', Un.off (un.trans un') fun b o ho e => (sb.2 b (fun z => by rw [z, gc] at ho; cases ho)).trans e, HOk.trk hok' fun b o w hw e => (sb.2 b (fun z => by rw [z, hk1] at hw; cases hw)).trans e, fr.trans fr', hc2, (sb.2 aL hne.symm).trans na', hk1, ha1, ?_⟩
      have ek : ks.take (j + 1) = ks.take j ++ [k] := by rw [List.take_add_one, hkj]; rfl
      have ea : (kA.push u).toList = kA.toList ++ [u] := by simp
      rw [ea, ek]
      exact each_snoc (R := fun (v : Value) (k : LKey) => ∃ x, L2.RelV x v ∧ Td H' x (ordD k)) ⟨x, rx, td⟩ (each.mono fun v k ⟨x, h1, h2⟩ => ⟨x, h1, Td.keep fr'.tup _ _ h2⟩)
  case done =>
    rintro s' ⟨Hi, kA, e, os, bare, un, hok, fr, nk, na, hk0, ha0, each⟩
    rw [Nat.zero_add, ← kl, List.take_length] at each
    have J : Inv X pins σ Hi s' := I.call' os un hok bare (fun b z => absurd z List.not_mem_nil)
    have hsz : kA.size = L.length := by
      have z := each.length
      rw [Array.length_toList] at z
      omega
    refine wpAny_bind (listItems_at nk rfl ?_)
    have reads : EachIs (fun (v : Value) (k : LKey) => (okK k = true ∧ k ≠ []) ∧ ∃ as, Reads s'.heap v (ordD k) as) kA.toList ks := (each_mem each).mono fun v k ⟨⟨x, h1, h2⟩, hm⟩ => by
      obtain ⟨as, r⟩ := Dp.reads J (ordD k) x v (Td.dp (ordD k) x h2) h1
      exact ⟨⟨(hk k hm).1, (hk k hm).2.1⟩, as, r⟩
    have hu : X.A.in1.in1.units + 8 < cLine := by have := hr.rm.un; omega
    have hid : ∀ b o, (hideAll s'.heap [kS]).get? b = some o → s'.heap.get? b = some o := fun b o e => of_hideAll [kS] e
    refine keyH_end (κ := ordKind s'.heap) (h₁ := hideAll s'.heap [kS]) (fun b o _ e => hid b o e) (hideAll_none [kS] (by simp)) nk na hne (ord_sorts reads hu) hsz hZ fun h3 tk3 c kp3 na3 => hq _ ?_
    have lks : EachIs (fun (v : Value) (k : LKey) => ∃ b, v = Value.ref b ∧ H b = some (.tup (k.map kV))) L ks := by
      have go : ∀ (L : List Value) (ks : List LKey), ks.length = L.length → (∀ (j : Nat) (v : Value), L[j]? = some v → ∃ (k : LKey) (b : Addr), ks[j]? = some k ∧ v = Value.ref b ∧ H b = some (.tup (k.map kV))) → EachIs (fun (v : Value) (k : LKey) => ∃ b, v = Value.ref b ∧ H b = some (.tup (k.map kV))) L ks := by
        intro L
        induction L with
        | nil =>
          intro ks hl _
          cases ks with
          | nil => exact .nil
          | cons _ _ => cases hl
        | cons v L ih =>
          intro ks hl h
          cases ks with
          | nil => cases hl
          | cons k ks =>
            obtain ⟨k', b, e1, e2, e3⟩ := h 0 v rfl
            cases e1
            exact .cons ⟨b, e2, e3⟩ (ih ks (Nat.succ.inj hl) fun j v e => h (j + 1) v e)
      exact go L ks kl hLk
    have sorted := sortVals_each (κ := ordKind s'.heap) (rev := false) (fun k : LKey => (k : (ordKind s'.heap).α)) lks (reads.mono fun v k ⟨⟨h1, h2⟩, as, r⟩ => ordKind_some h1 h2 r)
    have ele : sortLe (ordKind s'.heap).toKeyOrd false (fun k : LKey => (k : (ordKind s'.heap).α)) = kle := rfl
    rw [ele] at sorted
    obtain ⟨xs, vx, pk⟩ := each_split (S := fun x k => ∃ b, x = V.ref b ∧ H b = some (.tup (k.map kV))) sorted fun v k ⟨b, h1, h2⟩ => ⟨.ref b, h1, b, rfl, h2⟩
    have fr3 : Fr S0 H (upd Hi aL (.lst xs)) := fr.trans (Fr.new ha0)
    have kept : ∀ b o, b ≠ aL → b ≠ kS → s'.heap.get? b = some o → h3.get? b = some o := fun b o h1 h2 e => kp3 b o h1 (hideAll_get [kS] e (by simpa using h2))
    refine ⟨upd Hi aL (.lst xs), xs, I.call' os (Un.add (Un.off un fun b o ho e => kept b o (fun z => by rw [z, fc] at ho; cases ho) (fun z => by rw [z, gc] at ho; cases ho) e) fc ha0) (HOk.add (HOk.trk hok fun b o w hw e => kept b o (fun z => by rw [z, ha0] at hw; cases hw) (fun z => by rw [z, hk0] at hw; cases hw) e) ha0 ?_) bare (fun b z => absurd z List.not_mem_nil), fr3, upd_same, ?_⟩
    · refine ⟨?_, _, c, vx, na3⟩
      rw [vx.length, sortVals_length false (by rw [Array.length_toList]; omega)]
      exact hZ
    · exact Paired.mapP pk fun x k ⟨b, h1, h2⟩ => ⟨b, h1, fr3.tup b _ h2 trivial⟩
end
theorem cr_sortK {X : Cx} {k : Nat} {f : Addr} {fd : FuncData} (F : Fg X.prog X.w X.K X.mg X.base CX0 k f fd ["key"] spOrd) (hr : GR (k + 2) X.A) (hb : Binds X.K fd ["key"] []) (hc : X.calm = true) :
    CallRK X (.builtin "sorted") [Str.ofString "key"] (rSortK f) := by
  intro pins s σ H vs zs us ws Q I r rz h
  obtain ⟨a, kvs, rfl, rfl, hd, hk, q⟩ := h
  obtain rfl := Vals.ref1 r
  obtain rfl := Vals.ref1 rz
  have hr2 : GR k X.A.in1.in1 := ⟨hr.rm.in1.in1, hr.gd⟩
  obtain ⟨hz, lo, xs0, hKT, o, es, ep, ho, hED, hdat, hes, hnd⟩ := I.hok a _ hd
  have hl0 : kvs.length = xs0.length := Paired.length hKT
  have hes2 : es.size = xs0.length := by rw [← Array.length_toList, hes, List.length_map]
  refine call_function_entry_kw kind_sorted plain_sorted entry_sorted (ksk_s1 _ _) ?_
  unfold Builtin.«sorted»
  refine wpAny_bind (m := checkCount "sorted" 1 1 _) (wpAny_pure ?_)
  refine wpAny_bind (kdu_collect (A := X.A.in1) (KdlSrc.rawDict (es := es) (ep := ep) lo) (I.ok.hd hc) ⟨o, ho, hED, hdat⟩ (by omega) fun h1 tk acc hk1 hacc => ?_)
  have hL : acc.toList = xs0.map fun x => Value.ref x.2.1 := by
    apply List.ext_getElem?
    intro j
    by_cases hj : j < xs0.length
    · have hja : j < acc.size := by rw [hacc.1]; omega
      obtain ⟨hi, e⟩ := hacc.2 j acc[j] (by simp [hja])
      have e2 : es[j] = entryOfKey (tupleKind (mixKind X.prog X.w)) xs0[j] := by
        have z : es.toList[j]? = (xs0.map (entryOfKey (tupleKind (mixKind X.prog X.w))))[j]? := by rw [hes]
        simp only [Array.getElem?_toList, List.getElem?_map, hj, List.getElem?_eq_getElem, Option.map_some] at z
        rw [Array.getElem?_eq_getElem hi] at z
        exact Option.some.inj z
      rw [Array.getElem?_toList, Array.getElem?_eq_getElem hja, e, e2, List.getElem?_map, List.getElem?_eq_getElem hj]
      rfl
    · rw [List.getElem?_eq_none (by rw [Array.length_toList, hacc.1]; omega), List.getElem?_eq_none (by rw [List.length_map]; omega)]
  rw [hL]
  generalize hLv : (xs0.map fun x => Value.ref x.2.1) = L
  have hLl : L.length = kvs.length := by rw [← hLv, List.length_map, hl0]
  have hZ : L.length ≤ sizeLine := by omega
  have hLk : ∀ (j : Nat) (v : Value), L[j]? = some v → ∃ (kv : List Key × V) (b : Addr), kvs[j]? = some kv ∧ v = Value.ref b ∧ H b = some (.tup (kv.1.map kV)) := by
    intro j v e
    rw [← hLv, List.getElem?_map] at e
    cases q : xs0[j]? with
    | none => rw [q] at e; cases e
    | some x =>
      rw [q] at e
      cases e
      have go : ∀ {kvs : List (LKey × V)} {xs : List (List Key × Addr × Value)} {j : Nat} {x : List Key × Addr × Value}, Paired (fun (p : List Key × V) (q : List Key × Addr × Value) => p.1 = q.1 ∧ H q.2.1 = some (.tup (p.1.map kV)) ∧ RelV p.2 q.2.2) kvs xs → xs[j]? = some x → ∃ kv, kvs[j]? = some kv ∧ H x.2.1 = some (.tup (kv.1.map kV)) := by
        intro kvs xs j x P e
        induction P generalizing j with
        | nil => simp at e
        | cons h1 _ ih =>
          cases j with
          | zero => cases e; exact ⟨_, rfl, h1.2.1⟩
          | succ j => exact ih (j := j) e
      obtain ⟨kv, e1, e2⟩ := go hKT q
      exact ⟨kv, _, e1, rfl, e2⟩
  -- the heap behind the copy; what is new there
  have I1 : Inv X pins σ H { s with heap := h1, toks := tk } := I.kept hk1
  have far : ∀ b, h1.objs.size ≤ b → b ∉ frs X.stack ∧ H b = none ∧ s.heap.get? b = none := fun b hb => by
    refine ⟨fun z => ?_, I1.hok.fresh hb, ?_⟩
    · rcases List.mem_cons.mp (I1.stkSub b z) with e | e
      · exact absurd (Nat.lt_of_lt_of_le I1.lt hb) (by rw [e]; exact Nat.lt_irrefl _)
      · exact I1.nofs hb e
    · cases q : s.heap.get? b with
      | none => rfl
      | some o => exact absurd (Nat.lt_of_lt_of_le (Heap.lt_size (hk1 b o q)) hb) (Nat.lt_irrefl _)
  refine wpAny_bind (wpAny_newList ?_ hZ)
  have hoL : (h1.push (seqObj "list" L.toArray 0)).get? h1.objs.size = some (seqObj "list" L.toArray 0) := Heap.get?_push_size _ rfl
  show wpAny _ _ _ _ _ { s with heap := h1.push (seqObj "list" L.toArray 0), toks := tk }
  refine wpAny_bind (wpAny_holding (wpAny_call_entry_kw slot_list_sort ⟨_, hoL, rfl⟩ entry_list_sort ?_ (ksk_l1 _ _)))
  show wpAny _ _ (Builtin.«list.sort» ⟨[.ref h1.objs.size], [(Str.ofString "key", .ref f)]⟩) _ _ _
  rw [ksk_t1]
  obtain ⟨e1, ho1⟩ : ∃ e1, ((h1.push (seqObj "list" L.toArray 0)).update h1.objs.size (Obj.mapSeq fun _ => (#[] : Array Value))).get? h1.objs.size = some (seqObj "list" #[] e1) := ⟨_, get?_update_seq hoL fun _ => #[]⟩
  unfold ksk_tree
  refine wpAny_bind (listItems_at hoL rfl ?_)
  refine wpAny_bind (listUpdate_at hoL rfl ?_ (by rw [List.size_toArray]; exact hZ) (Nat.zero_le _))
  refine wpAny_bind (seqEpoch_at ho1 rfl ?_)
  refine wpAny_bind (wpAny_newTuple ?_ (by show L.length ≤ _; exact hZ))
  refine wpAny_bind (wpAny_newList ?_ (Nat.zero_le _))
  refine wpAny_holding ?_
  refine ordRest (ks := kvs.map (·.1)) F hr2 hb I (kS := (((h1.push (seqObj "list" L.toArray 0)).update h1.objs.size (Obj.mapSeq fun _ => (#[] : Array Value))).push (seqObj "tuple" L.toArray 0)).objs.size) (fun b o e => ?_) (Heap.get?_push_size _ rfl) (Heap.get?_push_of_some _ (Heap.get?_push_of_some _ ho1)) (far _ (Nat.le_refl _)).1 (far _ (Nat.le_refl _)).2.1 (far _ (Nat.le_refl _)).2.2
    (far _ ?_).1 (far _ ?_).2.1 (far _ ?_).2.2 ?_ (by rw [List.length_map, hLl]) hZ (fun k hm => ?_) (fun j v e => ?_) fun s' h' => ?_
  · refine Heap.get?_push_of_some _ (Heap.get?_push_of_some _ ?_)
    have e' := hk1 b o e
    rw [Heap.get?_update_ne _ _ _ _ (Nat.ne_of_lt (Heap.lt_size e'))]
    exact Heap.get?_push_of_some _ e'
  · rw [size_push', Heap.size_update, size_push']; exact Nat.le_add_right _ 2
  · rw [size_push', Heap.size_update, size_push']; exact Nat.le_add_right _ 2
  · rw [size_push', Heap.size_update, size_push']; exact Nat.le_add_right _ 2
  · rw [size_push', Heap.size_update, size_push']; exact Nat.ne_of_gt (Nat.lt_add_of_pos_right (Nat.succ_pos 1))
  · obtain ⟨p, hp, rfl⟩ := List.mem_map.mp hm
    exact hk p hp
  · obtain ⟨kv, b, e2, e3, e4⟩ := hLk j v e
    exact ⟨kv.1, b, by rw [List.getElem?_map, e2]; rfl, e3, e4⟩
  · obtain ⟨H', xs, J, fr, hx, pk⟩ := h'
    exact ⟨_, rfl, wpAny_pure ⟨_, rfl, .ref h1.objs.size, H', J, rfl, q H' _ xs fr (far _ (Nat.le_refl _)).2.1 hx pk⟩⟩
end G

/-! Rules of this program's own. -/
namespace G
open PySem PySem.Spec PyProof.Rows L2

section
variable {X : Cx}
/-! ### order(a) < order(b), <= -/
def rLtK : R2 := fun x y H Q => ∃ a b, Td H x (ordD a) ∧ Td H y (ordD b) ∧ okK a = true ∧ okK b = true ∧ Q (.bl (klt a b)) H
def rLeK : R2 := fun x y H Q => ∃ a b, Td H x (ordD a) ∧ Td H y (ordD b) ∧ okK a = true ∧ okK b = true ∧ Q (.bl (kle a b)) H
theorem op_ltK (hu : X.A.units + 8 < cLine) : OpR X (compareOp .Lt) rLtK := by
  intro pins s σ H x y v u Q I rx ry h
  obtain ⟨a, b, h1, h2, o1, o2, q⟩ := h
  obtain ⟨as, r1⟩ := Dp.reads I _ x v (Td.dp _ _ h1) rx
  obtain ⟨bs, r2⟩ := Dp.reads I _ y u (Td.dp _ _ h2) ry
  exact ordlt r1 r2 o1 o2 hu X.prog X.w _ _ ⟨.bl _, H, I, rfl, q⟩
theorem op_leK (hu : X.A.units + 8 < cLine) : OpR X (compareOp .LtE) rLeK := by
  intro pins s σ H x y v u Q I rx ry h
  obtain ⟨a, b, h1, h2, o1, o2, q⟩ := h
  obtain ⟨as, r1⟩ := Dp.reads I _ x v (Td.dp _ _ h1) rx
  obtain ⟨bs, r2⟩ := Dp.reads I _ y u (Td.dp _ _ h2) ry
  exact ordle r1 r2 o1 o2 hu X.prog X.w _ _ ⟨.bl _, H, I, rfl, q⟩

/-! ### repr -/
def reprOk (d : PyData) : Prop := d.showable = true ∧ d.hasDict = false ∧ d.depth ≤ 60 ∧ d.shown.length ≤ sizeLine
def rRepr (K : PySem.W.Frag) : List V → Hp → VK → Prop := fun xs H Q => ∃ x d, xs = [x] ∧ Dp K H x d ∧ reprOk d ∧ Q (.str d.shown) H
theorem shown_none : (PyData.none).shown = "None" := by rw [PyData.shown]
theorem shown_bool (b : Bool) : (PyData.bool b).shown = Str.ofString (if b then "True" else "False") := by rw [PyData.shown]; cases b <;> rfl
theorem shown_int (i : Int) : (PyData.int i).shown = toString i := by rw [PyData.shown]
theorem shown_str (x : Str) : (PyData.str x).shown = reprText x := by rw [PyData.shown]
theorem call_repr (hg : X.A.guards = some []) (hu : X.A.units + 64 < cLine) : CallR X (.builtin "repr") (rRepr X.K) := by
  intro pins s σ H xs us Q I r h
  obtain ⟨x, d, rfl, hd, ⟨h1, h2, h3, h4⟩, q⟩ := h
  obtain ⟨u, rfl, rx⟩ := vals1 r
  obtain ⟨as, rd⟩ := Dp.reads I d x u hd rx
  cases rd with
  | none =>
    rw [shown_none] at q
    exact PySem.P.repr_of_none ⟨.str "None", H, I.tok _, ⟨_, rfl⟩, q⟩
  | bool b =>
    rw [shown_bool] at q
    refine PySem.P.repr_of_bool ⟨.str (Str.ofString (if b then "True" else "False")), H, I.tok _, ⟨s.toks, ?_⟩, q⟩
    cases b <;> rfl
  | int i t =>
    rw [shown_int] at q
    exact PySem.P.repr_of_int (by simpa [PyData.showable] using h1) ⟨.str (Str.ofString (toString i)), H, I.tok _, ⟨_, rfl⟩, q⟩
  | str y t =>
    rw [shown_str] at q h4
    exact PySem.P.repr_of_str ⟨.str _, H, I.tok _, ⟨_, rfl⟩, q⟩ h4
  | list a1 a2 a3 a4 =>
    exact repr_of_reads' (.list a1 a2 a3 a4) h1 (PyData.noDict_hsm h2) hg (by omega) (fun _ _ e => e) (fun h' u tk hk => ⟨.str _, H, I.kept hk, ⟨_, rfl⟩, q⟩) h4
  | tuple a1 a2 a3 a4 =>
    exact repr_of_reads' (.tuple a1 a2 a3 a4) h1 (PyData.noDict_hsm h2) hg (by omega) (fun _ _ e => e) (fun h' u tk hk => ⟨.str _, H, I.kept hk, ⟨_, rfl⟩, q⟩) h4
  | dict a1 a2 a3 a4 a5 => exact absurd h2 (by simp [PyData.hasDict])

/-! ### tuples whose objects have no dict -/
def rTupF (K : PySem.W.Frag) : List V → Hp → VK → Prop := fun xs H Q => ∃ p ys, xs = [.ref p] ∧ SqL K H p ys ∧ ∀ l (o : Obj), H l = none → o.dict = none → Q (.ref l) (upd H l (.frz o (.tup ys)))
theorem call_tupleF : CallR X (.type "tuple") (rTupF X.K) := by
  intro pins s σ H xs us Q I r h
  obtain ⟨p, ys, rfl, hq, q⟩ := h
  obtain rfl := Vals.ref1 r
  obtain ⟨its, r', pl, hz⟩ := I.list hq
  have hlen := r'.length
  refine call_tuple_list pl.isList (fun h' kp => ?_) (by simp only [List.size_toArray]; omega)
  have I1 : Inv X pins σ H { s with heap := h' } := I.kept (t' := s.toks) kp
  have I2 : Inv X pins σ (upd H h'.objs.size (.frz { cls := .type "tuple", data := .seq its.toArray } (.tup ys))) { s with heap := h'.push { cls := .type "tuple", data := .seq its.toArray } } :=
    I1.laid (t' := s.toks) (fun b o e => Heap.get?_push_of_some _ e) (Nat.le_refl _) (show ObjOk X.prog X.w _ _ _ (.frz _ (.tup ys)) from ⟨Heap.get?_push_size _ rfl, hz, its, r', IsTup.new _ _⟩)
  exact ⟨.ref h'.objs.size, _, I2, rfl, q _ _ (I1.hok.fresh (Nat.le_refl _)) rfl⟩
def tTupF (t : TA) : TE := fun σ H Q => t σ H fun xs H1 => xs.length ≤ sizeLine ∧ ∀ p (o : Obj), H1 p = none → o.dict = none → Q (.ref p) (upd H1 p (.frz o (.tup xs)))
theorem pe_tupF {es : List Expr} {t : TA} {pos : Pos} {x1} (h : PA X es t) : PE X (.Tuple es x1 pos) (tTupF t) := by
  refine ⟨fun pins s σ H Q I hq => wpAny_Tuple_spliced (thn (h.run pos pins s σ H _ I hq) ?_)⟩
  rintro us s1 ⟨xs, H1, I1, r, z, q⟩
  refine ⟨by rw [← r.length]; exact z, ?_⟩
  have hf : H1 s1.heap.objs.size = none := I1.hok.fresh (Nat.le_refl _)
  refine ⟨.ref s1.heap.objs.size, upd H1 s1.heap.objs.size (.frz { cls := .type "tuple", data := .seq us.toArray } (.tup xs)), I1.laid (t' := s1.toks) (fun b u e => Heap.get?_push_of_some _ e) (Nat.le_refl _) ?_, rfl, q _ _ hf rfl⟩
  exact ⟨Heap.get?_push_size _ rfl, z, us, r, ⟨_, Heap.get?_push_size _ rfl, rfl, _, rfl⟩⟩

/-! ### great factors -/
def CMulB (i j : Int) : Prop := Builtin.Int.intBits i ≤ 4000000 ∧ Builtin.Int.intBits j ≤ 4000000
theorem op_mulB : OpR X (binaryOp .Mult) (rI CMulB fun i j => .int (i * j)) := opI fun i j _ _ _ _ _ hc q => mul_int q (by
  obtain ⟨h1, h2⟩ := hc
  have e : bitsLine = 134217728 := by decide
  unfold IntMulOk
  intro z
  rw [Bool.and_eq_true] at z
  have z2 := z.2
  unfold Builtin.Int.intTooBig at z2
  have z3 := of_decide_eq_true z2
  rw [e] at z3
  omega)

/-! ### a list against [] -/
def rEqNil (K : PySem.W.Frag) : R2 := fun x y H Q => ∃ a b xs, x = .ref a ∧ y = .ref b ∧ a ≠ b ∧ SqL K H a xs ∧ SqL K H b [] ∧ Q (.bl xs.isEmpty) H
def rNeNil (K : PySem.W.Frag) : R2 := fun x y H Q => ∃ a b xs, x = .ref a ∧ y = .ref b ∧ a ≠ b ∧ SqL K H a xs ∧ SqL K H b [] ∧ Q (.bl (!xs.isEmpty)) H
theorem eqNil_run {pins : List (Addr × Obj)} {σ : L2.St} {H : Hp} {s : Shared} (I : Inv X pins σ H s) {a b : Addr} {xs : List V} (h1 : SqL X.K H a xs) (h2 : SqL X.K H b []) (hu : X.A.units + 8 < cLine) :
    SeqAt.RcAt X.A s (.ref a) (.ref b) xs.isEmpty := by
  obtain ⟨its, rv, pl, hz⟩ := I.list h1
  obtain ⟨js, rw', pl', hz'⟩ := I.list h2
  cases rw'
  cases xs with
  | nil =>
    cases rv
    exact SeqAt.RcAt.lists (A := X.A) (e := fun _ => true) pl.isList pl'.isList rfl (by omega) fun j j1 _ => absurd j1 (Nat.not_lt_zero j)
  | cons x r =>
    cases rv with
    | cons q1 q2 => exact SeqAt.RcAt.lists_lengths pl.isList pl'.isList (by simp) (by omega)
theorem op_eqNil (hu : X.A.units + 8 < cLine) : OpR X (compareOp .Eq) (rEqNil X.K) := by
  intro pins s σ H x y v u Q I rx ry h
  obtain ⟨a, b, xs, rfl, rfl, hne, h1, h2, q⟩ := h
  cases rx
  cases ry
  exact eqNil_run I h1 h2 hu X.prog X.w _ _ ⟨.bl _, H, I, rfl, q⟩
theorem neNil_run {pins : List (Addr × Obj)} {σ : L2.St} {H : Hp} {s : Shared} (I : Inv X pins σ H s) {a b : Addr} {xs : List V} (h1 : SqL X.K H a xs) (h2 : SqL X.K H b []) (hu : X.A.units + 8 < cLine) :
    SeqAt.RcNeAt X.A s (.ref a) (.ref b) (!xs.isEmpty) := by
  obtain ⟨its, rv, pl, hz⟩ := I.list h1
  obtain ⟨js, rw', pl', hz'⟩ := I.list h2
  cases rw'
  cases xs with
  | nil =>
    cases rv
    exact SeqAt.RcNeAt.lists (A := X.A) (e := fun _ => true) pl.isList pl'.isList rfl (by omega) fun j j1 _ => absurd j1 (Nat.not_lt_zero j)
  | cons x r =>
    cases rv with
    | cons q1 q2 => exact SeqAt.RcNeAt.lists_lengths pl.isList pl'.isList (by simp) (by omega)
theorem op_neNil (hu : X.A.units + 8 < cLine) : OpR X (compareOp .NotEq) (rNeNil X.K) := by
  intro pins s σ H x y v u Q I rx ry h
  obtain ⟨a, b, xs, rfl, rfl, hne, h1, h2, q⟩ := h
  cases rx
  cases ry
  exact neNil_run I h1 h2 hu X.prog X.w _ _ ⟨.bl _, H, I, rfl, q⟩
end

/-! ### dict(pairs), the keys tuples -/
/-- a pair of a key's tuple and a value -/
def EntV (H : Hp) (v : V) (kv : LKey × V) : Prop := ∃ e q, v = .ref e ∧ TupAt H e [.ref q, kv.2] ∧ H q = some (.tup (kv.1.map kV))
theorem refs_read {β : Type} {f : β → Addr} : ∀ {zs : List β} {us : List Value}, Vals (zs.map fun z => V.ref (f z)) us → us = zs.map fun z => Value.ref (f z)
  | [], us, r => by cases r; rfl
  | z :: zs, us, r => by
    cases r with
    | cons h t =>
      cases h
      rw [refs_read t]
      rfl
theorem stored_new {K : Type} [DecidableEq K] {xs : List (K × Addr × Value)} {k : K} {a : Addr} {v : Value} (h : k ∉ xs.map (·.1)) : storedH xs k a v = xs ++ [(k, a, v)] := by
  unfold storedH
  have e : (atKey xs k).isSome = false := by
    unfold atKey
    rw [Option.isSome_map]
    rw [Bool.eq_false_iff]
    intro z
    rw [List.find?_isSome] at z
    obtain ⟨x, hx, e⟩ := z
    exact h (List.mem_map.mpr ⟨x, hx, of_decide_eq_true e⟩)
  first
    | rw [e]; rfl
    | simp [e]
theorem stored_all {K : Type} [DecidableEq K] : ∀ (ps xs : List (K × Addr × Value)), ((xs ++ ps).map (·.1)).Nodup → storedAllH xs ps = xs ++ ps
  | [], xs, _ => by simp [storedAllH]
  | p :: ps, xs, h => by
    have hp : p.1 ∉ xs.map (·.1) := fun m => by
      rw [List.map_append, List.map_cons, List.nodup_append] at h
      exact h.2.2 _ m _ List.mem_cons_self rfl
    show storedAllH (storedH xs p.1 p.2.1 p.2.2) ps = _
    rw [stored_new hp, stored_all ps _ (by simpa using h)]
    simp
section
variable {X : Cx}
theorem ents_read {pins : List (Addr × Obj)} {σ : L2.St} {H : Hp} {s : Shared} (I : Inv X pins σ H s) : ∀ {ys : List V} {kvs : List (LKey × V)}, Paired (EntV H) ys kvs →
    ∃ zs : List (Addr × LKey × Addr × Value), ys = zs.map (fun z => V.ref z.1) ∧ Paired (fun (kv : LKey × V) (z : Addr × LKey × Addr × Value) => kv.1 = z.2.1 ∧ L2.RelV kv.2 z.2.2.2) kvs zs ∧
      ∀ z ∈ zs, s.heap.IsTuple z.1 #[.ref z.2.2.1, z.2.2.2] ∧ H z.2.2.1 = some (.tup (z.2.1.map kV))
  | _, _, .nil => ⟨[], rfl, .nil, fun _ h => nomatch h⟩
  | _, _, .cons (b := kv) ⟨e, q, e1, h1, h2⟩ t => by
    obtain ⟨zs, a1, a2, a3⟩ := ents_read I t
    subst e1
    obtain ⟨its, rv, p, hz⟩ := I.tuple h1.sq
    obtain ⟨u1, u2, rfl, r1, r2⟩ := vals2 rv
    cases r1
    refine ⟨(e, kv.1, q, u2) :: zs, by rw [a1]; rfl, .cons ⟨rfl, r2⟩ a2, fun z hz => ?_⟩
    rcases List.mem_cons.mp hz with rfl | hz
    · exact ⟨p, h2⟩
    · exact a3 z hz
def rDictTP (K : PySem.W.Frag) : List V → Hp → VK → Prop := fun xs H Q => ∃ p ys kvs, xs = [.ref p] ∧ (FzT H p ys ∨ SqL K H p ys) ∧ Paired (EntV H) ys kvs ∧ (kvs.map (·.1)).Nodup ∧ ∀ d, H d = none → Q (.ref d) (upd H d (.dT kvs))
theorem call_dictTP (hc : X.calm = true) (hu : X.A.units + 8 < cLine) : CallR X (.type "dict") (rDictTP X.K) := by
  intro pins s σ H xs us Q I r h
  obtain ⟨p, ys, kvs, rfl, hp, he, hnd, q⟩ := h
  obtain rfl := Vals.ref1 r
  obtain ⟨zs, rfl, pk, hz⟩ := ents_read I he
  have hl : kvs.length = zs.length := Paired.length pk
  have keys : ∀ {kvs : List (LKey × V)} {zs : List (Addr × LKey × Addr × Value)}, Paired (fun (kv : LKey × V) (z : Addr × LKey × Addr × Value) => kv.1 = z.2.1 ∧ L2.RelV kv.2 z.2.2.2) kvs zs → kvs.map (·.1) = (zs.map (·.2)).map (·.1) := by
    intro kvs zs P
    induction P with
    | nil => rfl
    | cons h1 _ ih => rw [List.map_cons, List.map_cons, List.map_cons, ih, h1.1]
  have hnd2 : ((zs.map (·.2)).map (·.1)).Nodup := by rw [← keys pk]; exact hnd
  have hall : storedAllH ([] : List (LKey × Addr × Value)) (zs.map (·.2)) = zs.map (·.2) := by
    rw [stored_all _ _ (by simpa using hnd2)]
    rfl
  have hpi : PairItems s.heap (zs.map fun z => Value.ref z.1).toArray (fun j => (zs.getD j default).1) (zs.map fun z => (Value.ref z.2.2.1, z.2.2.2)) := by
    refine ⟨by simp, fun j k v e => ?_⟩
    rw [List.getElem?_map] at e
    cases ez : zs[j]? with
    | none => rw [ez] at e; cases e
    | some z =>
      rw [ez] at e
      cases e
      have hd : zs.getD j default = z := by simp [List.getD, ez]
      show _ = some (Value.ref (zs.getD j default).1) ∧ PairAt s.heap (zs.getD j default).1 _ _
      rw [hd]
      exact ⟨by simp [ez], .inl (hz z (List.mem_of_getElem? ez)).1⟩
  have hph : PairsHaveH (tupleKind (mixKind X.prog X.w)) (zs.map fun z => (Value.ref z.2.2.1, z.2.2.2)).length (PairRel (zs.map fun z => (Value.ref z.2.2.1, z.2.2.2))) (zs.map (·.2)) := by
    refine ⟨by simp, fun i k v e => ?_⟩
    have e : (zs.map fun z => (Value.ref z.2.2.1, z.2.2.2))[i]? = some (k, v) := e
    rw [List.getElem?_map] at e
    cases ez : zs[i]? with
    | none => rw [ez] at e; cases e
    | some z =>
      rw [ez] at e
      cases e
      exact ⟨z.2.1, z.2.2.1, by rw [List.getElem?_map, ez]; rfl, rfl⟩
  have hst : KeysStay (tupleKind (mixKind X.prog X.w)) s.heap s.heap.objs.size [] (zs.map (·.2)) := fun h' hk x hx => by
    obtain ⟨z, hm, rfl⟩ := List.mem_map.mp hx
    obtain ⟨_, its, rv, o, ho, r⟩ := I.hok _ _ (hz z hm).2
    have k1 : (tupleKind (mixKind X.prog X.w)).is s.heap z.2.1 z.2.2.1 := key_of I.hok (hz z hm).2
    exact tupleKind_stays.all h' (fun b o _ e => by
      by_cases hb : b = s.heap.objs.size
      · exact absurd (Heap.lt_size e) (by rw [hb]; exact Nat.lt_irrefl _)
      · exact hk b o hb List.not_mem_nil e) _ _ k1
  have hsz : (zs.map fun z => (Value.ref z.2.2.1, z.2.2.2)).length ≤ sizeLine := by
    rw [List.length_map]
    rcases hp with ⟨o, e, _⟩ | e
    · have z := (I.hok _ _ e).2.1
      rw [List.length_map] at z
      exact z
    · obtain ⟨_, _, _, z⟩ := I.list e
      rw [List.length_map] at z
      exact z
  have fin : ∀ h' tk, h'.DictOfH (tupleKind (mixKind X.prog X.w)) s.heap.objs.size (storedAllH [] (zs.map (·.2))) → (∀ b o, b ∉ ([] : List Addr) → s.heap.get? b = some o → h'.get? b = some o) → EP X pins σ Q (.ref s.heap.objs.size) { s with heap := h', toks := tk } := by
    intro h' tk hd hk
    rw [hall] at hd
    obtain ⟨o, es, ep, ho, hED, hdat, hes, _, hn⟩ := hd
    have kt : Paired (fun (p : List Key × V) (q : List Key × Addr × Value) => p.1 = q.1 ∧ upd H s.heap.objs.size (.dT kvs) q.2.1 = some (.tup (p.1.map kV)) ∧ L2.RelV p.2 q.2.2) kvs (zs.map (·.2)) := by
      have go : ∀ {kvs' : List (LKey × V)} {zs : List (Addr × LKey × Addr × Value)}, Paired (fun (kv : LKey × V) (z : Addr × LKey × Addr × Value) => kv.1 = z.2.1 ∧ L2.RelV kv.2 z.2.2.2) kvs' zs → (∀ z ∈ zs, H z.2.2.1 = some (.tup (z.2.1.map kV))) →
          Paired (fun (p : List Key × V) (q : List Key × Addr × Value) => p.1 = q.1 ∧ upd H s.heap.objs.size (.dT kvs) q.2.1 = some (.tup (p.1.map kV)) ∧ L2.RelV p.2 q.2.2) kvs' (zs.map (·.2)) := by
        intro kvs' zs P
        induction P with
        | nil => intro _; exact .nil
        | cons h1 _ ih =>
          intro hz
          refine .cons ⟨h1.1, ?_, h1.2⟩ (ih fun z hm => hz z (List.mem_cons_of_mem _ hm))
          have e := hz _ List.mem_cons_self
          rw [upd_ne (ne_of_none e (I.hok.fresh (Nat.le_refl _))), h1.1]
          exact e
      exact go pk fun z hm => (hz z hm).2
    exact ⟨.ref s.heap.objs.size, _, I.laid (t' := tk) (o := .dT kvs) (fun b o e => hk b o List.not_mem_nil e) (Nat.le_refl _) ⟨by rw [hl]; simpa using hsz, beq_eq_false_iff_ne.mpr (Nat.ne_of_gt I.big), _, kt, o, es, ep, ho, hED, hdat, hes, hn⟩, rfl, q _ (I.hok.fresh (Nat.le_refl _))⟩
  have hroom : (tupleKind (mixKind X.prog X.w)).room X.A.in1.in1 := by show X.A.units + 1 + 1 < cLine; omega
  rcases hp with ⟨o, e, hdn⟩ | e
  · obtain ⟨ho, _, its, rv, ob, ho2, hcl, n, hdat⟩ := I.hok _ _ e
    rw [ho] at ho2
    cases ho2
    have hits : its = zs.map fun z => Value.ref z.1 := refs_read rv
    subst hits
    exact call_dict_pairsH (PairArg.tuple p _ _ _) (I.ok.hd hc) hroom ⟨⟨o, n, ho, hcl, hdn, hdat⟩, hpi⟩ hph hst hsz fin
  · obtain ⟨its, rv, ⟨o, n, ho, hcl, hdn, hdat⟩, _⟩ := I.list e
    have hits : its = zs.map fun z => Value.ref z.1 := refs_read rv
    subst hits
    exact call_dict_pairsH (PairArg.list p _ _ _) (I.ok.hd hc) hroom ⟨⟨o, n, ho, hcl, hdn, hdat⟩, hpi⟩ hph hst hsz fin
end
end G

/-! What repr writes of plain values with plain signs: it can be read back. -/
namespace G
open PySem L2 TL

def okSign (c : Nat) : Bool := decide (32 ≤ c) && decide (c ≤ 126) && c != 39 && c != 92
theorem printable : ∀ c, c < 127 → okSign c = true → PySem.Builtin.Str.reprChar 39 c = [c] := by decide +kernel
mutual
/-- plain values: texts of plain signs -/
def nc : PyData → Bool
  | .none => true
  | .bool _ => true
  | .int _ => true
  | .str x => x.cps.toList.all okSign
  | .tuple ds => ncAll ds
  | .list _ => false
  | .dict _ => false
def ncAll : List PyData → Bool
  | [] => true
  | d :: ds => nc d && ncAll ds
end
def intL (i : Int) : List Nat := tl (Str.ofString (toString i))
theorem intL_nat (n : Nat) : intL (n : Int) = numL n := tl_num n
theorem intL_neg (n : Nat) : intL (Int.negSucc n) = 45 :: numL (n + 1) := by
  unfold intL tl
  rw [Str.ofString_eq_toList]
  show ((toString (Int.negSucc n)).toList.map Char.toNat) = _
  have e : toString (Int.negSucc n) = "-" ++ Nat.repr (n + 1) := rfl
  rw [e, String.toList_append, List.map_append, Nat.toList_repr]
  rfl
theorem intL_inj {i j : Int} (h : intL i = intL j) : i = j := by
  cases i with
  | ofNat m =>
    have e1 : intL (Int.ofNat m) = numL m := intL_nat m
    rw [e1] at h
    cases j with
    | ofNat n =>
      have e2 : intL (Int.ofNat n) = numL n := intL_nat n
      rw [e2] at h
      rw [numL_inj h]
    | negSucc n =>
      rw [intL_neg] at h
      exact absurd (show 45 ∈ numL m by rw [h]; exact List.mem_cons_self) (numL_free (by omega))
  | negSucc m =>
    rw [intL_neg] at h
    cases j with
    | ofNat n =>
      have e2 : intL (Int.ofNat n) = numL n := intL_nat n
      rw [e2] at h
      exact absurd (show 45 ∈ numL n by rw [← h]; exact List.mem_cons_self) (numL_free (by omega))
    | negSucc n =>
      rw [intL_neg] at h
      injection h with _ h
      have z := numL_inj h
      rw [show m = n by omega]
def isD (c : Nat) : Bool := decide (48 ≤ c) && decide (c ≤ 57) || c == 45
theorem intL_signs (i : Int) : ∀ c ∈ intL i, isD c = true := by
  cases i with
  | ofNat m =>
    have e1 : intL (Int.ofNat m) = numL m := intL_nat m
    rw [e1]
    intro c hc
    have z := numL_digits m c hc
    simp [isD, z.1, z.2]
  | negSucc m =>
    rw [intL_neg]
    intro c hc
    rcases List.mem_cons.mp hc with rfl | hc
    · rfl
    · have z := numL_digits (m + 1) c hc
      simp [isD, z.1, z.2]
theorem intL_ne (i : Int) : intL i ≠ [] := by
  cases i with
  | ofNat m =>
    have e1 : intL (Int.ofNat m) = numL m := intL_nat m
    rw [e1]
    exact numL_ne m
  | negSucc m => rw [intL_neg]; simp
/-! ### texts -/
theorem plain_fold : ∀ (l acc : List Nat), l.all okSign = true → l.foldl (fun (out : Array Nat) c => out ++ (PySem.Builtin.Str.reprChar 39 c).toArray) acc.toArray = (acc ++ l).toArray
  | [], acc, _ => by simp
  | c :: r, acc, h => by
    rw [List.all_cons, Bool.and_eq_true] at h
    have hc : c < 127 := by
      have z := h.1
      simp only [okSign, Bool.and_eq_true, decide_eq_true_eq] at z
      omega
    rw [List.foldl_cons, printable c hc h.1]
    have e : acc.toArray ++ [c].toArray = (acc ++ [c]).toArray := by simp
    rw [e, plain_fold r (acc ++ [c]) h.2]
    simp
theorem repr_plain {x : Str} (h : x.cps.toList.all okSign = true) : tl (reprText x) = 39 :: (tl x ++ [39]) := by
  have hq : reprQuote x = 39 := by
    unfold reprQuote
    have e : x.cps.contains 39 = false := by
      rw [Bool.eq_false_iff]
      intro z
      have z2 : 39 ∈ x.cps.toList := by simpa using z
      have z3 := List.all_eq_true.mp h 39 z2
      exact absurd z3 (by decide)
    rw [e]
    rfl
  unfold reprText tl
  rw [hq, ← Array.foldl_toList]
  have e := plain_fold x.cps.toList [39] h
  have e0 : (#[39] : Array Nat) = [39].toArray := rfl
  rw [e0, e]
  simp
/-! ### what is written -/
def shw (d : PyData) : List Nat := tl d.shown
def shwAll : List PyData → List (List Nat)
  | [] => []
  | d :: ds => shw d :: shwAll ds
theorem shwAll_eq : ∀ ds : List PyData, (PyData.shownAll ds).map tl = shwAll ds
  | [] => by rw [PyData.shownAll]; rfl
  | d :: ds => by rw [PyData.shownAll, List.map_cons, shwAll_eq ds]; rfl
theorem shownAll_len : ∀ ds : List PyData, (PyData.shownAll ds).length = ds.length
  | [] => by rw [PyData.shownAll]; rfl
  | d :: ds => by rw [PyData.shownAll, List.length_cons, List.length_cons, shownAll_len ds]
def body2 : List PyData → List Nat
  | [] => [41]
  | [d] => shw d ++ [41]
  | d :: e :: r => shw d ++ (44 :: 32 :: body2 (e :: r))
def body1 : List PyData → List Nat
  | [] => [41]
  | [d] => shw d ++ [44, 41]
  | d :: e :: r => shw d ++ (44 :: 32 :: body2 (e :: r))
theorem body2_eq : ∀ d (ds : List PyData), joinL [44, 32] (shwAll (d :: ds)) ++ [41] = body2 (d :: ds)
  | d, [] => rfl
  | d, e :: r => by
    have ih := body2_eq e r
    show (shw d ++ ([44, 32] ++ joinL [44, 32] (shwAll (e :: r)))) ++ [41] = _
    rw [List.append_assoc, List.append_assoc, ih]
    rfl
theorem shw_tuple (ds : List PyData) : shw (.tuple ds) = 40 :: body1 ds := by
  unfold shw
  rw [PyData.shown]
  unfold tupleText
  rw [tl_append, tl_append, tl_join, shwAll_eq, shownAll_len]
  match ds with
  | [] => rfl
  | [d] => rfl
  | d :: e :: r =>
    have ih := body2_eq e r
    show ([40] ++ (shw d ++ ([44, 32] ++ joinL [44, 32] (shwAll (e :: r))))) ++ tl (Str.ofString ")") = _
    have e3 : tl (Str.ofString ")") = [41] := rfl
    rw [e3, List.append_assoc, List.append_assoc, List.append_assoc, ih]
    rfl
theorem shw_none : shw .none = [78, 111, 110, 101] := by unfold shw; rw [PyData.shown]; rfl
theorem shw_true : shw (.bool true) = [84, 114, 117, 101] := by unfold shw; rw [PyData.shown]; rfl
theorem shw_false : shw (.bool false) = [70, 97, 108, 115, 101] := by unfold shw; rw [PyData.shown]; rfl
theorem shw_int (i : Int) : shw (.int i) = intL i := by unfold shw; rw [PyData.shown]; rfl
theorem shw_str {x : Str} (h : x.cps.toList.all okSign = true) : shw (.str x) = 39 :: (tl x ++ [39]) := by unfold shw; rw [PyData.shown]; exact repr_plain h
/-! ### read back -/
def kd : PyData → Nat
  | .none => 1
  | .bool true => 2
  | .bool false => 3
  | .int _ => 4
  | .str _ => 5
  | .tuple _ => 6
  | .list _ => 7
  | .dict _ => 8
def ck (c : Nat) : Nat := if c = 78 then 1 else if c = 84 then 2 else if c = 70 then 3 else if isD c = true then 4 else if c = 39 then 5 else if c = 40 then 6 else 0
theorem shw_head {d : PyData} (h : nc d = true) : ∃ c r, shw d = c :: r ∧ ck c = kd d := by
  match d with
  | .none => exact ⟨_, _, shw_none, rfl⟩
  | .bool true => exact ⟨_, _, shw_true, rfl⟩
  | .bool false => exact ⟨_, _, shw_false, rfl⟩
  | .int i =>
    rw [shw_int]
    cases e : intL i with
    | nil => exact absurd e (intL_ne i)
    | cons c r =>
      refine ⟨c, r, rfl, ?_⟩
      have z := intL_signs i c (by rw [e]; exact List.mem_cons_self)
      have z2 : c ≠ 78 ∧ c ≠ 84 ∧ c ≠ 70 := by
        simp only [isD, Bool.or_eq_true, Bool.and_eq_true, decide_eq_true_eq, beq_iff_eq] at z
        omega
      unfold ck
      rw [if_neg z2.1, if_neg z2.2.1, if_neg z2.2.2, if_pos z]
      rfl
  | .str x => exact ⟨_, _, shw_str (by simpa [nc] using h), rfl⟩
  | .tuple ds => exact ⟨_, _, shw_tuple ds, rfl⟩
  | .list _ => simp [nc] at h
  | .dict _ => simp [nc] at h
def stp (x : List Nat) : Prop := ∀ c r, x = c :: r → c = 44 ∨ c = 41
theorem split_at {p : Nat → Bool} : ∀ {a b x y : List Nat}, (∀ c ∈ a, p c = true) → (∀ c ∈ b, p c = true) → (∀ c r, x = c :: r → p c = false) → (∀ c r, y = c :: r → p c = false) → a ++ x = b ++ y → a = b ∧ x = y
  | [], [], x, y, _, _, _, _, h => ⟨rfl, h⟩
  | [], c :: b, x, y, _, hb, hx, _, h => by
    have z := hx c _ h
    rw [hb c List.mem_cons_self] at z
    cases z
  | c :: a, [], x, y, ha, _, _, hy, h => by
    have z := hy c _ h.symm
    rw [ha c List.mem_cons_self] at z
    cases z
  | c :: a, d :: b, x, y, ha, hb, hx, hy, h => by
    injection h with h1 h2
    obtain ⟨e1, e2⟩ := split_at (fun c hc => ha c (List.mem_cons_of_mem _ hc)) (fun c hc => hb c (List.mem_cons_of_mem _ hc)) hx hy h2
    exact ⟨by rw [h1, e1], e2⟩
theorem kd_eq {d e : PyData} {x y : List Nat} (h1 : nc d = true) (h2 : nc e = true) (h : shw d ++ x = shw e ++ y) : kd d = kd e := by
  obtain ⟨c, r, e1, k1⟩ := shw_head h1
  obtain ⟨c', r', e2, k2⟩ := shw_head h2
  rw [e1, e2] at h
  injection h with h3 _
  rw [← k1, ← k2, h3]
theorem no_close {d : PyData} {x y : List Nat} (h1 : nc d = true) (h : 41 :: x = shw d ++ y) : False := by
  obtain ⟨c, r, e1, k1⟩ := shw_head h1
  rw [e1] at h
  injection h with h3 _
  rw [← h3] at k1
  have z : ck 41 = 0 := by decide
  rw [z] at k1
  cases d with
  | bool b => cases b <;> cases k1
  | _ => cases k1
mutual
theorem uq : ∀ (d e : PyData), nc d = true → nc e = true → ∀ x y, stp x → stp y → shw d ++ x = shw e ++ y → d = e ∧ x = y
  | .none, e, h1, h2, x, y, sx, sy, h => by
    have k := kd_eq h1 h2 h
    cases e with
    | none => exact ⟨rfl, List.append_cancel_left h⟩
    | bool b => cases b <;> cases k
    | _ => cases k
  | .bool b, e, h1, h2, x, y, sx, sy, h => by
    have k := kd_eq h1 h2 h
    cases e with
    | bool b' =>
      cases b <;> cases b' <;> first | (cases k; done) | exact ⟨rfl, List.append_cancel_left h⟩
    | _ => cases b <;> cases k
  | .int i, e, h1, h2, x, y, sx, sy, h => by
    have k := kd_eq h1 h2 h
    cases e with
    | int j =>
      rw [shw_int, shw_int] at h
      obtain ⟨e1, e2⟩ := split_at (intL_signs i) (intL_signs j) (fun c r q => by rcases sx c r q with rfl | rfl <;> rfl) (fun c r q => by rcases sy c r q with rfl | rfl <;> rfl) h
      exact ⟨by rw [intL_inj e1], e2⟩
    | bool b => cases b <;> cases k
    | _ => cases k
  | .str a, e, h1, h2, x, y, sx, sy, h => by
    have k := kd_eq h1 h2 h
    cases e with
    | str b =>
      have p1 : a.cps.toList.all okSign = true := by simpa [nc] using h1
      have p2 : b.cps.toList.all okSign = true := by simpa [nc] using h2
      rw [shw_str p1, shw_str p2] at h
      injection h with _ h
      have h : (tl a ++ [39]) ++ x = (tl b ++ [39]) ++ y := h
      rw [List.append_assoc, List.append_assoc] at h
      obtain ⟨e1, e2⟩ := split_at (p := okSign) (List.all_eq_true.mp p1) (List.all_eq_true.mp p2) (fun c r q => by injection q with q _; rw [← q]; rfl) (fun c r q => by injection q with q _; rw [← q]; rfl) h
      injection e2 with _ e2
      refine ⟨?_, e2⟩
      have z : a.cps = b.cps := Array.toList_inj.mp e1
      cases a
      cases b
      simp only at z
      rw [z]
    | bool b => cases b <;> cases k
    | _ => cases k
  | .tuple ds, e, h1, h2, x, y, sx, sy, h => by
    have k := kd_eq h1 h2 h
    cases e with
    | tuple es =>
      rw [shw_tuple, shw_tuple] at h
      injection h with _ h
      obtain ⟨e1, e2⟩ := uq1 ds es (by simpa [nc] using h1) (by simpa [nc] using h2) x y h
      exact ⟨by rw [e1], e2⟩
    | bool b => cases b <;> cases k
    | _ => cases k
  | .list _, _, h1, _, _, _, _, _, _ => by simp [nc] at h1
  | .dict _, _, h1, _, _, _, _, _, _ => by simp [nc] at h1
theorem uq1 : ∀ (ds es : List PyData), ncAll ds = true → ncAll es = true → ∀ x y, body1 ds ++ x = body1 es ++ y → ds = es ∧ x = y
  | [], [], _, _, x, y, h => ⟨rfl, by injection h⟩
  | [], [e], _, h2, x, y, h => by
    rw [ncAll, Bool.and_eq_true] at h2
    exact (no_close h2.1 (by rw [show body1 [e] = shw e ++ [44, 41] from rfl, List.append_assoc] at h; exact h)).elim
  | [], e :: e' :: r, _, h2, x, y, h => by
    rw [ncAll, Bool.and_eq_true] at h2
    exact (no_close h2.1 (by rw [show body1 (e :: e' :: r) = shw e ++ (44 :: 32 :: body2 (e' :: r)) from rfl, List.append_assoc] at h; exact h)).elim
  | [d], [], h1, _, x, y, h => by
    rw [ncAll, Bool.and_eq_true] at h1
    exact (no_close h1.1 (by rw [show body1 [d] = shw d ++ [44, 41] from rfl, List.append_assoc] at h; exact h.symm)).elim
  | d :: d' :: r, [], h1, _, x, y, h => by
    rw [ncAll, Bool.and_eq_true] at h1
    exact (no_close h1.1 (by rw [show body1 (d :: d' :: r) = shw d ++ (44 :: 32 :: body2 (d' :: r)) from rfl, List.append_assoc] at h; exact h.symm)).elim
  | [d], [e], h1, h2, x, y, h => by
    rw [ncAll, Bool.and_eq_true] at h1 h2
    rw [show body1 [d] = shw d ++ [44, 41] from rfl, show body1 [e] = shw e ++ [44, 41] from rfl, List.append_assoc, List.append_assoc] at h
    obtain ⟨e1, e2⟩ := uq d e h1.1 h2.1 _ _ (fun c r q => by injection q with q _; exact .inl q.symm) (fun c r q => by injection q with q _; exact .inl q.symm) h
    exact ⟨by rw [e1], by injection e2 with _ e2; injection e2⟩
  | [d], e :: e' :: r, h1, h2, x, y, h => by
    rw [ncAll, Bool.and_eq_true] at h1 h2
    rw [show body1 [d] = shw d ++ [44, 41] from rfl, show body1 (e :: e' :: r) = shw e ++ (44 :: 32 :: body2 (e' :: r)) from rfl, List.append_assoc, List.append_assoc] at h
    obtain ⟨e1, e2⟩ := uq d e h1.1 h2.1 _ _ (fun c r q => by injection q with q _; exact .inl q.symm) (fun c r q => by injection q with q _; exact .inl q.symm) h
    injection e2 with _ e2
    injection e2 with e2 _
    exact absurd e2 (by decide)
  | d :: d' :: r, [e], h1, h2, x, y, h => by
    rw [ncAll, Bool.and_eq_true] at h1 h2
    rw [show body1 (d :: d' :: r) = shw d ++ (44 :: 32 :: body2 (d' :: r)) from rfl, show body1 [e] = shw e ++ [44, 41] from rfl, List.append_assoc, List.append_assoc] at h
    obtain ⟨e1, e2⟩ := uq d e h1.1 h2.1 _ _ (fun c r q => by injection q with q _; exact .inl q.symm) (fun c r q => by injection q with q _; exact .inl q.symm) h
    injection e2 with _ e2
    injection e2 with e2 _
    exact absurd e2 (by decide)
  | d :: d' :: r, e :: e' :: s, h1, h2, x, y, h => by
    rw [ncAll, Bool.and_eq_true] at h1 h2
    rw [show body1 (d :: d' :: r) = shw d ++ (44 :: 32 :: body2 (d' :: r)) from rfl, show body1 (e :: e' :: s) = shw e ++ (44 :: 32 :: body2 (e' :: s)) from rfl, List.append_assoc, List.append_assoc] at h
    obtain ⟨e1, e2⟩ := uq d e h1.1 h2.1 _ _ (fun c r q => by injection q with q _; exact .inl q.symm) (fun c r q => by injection q with q _; exact .inl q.symm) h
    injection e2 with _ e2
    injection e2 with _ e2
    obtain ⟨e3, e4⟩ := uq2 (d' :: r) (e' :: s) (by simp) (by simp) h1.2 h2.2 x y e2
    exact ⟨by rw [e1, e3], e4⟩
theorem uq2 : ∀ (ds es : List PyData), ds ≠ [] → es ≠ [] → ncAll ds = true → ncAll es = true → ∀ x y, body2 ds ++ x = body2 es ++ y → ds = es ∧ x = y
  | [], _, n, _, _, _, _, _, _ => absurd rfl n
  | _ :: _, [], _, n, _, _, _, _, _ => absurd rfl n
  | [d], [e], _, _, h1, h2, x, y, h => by
    rw [ncAll, Bool.and_eq_true] at h1 h2
    rw [show body2 [d] = shw d ++ [41] from rfl, show body2 [e] = shw e ++ [41] from rfl, List.append_assoc, List.append_assoc] at h
    obtain ⟨e1, e2⟩ := uq d e h1.1 h2.1 _ _ (fun c r q => by injection q with q _; exact .inr q.symm) (fun c r q => by injection q with q _; exact .inr q.symm) h
    exact ⟨by rw [e1], by injection e2⟩
  | [d], e :: e' :: r, _, _, h1, h2, x, y, h => by
    rw [ncAll, Bool.and_eq_true] at h1 h2
    rw [show body2 [d] = shw d ++ [41] from rfl, show body2 (e :: e' :: r) = shw e ++ (44 :: 32 :: body2 (e' :: r)) from rfl, List.append_assoc, List.append_assoc] at h
    obtain ⟨e1, e2⟩ := uq d e h1.1 h2.1 _ _ (fun c r q => by injection q with q _; exact .inr q.symm) (fun c r q => by injection q with q _; exact .inl q.symm) h
    injection e2 with e2 _
    exact absurd e2 (by decide)
  | d :: d' :: r, [e], _, _, h1, h2, x, y, h => by
    rw [ncAll, Bool.and_eq_true] at h1 h2
    rw [show body2 (d :: d' :: r) = shw d ++ (44 :: 32 :: body2 (d' :: r)) from rfl, show body2 [e] = shw e ++ [41] from rfl, List.append_assoc, List.append_assoc] at h
    obtain ⟨e1, e2⟩ := uq d e h1.1 h2.1 _ _ (fun c r q => by injection q with q _; exact .inl q.symm) (fun c r q => by injection q with q _; exact .inr q.symm) h
    injection e2 with e2 _
    exact absurd e2 (by decide)
  | d :: d' :: r, e :: e' :: s, _, _, h1, h2, x, y, h => by
    rw [ncAll, Bool.and_eq_true] at h1 h2
    rw [show body2 (d :: d' :: r) = shw d ++ (44 :: 32 :: body2 (d' :: r)) from rfl, show body2 (e :: e' :: s) = shw e ++ (44 :: 32 :: body2 (e' :: s)) from rfl, List.append_assoc, List.append_assoc] at h
    obtain ⟨e1, e2⟩ := uq d e h1.1 h2.1 _ _ (fun c r q => by injection q with q _; exact .inl q.symm) (fun c r q => by injection q with q _; exact .inl q.symm) h
    injection e2 with _ e2
    injection e2 with _ e2
    obtain ⟨e3, e4⟩ := uq2 (d' :: r) (e' :: s) (by simp) (by simp) h1.2 h2.2 x y e2
    exact ⟨by rw [e1, e3], e4⟩
end
theorem shown_inj {d e : PyData} (h1 : nc d = true) (h2 : nc e = true) (h : d.shown = e.shown) : d = e :=
  (uq d e h1 h2 [] [] (fun _ _ q => nomatch q) (fun _ _ q => nomatch q) (by unfold shw; rw [h])).1
end G

/-! Trees, plain: cut, replace, grow, strip, look. -/
namespace G
open PySem
abbrev Ent := LKey × PyData

/-! ### cut -/
section
variable {α β : Type}
def cutN (z : Nat) : Nat := (z + 5) / 6
def cutSt (z i : Nat) : Nat := i * (z / cutN z) + min i (z % cutN z)
def cutSz (z i : Nat) : Nat := z / cutN z + (if i < z % cutN z then 1 else 0)
def piece (xs : List α) (i : Nat) : List α := (xs.drop (cutSt xs.length i)).take (cutSz xs.length i)
def cutL (xs : List α) : List (List α) := (List.range (cutN xs.length)).map (piece xs)
theorem cutSt_succ (z i : Nat) : cutSt z (i + 1) = cutSt z i + cutSz z i := by
  unfold cutSt cutSz
  rw [Nat.succ_mul]
  split <;> omega
theorem cutSt_zero (z : Nat) : cutSt z 0 = 0 := by unfold cutSt; omega
theorem cutSt_all (z : Nat) : cutSt z (cutN z) = z := by
  unfold cutSt
  by_cases h : cutN z = 0
  · rw [h]
    unfold cutN at h
    omega
  · have h1 := Nat.mod_lt z (Nat.pos_of_ne_zero h)
    have h2 := Nat.div_add_mod z (cutN z)
    rw [Nat.min_eq_right (Nat.le_of_lt h1)]
    exact h2
theorem cutSt_mono {z i j : Nat} (h : i ≤ j) : cutSt z i ≤ cutSt z j := by
  induction h with
  | refl => exact Nat.le_refl _
  | step _ ih => rw [cutSt_succ]; omega
theorem cutN_le (z : Nat) : cutN z ≤ z := by unfold cutN; omega
theorem cutSz_pos {z i : Nat} (h : i < cutN z) : 0 < cutSz z i := by
  unfold cutSz
  have h1 : 0 < z / cutN z := Nat.div_pos (cutN_le z) (by omega)
  omega
theorem cutSz_le {z i : Nat} (h : i < cutN z) : cutSz z i ≤ 6 := by
  have h2 := Nat.div_add_mod z (cutN z)
  have h3 : z ≤ 6 * cutN z := by unfold cutN; omega
  have h4 : z / cutN z ≤ 6 := by
    rw [Nat.div_le_iff_le_mul_add_pred (by omega)]
    rw [Nat.mul_comm]
    omega
  unfold cutSz
  split
  · rename_i hr
    have h5 : z / cutN z < 6 := by
      rw [Nat.div_lt_iff_lt_mul (by omega)]
      rcases Nat.lt_or_ge (z / cutN z) 6 with q | q
      · have := Nat.mul_le_mul_left (cutN z) (show z / cutN z ≤ 5 by omega)
        have h6 := Nat.mod_lt z (show 0 < cutN z by omega)
        omega
      · have := Nat.mul_le_mul_left (cutN z) q
        omega
    omega
  · omega
theorem cutSt_fit {z i : Nat} (h : i < cutN z) : cutSt z i + cutSz z i ≤ z := by
  rw [← cutSt_succ]
  exact Nat.le_trans (cutSt_mono h) (Nat.le_of_eq (cutSt_all z))
theorem piece_len {xs : List α} {i : Nat} (h : i < cutN xs.length) : (piece xs i).length = cutSz xs.length i := by
  unfold piece
  rw [List.length_take, List.length_drop]
  have := cutSt_fit h
  omega
theorem cut_pre (xs : List α) : ∀ m, ((List.range m).map (piece xs)).flatten = xs.take (cutSt xs.length m)
  | 0 => by rw [cutSt_zero]; rfl
  | m + 1 => by
    rw [List.range_succ, List.map_append, List.flatten_append, cut_pre xs m, cutSt_succ, List.take_add]
    simp [piece]
theorem cut_flat (xs : List α) : (cutL xs).flatten = xs := by
  unfold cutL
  rw [cut_pre, cutSt_all, List.take_length]
theorem cut_len (xs : List α) : (cutL xs).length = cutN xs.length := by simp [cutL]
theorem cut_mem {xs p : List α} (h : p ∈ cutL xs) : p ≠ [] ∧ p.length ≤ 6 := by
  obtain ⟨i, hi, rfl⟩ := List.mem_map.mp h
  rw [List.mem_range] at hi
  have h1 := piece_len hi
  have h2 := cutSz_pos hi
  have h3 := cutSz_le hi
  refine ⟨fun z => ?_, by omega⟩
  rw [z, List.length_nil] at h1
  omega
theorem cut_get {xs : List α} {i : Nat} (h : i < cutN xs.length) : (cutL xs)[i]? = some (piece xs i) := by
  simp [cutL, h]
theorem cut_map (f : α → β) (xs : List α) : cutL (xs.map f) = (cutL xs).map (List.map f) := by
  unfold cutL piece
  simp [List.map_drop, List.map_take]
theorem cut_nil : cutL ([] : List α) = [] := by simp [cutL, cutN]
theorem cut_sub {xs p : List α} (h : p ∈ cutL xs) {x : α} (hx : x ∈ p) : x ∈ xs := by
  rw [← cut_flat xs]
  exact List.mem_flatten.mpr ⟨p, h, hx⟩
theorem cutN_lt {z : Nat} (h : 1 < z) : cutN z < z := by unfold cutN; omega
theorem cutN_zero {z : Nat} : cutN z = 0 ↔ z = 0 := by unfold cutN; omega
end

/-! ### maps -/
def isN : PyData → Bool
  | .none => true
  | _ => false
theorem isN_iff {d : PyData} : isN d = true ↔ d = .none := by cases d <;> simp [isN]
def look : List Ent → LKey → PyData
  | [], _ => .none
  | e :: r, k => if e.1 = k then e.2 else look r k
def updsF (f : LKey → PyData) : List Ent → LKey → PyData
  | [] => f
  | c :: r => updsF (fun k => if k = c.1 then c.2 else f k) r
def ofF (P : List LKey) (f : LKey → PyData) : List Ent := (P.filter fun k => !isN (f k)).map fun k => (k, f k)
def Sd (es : List Ent) : Prop := es.Pairwise fun a b => klt a.1 b.1 = true
def Sk (P : List LKey) : Prop := P.Pairwise fun a b => klt a b = true
theorem look_mem : ∀ {es : List Ent} {k : LKey} {d : PyData}, Sd es → (k, d) ∈ es → look es k = d
  | [], _, _, _, h => nomatch h
  | e :: r, k, d, s, h => by
    unfold look
    have s' := List.pairwise_cons.mp s
    rcases List.mem_cons.mp h with rfl | h
    · rw [if_pos rfl]
    · rw [if_neg (klt_ne (s'.1 _ h)), look_mem s'.2 h]
theorem look_not : ∀ {es : List Ent} {k : LKey}, (∀ d, (k, d) ∉ es) → look es k = .none
  | [], _, _ => rfl
  | e :: r, k, h => by
    unfold look
    rw [if_neg fun z => h e.2 (by rw [← z]; exact List.mem_cons_self), look_not fun d m => h d (List.mem_cons_of_mem _ m)]
theorem look_some : ∀ {es : List Ent} {k : LKey} {d : PyData}, look es k = d → d ≠ .none → (k, d) ∈ es
  | [], _, _, e, n => absurd e.symm n
  | e :: r, k, d, h, n => by
    unfold look at h
    split at h
    · rename_i z
      rw [← z, ← h]
      exact List.mem_cons_self
    · exact List.mem_cons_of_mem _ (look_some h n)
theorem upds_congr : ∀ {ch : List Ent} {f g : LKey → PyData} {k : LKey}, f k = g k → updsF f ch k = updsF g ch k
  | [], _, _, _, h => h
  | c :: r, f, g, k, h => upds_congr (ch := r) (by show (if k = c.1 then c.2 else f k) = if k = c.1 then c.2 else g k; rw [h])
theorem upds_filter {p : LKey → Bool} : ∀ {ch : List Ent} {f : LKey → PyData} {k : LKey}, p k = true → updsF f (ch.filter fun c => p c.1) k = updsF f ch k
  | [], _, _, _ => rfl
  | c :: r, f, k, h => by
    rw [List.filter_cons]
    split
    · exact upds_filter (ch := r) h
    · rename_i hc
      rw [upds_filter (ch := r) h]
      refine upds_congr ?_
      show f k = if k = c.1 then c.2 else f k
      rw [if_neg fun z => hc (by rw [← z]; exact h)]
theorem upds_out : ∀ {ch : List Ent} {f : LKey → PyData} {k : LKey}, (∀ c ∈ ch, c.1 ≠ k) → updsF f ch k = f k
  | [], _, _, _ => rfl
  | c :: r, f, k, h => by
    show updsF _ r k = _
    rw [upds_out (ch := r) fun c' m => h c' (List.mem_cons_of_mem _ m)]
    show (if k = c.1 then c.2 else f k) = f k
    rw [if_neg fun z => h c List.mem_cons_self z.symm]
theorem ofF_sd {P : List LKey} (f : LKey → PyData) (s : Sk P) : Sd (ofF P f) := by
  unfold Sd ofF
  rw [List.pairwise_map]
  exact List.Pairwise.filter _ s
theorem ofF_mem {P : List LKey} {f : LKey → PyData} {k : LKey} {d : PyData} : (k, d) ∈ ofF P f ↔ k ∈ P ∧ f k = d ∧ d ≠ .none := by
  unfold ofF
  rw [List.mem_map]
  constructor
  · rintro ⟨k', h, e⟩
    injection e with e1 e2
    subst e1
    rw [List.mem_filter] at h
    refine ⟨h.1, e2, fun z => ?_⟩
    rw [e2, z] at h
    exact Bool.noConfusion h.2
  · rintro ⟨h1, h2, h3⟩
    refine ⟨k, List.mem_filter.mpr ⟨h1, ?_⟩, by rw [h2]⟩
    rw [h2]
    cases e : isN d with
    | true => exact absurd (isN_iff.mp e) h3
    | false => rfl
theorem ofF_congr {P : List LKey} {f g : LKey → PyData} (h : ∀ k ∈ P, f k = g k) : ofF P f = ofF P g := by
  unfold ofF
  have e : (P.filter fun k => !isN (f k)) = P.filter fun k => !isN (g k) := List.filter_congr fun k m => by rw [h k m]
  rw [e]
  exact List.map_congr_left fun k m => by rw [h k (List.mem_filter.mp m).1]
theorem ofF_filter {P : List LKey} {f : LKey → PyData} {p : LKey → Bool} (h : ∀ k ∈ P, p k = false → f k = .none) : ofF (P.filter p) f = ofF P f := by
  unfold ofF
  rw [List.filter_filter]
  have e : (P.filter fun k => (!isN (f k) && p k)) = P.filter fun k => !isN (f k) := List.filter_congr fun k m => by
    cases q : p k with
    | true => simp
    | false => rw [h k m q]; rfl
  rw [e]
/-- two rising lists of the same items are one list -/
theorem sorted_ext : ∀ {as bs : List LKey}, Sk as → Sk bs → (∀ k, k ∈ as ↔ k ∈ bs) → as = bs
  | [], [], _, _, _ => rfl
  | [], b :: bs, _, _, h => nomatch (h b).mpr List.mem_cons_self
  | a :: as, [], _, _, h => nomatch (h a).mp List.mem_cons_self
  | a :: as, b :: bs, sa, sb, h => by
    have sa' := List.pairwise_cons.mp sa
    have sb' := List.pairwise_cons.mp sb
    have e : a = b := by
      rcases List.mem_cons.mp ((h a).mp List.mem_cons_self) with e | m
      · exact e
      · rcases List.mem_cons.mp ((h b).mpr List.mem_cons_self) with e | m'
        · exact e.symm
        · have q1 := sb'.1 a m
          have q2 := sa'.1 b m'
          rw [klt_asym q1] at q2
          cases q2
    subst e
    rw [sorted_ext sa'.2 sb'.2 fun k => ⟨fun m => by
      rcases List.mem_cons.mp ((h k).mp (List.mem_cons_of_mem _ m)) with e | m'
      · subst e
        exact absurd rfl (klt_ne (sa'.1 k m))
      · exact m', fun m => by
      rcases List.mem_cons.mp ((h k).mpr (List.mem_cons_of_mem _ m)) with e | m'
      · subst e
        exact absurd rfl (klt_ne (sb'.1 k m))
      · exact m'⟩]
theorem ofF_look {P : List LKey} {es : List Ent} (sP : Sk P) (s : Sd es) (h : ∀ e ∈ es, e.1 ∈ P ∧ e.2 ≠ .none) : ofF P (look es) = es := by
  have e1 : (ofF P (look es)).map (·.1) = es.map (·.1) := by
    refine sorted_ext ?_ ?_ fun k => ?_
    · unfold Sk
      rw [List.pairwise_map]
      exact ofF_sd _ sP
    · unfold Sk
      rw [List.pairwise_map]
      exact s
    · rw [List.mem_map, List.mem_map]
      constructor
      · rintro ⟨⟨k', d⟩, m, rfl⟩
        obtain ⟨_, m2, m3⟩ := ofF_mem.mp m
        exact ⟨_, look_some m2 m3, rfl⟩
      · rintro ⟨⟨k', d⟩, m, rfl⟩
        exact ⟨(k', d), ofF_mem.mpr ⟨(h _ m).1, look_mem s m, (h _ m).2⟩, rfl⟩
  have go : ∀ {xs ys : List Ent}, xs.map (·.1) = ys.map (·.1) → (∀ x ∈ xs, look es x.1 = x.2) → (∀ y ∈ ys, look es y.1 = y.2) → xs = ys := by
    intro xs
    induction xs with
    | nil =>
      intro ys e _ _
      cases ys with
      | nil => rfl
      | cons _ _ => cases e
    | cons x xs ih =>
      intro ys e h1 h2
      cases ys with
      | nil => cases e
      | cons y ys =>
        rw [List.map_cons, List.map_cons] at e
        injection e with e1 e2
        rw [ih e2 (fun x m => h1 x (List.mem_cons_of_mem _ m)) fun y m => h2 y (List.mem_cons_of_mem _ m)]
        have a1 := h1 x List.mem_cons_self
        have a2 := h2 y List.mem_cons_self
        rw [← e1, a1] at a2
        congr 1
        exact Prod.ext e1 a2
  exact go e1 (fun x m => (ofF_mem.mp m).2.1) fun y m => look_mem s m
theorem ofF_len (P : List LKey) (f : LKey → PyData) : (ofF P f).length ≤ P.length := by
  unfold ofF
  rw [List.length_map]
  exact List.length_filter_le _ _

/-! ### places -/
def pl : List LKey → LKey → Nat
  | [], _ => 0
  | [_], _ => 0
  | _ :: g :: r, k => if kle g k = true then pl (g :: r) k + 1 else 0
theorem pl_lt : ∀ {fs : List LKey} {k : LKey}, fs ≠ [] → pl fs k < fs.length
  | [], _, n => absurd rfl n
  | [_], _, _ => Nat.succ_pos _
  | f :: g :: r, k, _ => by
    have := pl_lt (fs := g :: r) (k := k) (by simp)
    unfold pl
    split
    · simpa using this
    · exact Nat.succ_pos _
theorem pl_mono : ∀ {fs : List LKey} {a b : LKey}, kle a b = true → pl fs a ≤ pl fs b
  | [], _, _, _ => Nat.le_refl _
  | [_], _, _, _ => Nat.le_refl _
  | f :: g :: r, a, b, h => by
    have := pl_mono (fs := g :: r) h
    unfold pl
    split
    · rename_i q
      rw [if_pos (kle_trans q h)]
      omega
    · exact Nat.zero_le _
/-- by a rising place: the parts, one behind the other, are the whole -/
theorem parts_step {h : LKey → Nat} {m : Nat} : ∀ {P : List LKey}, P.Pairwise (fun a b => h a ≤ h b) → (P.filter fun k => decide (h k < m + 1)) = (P.filter fun k => decide (h k < m)) ++ P.filter fun k => h k == m
  | [], _ => rfl
  | a :: P, s => by
    have s' := List.pairwise_cons.mp s
    have ih := parts_step (h := h) (m := m) s'.2
    by_cases h1 : h a < m
    · rw [List.filter_cons_of_pos (by simp; omega), List.filter_cons_of_pos (by simpa using h1), List.filter_cons_of_neg (by simp; omega), ih]
      rfl
    · have z : (P.filter fun k => decide (h k < m)) = [] := by
        rw [List.filter_eq_nil_iff]
        intro b hb
        have := s'.1 b hb
        simp
        omega
      rw [z, List.nil_append] at ih
      rw [List.filter_cons_of_neg (a := a) (l := P) (p := fun k => decide (h k < m)) (by simpa using h1), z, List.nil_append]
      by_cases h2 : h a = m
      · rw [List.filter_cons_of_pos (by simp; omega), List.filter_cons_of_pos (by simpa using h2), ih]
      · rw [List.filter_cons_of_neg (by simp; omega), List.filter_cons_of_neg (by simpa using h2), ih]
theorem parts {h : LKey → Nat} {P : List LKey} (s : P.Pairwise fun a b => h a ≤ h b) : ∀ m, (List.range m).flatMap (fun i => P.filter fun k => h k == i) = P.filter fun k => decide (h k < m)
  | 0 => by
    symm
    rw [List.range_zero, List.flatMap_nil, List.filter_eq_nil_iff]
    intro b _
    simp
  | m + 1 => by
    rw [List.range_succ, List.flatMap_append, parts s m, parts_step s]
    simp

/-! ### trees: all leaves at one depth -/
def Tn : Nat → Type
  | 0 => List Ent
  | n + 1 => List (LKey × Tn n)
def fstT : (n : Nat) → Tn n → LKey
  | 0, t => ((List.head? (α := Ent) t).map (·.1)).getD []
  | n + 1, t => ((List.head? (α := LKey × Tn n) t).map (·.1)).getD []
def ents : (n : Nat) → Tn n → List Ent
  | 0, t => t
  | n + 1, t => List.flatMap (fun c : LKey × Tn n => ents n c.2) t
def good : (n : Nat) → Tn n → Prop
  | 0, t => (t : List Ent) ≠ [] ∧ List.length (α := Ent) t ≤ 6
  | n + 1, t => (t : List (LKey × Tn n)) ≠ [] ∧ List.length (α := LKey × Tn n) t ≤ 6 ∧ ∀ c : LKey × Tn n, List.Mem c t → good n c.2 ∧ c.1 = fstT n c.2
section
variable {n : Nat}
def fsT (t : List (LKey × Tn n)) : List LKey := t.map (·.1)
def ownT (t : List (LKey × Tn n)) (ch : List Ent) (i : Nat) : List Ent := ch.filter fun c => pl (fsT t) c.1 == i
def kid (r : Tn n → List Ent → List (Tn n)) (t : List (LKey × Tn n)) (ch : List Ent) (i : Nat) : List (LKey × Tn n) :=
  match t[i]? with
  | none => []
  | some c => if (ownT t ch i).isEmpty then [c] else (r c.2 (ownT t ch i)).map fun p => (fstT n p, p)
def kids (r : Tn n → List Ent → List (Tn n)) (t : List (LKey × Tn n)) (ch : List Ent) (m : Nat) : List (LKey × Tn n) := (List.range m).flatMap (kid r t ch)
end
def repl (P : List LKey) : (n : Nat) → Tn n → List Ent → List (Tn n)
  | 0, t, ch => cutL (ofF P (updsF (look t) ch))
  | n + 1, t, ch => cutL (kids (repl P n) t ch (List.length (α := LKey × Tn n) t))
/-- the items behind a list of children -/
def cents {n : Nat} (cs : List (LKey × Tn n)) : List Ent := cs.flatMap fun c => ents n c.2
def goodC {n : Nat} (cs : List (LKey × Tn n)) : Prop := ∀ c ∈ cs, good n c.2 ∧ c.1 = fstT n c.2
theorem head_ents : ∀ {n : Nat} {t : Tn n}, good n t → ∃ d r, ents n t = (fstT n t, d) :: r
  | 0, t, h => by
    obtain ⟨h, _⟩ := h
    match t, h with
    | [], h => exact absurd rfl h
    | e :: r, _ => exact ⟨e.2, r, rfl⟩
  | n + 1, t, h => by
    obtain ⟨h, _, hc⟩ := h
    match t, h, hc with
    | [], h, _ => exact absurd rfl h
    | c :: r, _, hc =>
      obtain ⟨g, e⟩ := hc c List.mem_cons_self
      obtain ⟨d, s, q⟩ := head_ents g
      refine ⟨d, s ++ cents r, ?_⟩
      show ents n c.2 ++ cents r = (c.1, d) :: (s ++ cents r)
      rw [q, e]
      rfl
theorem ents_ne {n : Nat} {t : Tn n} (h : good n t) : 0 < (ents n t).length := by
  obtain ⟨d, r, e⟩ := head_ents h
  rw [e]
  exact Nat.succ_pos _
theorem good_len : ∀ {n : Nat} {ts : List (Tn n)}, (∀ t ∈ ts, good n t) → ts.length ≤ (ts.flatMap (ents n)).length
  | _, [], _ => Nat.zero_le _
  | n, t :: r, h => by
    have h1 := ents_ne (h t List.mem_cons_self)
    have h2 := good_len (ts := r) fun t m => h t (List.mem_cons_of_mem _ m)
    rw [List.flatMap_cons, List.length_append, List.length_cons]
    omega
/-- an item's key tells which child holds it -/
theorem pl_at {n : Nat} : ∀ {cs : List (LKey × Tn n)} {i : Nat} {c : LKey × Tn n} {e : Ent}, goodC cs → Sd (cents cs) → cs[i]? = some c → e ∈ ents n c.2 → pl (fsT cs) e.1 = i
  | [], _, _, _, _, _, h, _ => by simp at h
  | [c], i, c', e, _, _, h, _ => by
    cases i with
    | zero => rfl
    | succ i => simp at h
  | c :: c2 :: r, i, c', e, g, s, h, m => by
    obtain ⟨g1, g2⟩ := g c2 (List.mem_cons_of_mem _ List.mem_cons_self)
    obtain ⟨d, q, hq⟩ := head_ents g1
    have s' : Sd (ents n c.2 ++ cents (c2 :: r)) := s
    obtain ⟨s1, s2, s3⟩ := List.pairwise_append.mp s'
    have hd : cents (c2 :: r) = (c2.1, d) :: (q ++ cents r) := by
      show ents n c2.2 ++ cents r = _
      rw [hq, g2]
      rfl
    have gr : goodC (c2 :: r) := fun c m => g c (List.mem_cons_of_mem _ m)
    show (if kle c2.1 e.1 = true then pl (fsT (c2 :: r)) e.1 + 1 else 0) = i
    cases i with
    | zero =>
      cases h
      have lt := s3 e m (c2.1, d) (by rw [hd]; exact List.mem_cons_self)
      rw [if_neg]
      rw [kle_not.mpr lt]
      exact Bool.false_ne_true
    | succ i =>
      have ih := pl_at (i := i) gr s2 h m
      have hm : e ∈ cents (c2 :: r) := List.mem_flatMap.mpr ⟨c', List.mem_of_getElem? h, m⟩
      have le : kle c2.1 e.1 = true := by
        rw [hd] at hm s2
        rcases List.mem_cons.mp hm with rfl | hm
        · exact kle_refl _
        · exact kle_iff.mpr (.inl ((List.pairwise_cons.mp s2).1 e hm))
      rw [if_pos le, ih]
theorem sd_kid {n : Nat} : ∀ {cs : List (LKey × Tn n)} {c : LKey × Tn n}, Sd (cents cs) → c ∈ cs → Sd (ents n c.2)
  | _ :: r, c, s, h => by
    have s' := List.pairwise_append.mp (show Sd (ents n _ ++ cents r) from s)
    rcases List.mem_cons.mp h with rfl | h
    · exact s'.1
    · exact sd_kid s'.2.1 h
theorem look_kid {n : Nat} {cs : List (LKey × Tn n)} {c : LKey × Tn n} {k : LKey} (g : goodC cs) (s : Sd (cents cs)) (h : cs[pl (fsT cs) k]? = some c) : look (cents cs) k = look (ents n c.2) k := by
  have hc := List.mem_of_getElem? h
  by_cases q : ∃ d, (k, d) ∈ ents n c.2
  · obtain ⟨d, m⟩ := q
    rw [look_mem (sd_kid s hc) m, look_mem s (List.mem_flatMap.mpr ⟨c, hc, m⟩)]
  · have q1 : ∀ d, (k, d) ∉ ents n c.2 := fun d m => q ⟨d, m⟩
    rw [look_not q1, look_not]
    intro d m
    obtain ⟨c', m1, m2⟩ := List.mem_flatMap.mp m
    obtain ⟨j, hj⟩ := List.getElem?_of_mem m1
    have e := pl_at g s hj m2
    simp only at e
    rw [e, hj] at h
    cases h
    exact q1 d m2

/-! ### replaced -/
/-- what the law's keys and entries keep to -/
def Ok (P : List LKey) (es : List Ent) : Prop := Sd es ∧ ∀ e ∈ es, e.1 ∈ P ∧ e.2 ≠ .none
theorem ofF_ok {P : List LKey} (s : Sk P) (f : LKey → PyData) : Ok P (ofF P f) :=
  ⟨ofF_sd f s, fun e m => by obtain ⟨a, b, c⟩ := ofF_mem.mp (show (e.1, e.2) ∈ _ from m); exact ⟨a, c⟩⟩
theorem repl_spec {P : List LKey} (sP : Sk P) : ∀ (n : Nat) (t : Tn n) (ch : List Ent), (n = 0 ∨ good n t) → Ok P (ents n t) →
    (∀ p ∈ repl P n t ch, good n p) ∧ (repl P n t ch).flatMap (ents n) = ofF P (updsF (look (ents n t)) ch)
  | 0, t, ch, _, o => by
    refine ⟨fun p h => cut_mem h, ?_⟩
    show List.flatMap (fun t : List Ent => t) (cutL _) = _
    rw [List.flatMap_id']
    exact cut_flat _
  | n + 1, t, ch, g, o => by
    have g : good (n + 1) t := g.resolve_left (Nat.succ_ne_zero n)
    obtain ⟨g1, g2, g3⟩ := g
    have gc : goodC (n := n) t := g3
    have s : Sd (cents (n := n) t) := o.1
    have kidS : ∀ (i : Nat) (c : LKey × Tn n), getElem? (coll := List (LKey × Tn n)) t i = some c → goodC (kid (repl P n) t ch i) ∧ cents (kid (repl P n) t ch i) = ofF (P.filter fun k => pl (fsT (n := n) t) k == i) (updsF (look (ents (n + 1) t)) ch) := by
      intro i c hc
      have mc := List.mem_of_getElem? hc
      have okc : Ok P (ents n c.2) := ⟨sd_kid s mc, fun e m => o.2 e (List.mem_flatMap.mpr ⟨c, mc, m⟩)⟩
      have ih := repl_spec sP n c.2 (ownT t ch i) (.inr (gc c mc).1) okc
      have key : ofF P (updsF (look (ents n c.2)) (ownT (n := n) t ch i)) = ofF (P.filter fun k => pl (fsT (n := n) t) k == i) (updsF (look (ents (n + 1) t)) ch) := by
        rw [← ofF_filter (P := P) (f := updsF (look (ents n c.2)) (ownT (n := n) t ch i)) (p := fun k => pl (fsT (n := n) t) k == i)]
        · refine ofF_congr fun k m => ?_
          have hk := (List.mem_filter.mp m).2
          rw [show updsF (look (ents n c.2)) (ownT (n := n) t ch i) k = updsF (look (ents n c.2)) ch k from upds_filter (p := fun k => pl (fsT (n := n) t) k == i) hk]
          refine upds_congr (look_kid gc s ?_).symm
          have e : pl (fsT (n := n) t) k = i := by simpa using hk
          rw [e]
          exact hc
        · intro k _ hk
          have hk : ¬ pl (fsT (n := n) t) k = i := by simpa using hk
          rw [upds_out, look_not]
          · exact fun d m => hk (pl_at gc s hc m)
          · intro c' m z
            have := (List.mem_filter.mp m).2
            rw [← z] at hk
            exact hk (by simpa using this)
      unfold kid
      rw [hc]
      dsimp only
      split
      · rename_i he
        have he : ownT (n := n) t ch i = [] := List.isEmpty_iff.mp he
        refine ⟨fun c' m => ?_, ?_⟩
        · obtain rfl := List.mem_singleton.mp m
          exact gc _ mc
        · rw [← key, he]
          show List.flatMap _ [c] = ofF P (look (ents n c.2))
          rw [ofF_look sP okc.1 okc.2]
          simp
      · refine ⟨fun c' m => ?_, ?_⟩
        · obtain ⟨p, hp, rfl⟩ := List.mem_map.mp m
          exact ⟨ih.1 p hp, rfl⟩
        · rw [← key, ← ih.2]
          unfold cents
          rw [List.flatMap_map]
    have all : ∀ m, m ≤ List.length (α := LKey × Tn n) t → goodC (kids (repl P n) t ch m) ∧ cents (kids (repl P n) t ch m) = (List.range m).flatMap fun i => ofF (P.filter fun k => pl (fsT (n := n) t) k == i) (updsF (look (ents (n + 1) t)) ch) := by
      intro m
      induction m with
      | zero => exact fun _ => ⟨fun c m => by simp [kids] at m, rfl⟩
      | succ m ih =>
        intro hm
        obtain ⟨i1, i2⟩ := ih (Nat.le_of_succ_le hm)
        obtain ⟨k1, k2⟩ := kidS m _ (List.getElem?_eq_getElem hm)
        have e : kids (repl P n) t ch (m + 1) = kids (repl P n) t ch m ++ kid (repl P n) t ch m := by
          unfold kids
          rw [List.range_succ, List.flatMap_append]
          simp
        rw [e]
        refine ⟨fun c h => (List.mem_append.mp h).elim (i1 c) (k1 c), ?_⟩
        show List.flatMap _ _ = _
        rw [List.flatMap_append]
        show cents _ ++ cents _ = _
        rw [i2, k2, List.range_succ, List.flatMap_append]
        simp
    obtain ⟨a1, a2⟩ := all _ (Nat.le_refl _)
    refine ⟨fun p h => ⟨(cut_mem h).1, (cut_mem h).2, fun c m => a1 c (cut_sub h m)⟩, ?_⟩
    have e1 : (cutL (kids (repl P n) t ch (List.length (α := LKey × Tn n) t))).flatMap (ents (n + 1)) = cents (kids (repl P n) t ch (List.length (α := LKey × Tn n) t)) := by
      show List.flatMap (fun t : List (LKey × Tn n) => List.flatMap (fun c : LKey × Tn n => ents n c.2) t) _ = _
      unfold cents
      rw [← List.flatMap_assoc, List.flatMap_id']
      rw [cut_flat]
    show (cutL (kids (repl P n) t ch (List.length (α := LKey × Tn n) t))).flatMap (ents (n + 1)) = _
    rw [e1, a2]
    have mono : P.Pairwise fun a b => pl (fsT (n := n) t) a ≤ pl (fsT (n := n) t) b := sP.imp fun h => pl_mono (kle_iff.mpr (.inl h))
    have whole : P.filter (fun k => decide (pl (fsT (n := n) t) k < List.length (α := LKey × Tn n) t)) = P := by
      rw [List.filter_eq_self]
      intro k _
      have := pl_lt (fs := fsT (n := n) t) (k := k) (by intro z; exact g1 (List.map_eq_nil_iff.mp z))
      have el : (fsT (n := n) t).length = List.length (α := LKey × Tn n) t := List.length_map ..
      rw [el] at this
      exact decide_eq_true this
    have join : ∀ (l : List Nat), (l.flatMap fun i => ofF (P.filter fun k => pl (fsT (n := n) t) k == i) (updsF (look (ents (n + 1) t)) ch)) = ofF (l.flatMap fun i => P.filter fun k => pl (fsT (n := n) t) k == i) (updsF (look (ents (n + 1) t)) ch) := by
      intro l
      induction l with
      | nil => rfl
      | cons i l ih =>
        rw [List.flatMap_cons, List.flatMap_cons, ih]
        unfold ofF
        rw [List.filter_append, List.map_append]
    rw [join, parts mono, whole]
end G

/-! Trees, plain: grow, strip, get, scan. -/
namespace G
open PySem
def up (n : Nat) (ps : List (Tn n)) : List (Tn (n + 1)) := cutL (ps.map fun p => (fstT n p, p))
def grow : (j n : Nat) → List (Tn n) → (m : Nat) × List (Tn m)
  | 0, n, ps => ⟨n, ps⟩
  | j + 1, n, ps => if 1 < ps.length then grow j (n + 1) (up n ps) else ⟨n, ps⟩
def rootOf : (m : Nat) × List (Tn m) → (m : Nat) × Tn m
  | ⟨_, []⟩ => ⟨0, ([] : List Ent)⟩
  | ⟨n, p :: _⟩ => ⟨n, p⟩
def strip : (n : Nat) → Tn n → (m : Nat) × Tn m
  | 0, t => ⟨0, t⟩
  | n + 1, t => match (show List (LKey × Tn n) from t) with
    | [c] => strip n c.2
    | t' => ⟨n + 1, t'⟩
def chg (P : List LKey) (T : (m : Nat) × Tn m) (ch : List Ent) : (m : Nat) × Tn m :=
  let r := rootOf (grow 3 T.1 (repl P T.1 T.2 ch))
  strip r.1 r.2
def rgood (T : (m : Nat) × Tn m) : Prop := good T.1 T.2 ∨ T = ⟨0, ([] : List Ent)⟩
theorem up_spec {n : Nat} {ps : List (Tn n)} (h : ∀ p ∈ ps, good n p) : (∀ p ∈ up n ps, good (n + 1) p) ∧ (up n ps).flatMap (ents (n + 1)) = ps.flatMap (ents n) ∧ (up n ps).length = cutN ps.length := by
  refine ⟨fun p hp => ⟨(cut_mem hp).1, (cut_mem hp).2, fun c m => ?_⟩, ?_, ?_⟩
  · obtain ⟨q, hq, rfl⟩ := List.mem_map.mp (cut_sub hp m)
    exact ⟨h q hq, rfl⟩
  · show List.flatMap (fun t : List (LKey × Tn n) => List.flatMap (fun c : LKey × Tn n => ents n c.2) t) (cutL _) = _
    rw [← List.flatMap_assoc, List.flatMap_id', cut_flat, List.flatMap_map]
  · show (cutL _).length = _
    rw [cut_len, List.length_map]
theorem grow_more {j n : Nat} {ps : List (Tn n)} (h : 1 < ps.length) : grow (j + 1) n ps = grow j (n + 1) (up n ps) := by
  conv => lhs; unfold grow
  rw [if_pos h]
theorem grow_stop {j n : Nat} {ps : List (Tn n)} (h : ps.length ≤ 1) : grow j n ps = ⟨n, ps⟩ := by
  cases j with
  | zero => rfl
  | succ j =>
    conv => lhs; unfold grow
    rw [if_neg (by omega)]
theorem grow_spec : ∀ (j n : Nat) (ps : List (Tn n)), (∀ p ∈ ps, good n p) →
    (∀ p ∈ (grow j n ps).2, good (grow j n ps).1 p) ∧ (grow j n ps).2.flatMap (ents (grow j n ps).1) = ps.flatMap (ents n) ∧ (grow j n ps).1 ≤ n + j ∧ (ps.length ≤ 6 ^ j → (grow j n ps).2.length ≤ 1)
  | 0, n, ps, h => ⟨h, rfl, Nat.le_refl _, fun z => z⟩
  | j + 1, n, ps, h => by
    by_cases hl : 1 < ps.length
    · rw [grow_more hl]
      obtain ⟨u1, u2, u3⟩ := up_spec h
      obtain ⟨g1, g2, g3, g4⟩ := grow_spec j (n + 1) (up n ps) u1
      refine ⟨g1, g2.trans u2, by omega, fun z => g4 ?_⟩
      rw [u3]
      rw [Nat.pow_succ] at z
      unfold cutN
      omega
    · rw [grow_stop (by omega)]
      exact ⟨h, rfl, by show n ≤ _; omega, fun _ => by show ps.length ≤ 1; omega⟩
theorem strip_one {n : Nat} (c : LKey × Tn n) : strip (n + 1) ([c] : List (LKey × Tn n)) = strip n c.2 := rfl
theorem strip_stop {n : Nat} {t : List (LKey × Tn n)} (h : t.length ≠ 1) : strip (n + 1) t = ⟨n + 1, t⟩ := by
  match t, h with
  | [], _ => rfl
  | [c], h => exact absurd rfl h
  | c :: c2 :: r, _ => rfl
theorem strip_spec : ∀ (n : Nat) (t : Tn n), good n t → good (strip n t).1 (strip n t).2 ∧ ents (strip n t).1 (strip n t).2 = ents n t ∧ (strip n t).1 ≤ n
  | 0, t, h => ⟨h, rfl, Nat.le_refl _⟩
  | n + 1, t, h => by
    by_cases hl : List.length (α := LKey × Tn n) t = 1
    · obtain ⟨c, e⟩ := List.length_eq_one_iff.mp hl
      have e : t = ([c] : List (LKey × Tn n)) := e
      subst e
      rw [strip_one]
      obtain ⟨s1, s2, s3⟩ := strip_spec n c.2 (h.2.2 c List.mem_cons_self).1
      refine ⟨s1, s2.trans ?_, by omega⟩
      show ents n c.2 = List.flatMap (fun c : LKey × Tn n => ents n c.2) [c]
      simp
    · rw [strip_stop hl]
      exact ⟨h, rfl, Nat.le_refl _⟩
theorem chg_spec {P : List LKey} (sP : Sk P) (hP : P.length ≤ 216) {T : (m : Nat) × Tn m} {ch : List Ent} (g : rgood T) (o : Ok P (ents T.1 T.2)) :
    rgood (chg P T ch) ∧ ents (chg P T ch).1 (chg P T ch).2 = ofF P (updsF (look (ents T.1 T.2)) ch) ∧ (chg P T ch).1 ≤ T.1 + 3 ∧ (grow 3 T.1 (repl P T.1 T.2 ch)).2.length ≤ 1 := by
  obtain ⟨r1, r2⟩ := repl_spec sP T.1 T.2 ch (by rcases g with g | g; exact .inr g; exact .inl (by rw [g])) o
  obtain ⟨g1, g2, g3, g4⟩ := grow_spec 3 T.1 (repl P T.1 T.2 ch) r1
  have hl : (repl P T.1 T.2 ch).length ≤ 6 ^ 3 := by
    have a := good_len r1
    rw [r2] at a
    have b := ofF_len P (updsF (look (ents T.1 T.2)) ch)
    omega
  have hl := g4 hl
  refine ⟨?_, ?_, ?_, hl⟩
  all_goals
    unfold chg
    rw [r2] at g2
    revert g1 g2 g3 hl
    generalize grow 3 T.1 (repl P T.1 T.2 ch) = q
    intro g1 g2 g3 hl
    obtain ⟨m, ps⟩ := q
    match ps with
    | [] =>
      first
      | exact .inr rfl
      | exact g2
      | exact Nat.zero_le _
    | p :: r =>
      obtain ⟨s1, s2, s3⟩ := strip_spec m p (g1 p List.mem_cons_self)
      first
      | exact .inl s1
      | (refine s2.trans (Eq.trans ?_ g2)
         have : r = [] := by
          simp only [List.length_cons] at hl
          exact List.eq_nil_of_length_eq_zero (by omega)
         subst this
         simp)
      | exact Nat.le_trans s3 g3

/-! ### get -/
def getT : (n : Nat) → Tn n → LKey → PyData
  | 0, t, k => look t k
  | n + 1, t, k => match getElem? (coll := List (LKey × Tn n)) t (pl (fsT (n := n) t) k) with
    | some c => getT n c.2 k
    | none => .none
theorem getT_spec : ∀ (n : Nat) (t : Tn n) (k : LKey), (n = 0 ∨ good n t) → Sd (ents n t) → getT n t k = look (ents n t) k
  | 0, t, k, _, _ => rfl
  | n + 1, t, k, g, s => by
    have g : good (n + 1) t := g.resolve_left (Nat.succ_ne_zero n)
    obtain ⟨g1, g2, g3⟩ := g
    have hl := pl_lt (fs := fsT (n := n) t) (k := k) (by intro z; exact g1 (List.map_eq_nil_iff.mp z))
    have el : (fsT (n := n) t).length = List.length (α := LKey × Tn n) t := List.length_map ..
    rw [el] at hl
    have hc := List.getElem?_eq_getElem hl
    unfold getT
    rw [hc]
    have mc := List.mem_of_getElem? hc
    dsimp only
    rw [getT_spec n _ k (.inr (g3 _ mc).1) (sd_kid s mc)]
    exact (look_kid (cs := t) g3 s hc).symm

/-! ### scan -/
def inR (lo hi : LKey) (e : Ent) : Bool := kle lo e.1 && klt e.1 hi
section
variable {n : Nat}
def isBelow (t : List (LKey × Tn n)) (hi : LKey) (i : Nat) (f : LKey) : Bool := decide (i = 0) || klt f hi
def isAbove (t : List (LKey × Tn n)) (lo : LKey) (i : Nat) : Bool := decide (i + 1 = t.length) || (match t[i + 1]? with | some g => klt lo g.1 | none => true)
def want (t : List (LKey × Tn n)) (lo hi : LKey) (i : Nat) : List (LKey × Tn n) :=
  match t[i]? with
  | none => []
  | some c => if isBelow t hi i c.1 && isAbove t lo i then [c] else []
def wants (t : List (LKey × Tn n)) (lo hi : LKey) (m : Nat) : List (LKey × Tn n) := (List.range m).flatMap (want t lo hi)
theorem want_sub {t : List (LKey × Tn n)} {lo hi : LKey} {i : Nat} {c : LKey × Tn n} (h : c ∈ want t lo hi i) : c ∈ t := by
  unfold want at h
  split at h
  · cases h
  · rename_i c' e
    split at h
    · obtain rfl := List.mem_singleton.mp h
      exact List.mem_of_getElem? e
    · cases h
theorem wants_sub {t : List (LKey × Tn n)} {lo hi : LKey} {m : Nat} {c : LKey × Tn n} (h : c ∈ wants t lo hi m) : c ∈ t := by
  obtain ⟨i, _, h⟩ := List.mem_flatMap.mp h
  exact want_sub h
theorem want_len (t : List (LKey × Tn n)) (lo hi : LKey) (i : Nat) : (want t lo hi i).length ≤ 1 := by
  unfold want
  split
  · exact Nat.zero_le _
  · split <;> simp
theorem wants_succ (t : List (LKey × Tn n)) (lo hi : LKey) (m : Nat) : wants t lo hi (m + 1) = wants t lo hi m ++ want t lo hi m := by
  unfold wants
  rw [List.range_succ, List.flatMap_append]
  simp
theorem wants_len (t : List (LKey × Tn n)) (lo hi : LKey) : ∀ m, (wants t lo hi m).length ≤ m
  | 0 => Nat.zero_le _
  | m + 1 => by
    rw [wants_succ, List.length_append]
    have := wants_len t lo hi m
    have := want_len t lo hi m
    omega
theorem first_le {c : LKey × Tn n} {e : Ent} (g : good n c.2 ∧ c.1 = fstT n c.2) (s : Sd (ents n c.2)) (m : e ∈ ents n c.2) : kle c.1 e.1 = true := by
  obtain ⟨d, r, q⟩ := head_ents g.1
  rw [q] at m s
  rw [g.2]
  rcases List.mem_cons.mp m with rfl | m
  · exact kle_refl _
  · exact kle_iff.mpr (.inl ((List.pairwise_cons.mp s).1 e m))
theorem kid_lt {cs : List (LKey × Tn n)} {i j : Nat} {c c' : LKey × Tn n} {e e' : Ent} (g : goodC cs) (s : Sd (cents cs)) (h : cs[i]? = some c) (h' : cs[j]? = some c') (m : e ∈ ents n c.2) (m' : e' ∈ ents n c'.2) (l : i < j) : klt e.1 e'.1 = true := by
  have a := pl_at g s h m
  have b := pl_at g s h' m'
  cases q : klt e.1 e'.1 with
  | true => rfl
  | false =>
    have z : kle e'.1 e.1 = true := by unfold kle; rw [q]; rfl
    have := pl_mono (fs := fsT cs) z
    omega
theorem want_spec {cs : List (LKey × Tn n)} {lo hi : LKey} {i : Nat} {c : LKey × Tn n} (g : goodC cs) (s : Sd (cents cs)) (h : cs[i]? = some c) : (cents (want cs lo hi i)).filter (inR lo hi) = (ents n c.2).filter (inR lo hi) := by
  have mc := List.mem_of_getElem? h
  unfold want
  rw [h]
  dsimp only
  split
  · rw [show cents [c] = ents n c.2 by simp [cents]]
  · rename_i hn
    rw [show cents ([] : List (LKey × Tn n)) = [] from rfl, List.filter_nil]
    symm
    rw [List.filter_eq_nil_iff]
    intro e he z
    unfold inR at z
    rw [Bool.and_eq_true] at z
    refine hn ?_
    rw [Bool.and_eq_true]
    constructor
    · unfold isBelow
      rw [Bool.or_eq_true]
      exact .inr (klt_of_le_lt (first_le (g c mc) (sd_kid s mc) he) z.2)
    · unfold isAbove
      rw [Bool.or_eq_true]
      right
      split
      · rename_i c' h'
        have mc' := List.mem_of_getElem? h'
        obtain ⟨d, r, q⟩ := head_ents (g c' mc').1
        have := kid_lt (e := e) (e' := (fstT n c'.2, d)) g s h h' he (by rw [q]; exact List.mem_cons_self) (Nat.lt_succ_self i)
        rw [(g c' mc').2]
        exact klt_of_le_lt z.1 this
      · rfl
theorem wants_pre {cs : List (LKey × Tn n)} {lo hi : LKey} (g : goodC cs) (s : Sd (cents cs)) : ∀ m, m ≤ cs.length → (cents (wants cs lo hi m)).filter (inR lo hi) = (cents (cs.take m)).filter (inR lo hi)
  | 0, _ => rfl
  | m + 1, h => by
    have hm := List.getElem?_eq_getElem (show m < cs.length from h)
    rw [wants_succ, List.take_add_one, hm]
    unfold cents
    rw [List.flatMap_append, List.flatMap_append, List.filter_append, List.filter_append]
    have := wants_pre (lo := lo) (hi := hi) g s m (Nat.le_of_succ_le h)
    unfold cents at this
    rw [this]
    have := want_spec (lo := lo) (hi := hi) g s hm
    unfold cents at this
    rw [this]
    simp
theorem wants_spec {cs : List (LKey × Tn n)} {lo hi : LKey} (g : goodC cs) (s : Sd (cents cs)) : (cents (wants cs lo hi cs.length)).filter (inR lo hi) = (cents cs).filter (inR lo hi) := by
  rw [wants_pre g s _ (Nat.le_refl _), List.take_length]
theorem want_cost {cs : List (LKey × Tn n)} {lo hi : LKey} : ∀ m, m ≤ cs.length → (cents (wants cs lo hi m)).length ≤ (cents (cs.take m)).length
  | 0, _ => Nat.le_refl _
  | m + 1, h => by
    have hm := List.getElem?_eq_getElem (show m < cs.length from h)
    rw [wants_succ, List.take_add_one, hm]
    have := want_cost (lo := lo) (hi := hi) m (Nat.le_of_succ_le h)
    unfold cents at this ⊢
    rw [List.flatMap_append, List.flatMap_append, List.length_append, List.length_append]
    have : (List.flatMap (fun c => ents n c.2) (want cs lo hi m)).length ≤ (List.flatMap (fun c => ents n c.2) (some cs[m]).toList).length := by
      unfold want
      rw [hm]
      dsimp only
      split
      · exact Nat.le_refl _
      · exact Nat.zero_le _
    omega
theorem wants_cost {cs : List (LKey × Tn n)} {lo hi : LKey} : (cents (wants cs lo hi cs.length)).length ≤ (cents cs).length := by
  have := want_cost (lo := lo) (hi := hi) (cs := cs) _ (Nat.le_refl _)
  rw [List.take_length] at this
  exact this
end
end G

/-! Pages and their names. -/
namespace G
open PySem L2 TL
mutual
def nice : PyData → Bool
  | .none => true
  | .bool _ => true
  | .int i => decide (i.natAbs < 10 ^ 21)
  | .str x => x.cps.toList.all okSign
  | .tuple ds => niceAll ds
  | .list _ => false
  | .dict _ => false
def niceAll : List PyData → Bool
  | [] => true
  | d :: ds => nice d && niceAll ds
end
mutual
def wd : PyData → Nat
  | .none => 4
  | .bool _ => 5
  | .int _ => 22
  | .str x => x.cps.size + 2
  | .tuple ds => 3 + wdAll ds
  | .list _ => 0
  | .dict _ => 0
def wdAll : List PyData → Nat
  | [] => 0
  | d :: ds => wd d + 2 + wdAll ds
end
mutual
theorem nice_nc : ∀ d : PyData, nice d = true → nc d = true
  | .none, _ => by simp [nc]
  | .bool _, _ => by simp [nc]
  | .int _, _ => by simp [nc]
  | .str x, h => by rw [nice] at h; rw [nc]; exact h
  | .tuple ds, h => by rw [nice] at h; rw [nc]; exact nice_ncAll ds h
  | .list _, h => by simp [nice] at h
  | .dict _, h => by simp [nice] at h
theorem nice_ncAll : ∀ ds : List PyData, niceAll ds = true → ncAll ds = true
  | [], _ => by rw [ncAll]
  | d :: ds, h => by
    rw [niceAll, Bool.and_eq_true] at h
    rw [ncAll, nice_nc d h.1, nice_ncAll ds h.2]
    rfl
end
theorem log2_ok {i : Int} (h : i.natAbs < 10 ^ 21) : i.natAbs.log2 < 1920 := by
  by_cases z : i.natAbs = 0
  · rw [z]; decide
  · rw [Nat.log2_lt z]
    exact Nat.lt_of_lt_of_le h (Nat.le_trans (show 10 ^ 21 ≤ 2 ^ 70 by decide) (Nat.pow_le_pow_right (by decide) (by decide)))
mutual
theorem nice_show : ∀ d : PyData, nice d = true → d.showable = true
  | .none, _ => by simp [PyData.showable]
  | .bool _, _ => by simp [PyData.showable]
  | .int i, h => by
    rw [nice, decide_eq_true_eq] at h
    rw [PyData.showable]
    exact decide_eq_true (log2_ok h)
  | .str x, _ => by simp [PyData.showable]
  | .tuple ds, h => by rw [nice] at h; rw [PyData.showable]; exact nice_showAll ds h
  | .list _, h => by simp [nice] at h
  | .dict _, h => by simp [nice] at h
theorem nice_showAll : ∀ ds : List PyData, niceAll ds = true → PyData.showableAll ds = true
  | [], _ => by rw [PyData.showableAll]
  | d :: ds, h => by
    rw [niceAll, Bool.and_eq_true] at h
    rw [PyData.showableAll, nice_show d h.1, nice_showAll ds h.2]
    rfl
end
mutual
theorem nice_dict : ∀ d : PyData, nice d = true → d.hasDict = false
  | .none, _ => by simp [PyData.hasDict]
  | .bool _, _ => by simp [PyData.hasDict]
  | .int i, h => by simp [PyData.hasDict]
  | .str x, _ => by simp [PyData.hasDict]
  | .tuple ds, h => by rw [nice] at h; rw [PyData.hasDict]; exact nice_dictAll ds h
  | .list _, h => by simp [nice] at h
  | .dict _, h => by simp [nice] at h
theorem nice_dictAll : ∀ ds : List PyData, niceAll ds = true → PyData.hasDictAll ds = false
  | [], _ => by rw [PyData.hasDictAll]
  | d :: ds, h => by
    rw [niceAll, Bool.and_eq_true] at h
    rw [PyData.hasDictAll, nice_dict d h.1, nice_dictAll ds h.2]
    rfl
end
theorem intL_len {i : Int} (h : i.natAbs < 10 ^ 21) : (intL i).length ≤ 22 := by
  cases i with
  | ofNat m =>
    have e1 : intL (Int.ofNat m) = numL m := intL_nat m
    rw [e1]
    have := numL_len (n := m) (k := 21) (by decide) h
    omega
  | negSucc m =>
    rw [intL_neg, List.length_cons]
    have := numL_len (n := m + 1) (k := 21) (by decide) h
    omega
mutual
theorem shw_len : ∀ d : PyData, nice d = true → (shw d).length ≤ wd d
  | .none, _ => by rw [shw_none, wd]; decide
  | .bool true, _ => by rw [shw_true, wd]; decide
  | .bool false, _ => by rw [shw_false, wd]; decide
  | .int i, h => by
    rw [nice, decide_eq_true_eq] at h
    rw [shw_int, wd]
    exact intL_len h
  | .str x, h => by
    rw [nice] at h
    rw [shw_str h, wd]
    simp [tl]
  | .tuple ds, h => by
    rw [nice] at h
    rw [shw_tuple, wd, List.length_cons]
    have := body1_len ds h
    omega
  | .list _, h => by simp [nice] at h
  | .dict _, h => by simp [nice] at h
theorem body1_len : ∀ ds : List PyData, niceAll ds = true → (body1 ds).length ≤ 2 + wdAll ds
  | [], _ => by rw [wdAll]; show 1 ≤ 2; decide
  | [d], h => by
    rw [niceAll, Bool.and_eq_true] at h
    have := shw_len d h.1
    rw [wdAll, wdAll]
    show (shw d ++ [44, 41]).length ≤ _
    rw [List.length_append]
    show _ + 2 ≤ _
    omega
  | d :: e :: r, h => by
    rw [niceAll, Bool.and_eq_true] at h
    have h1 := shw_len d h.1
    have h2 := body2_len (e :: r) h.2
    rw [wdAll]
    show (shw d ++ (44 :: 32 :: body2 (e :: r))).length ≤ _
    rw [List.length_append, List.length_cons, List.length_cons]
    omega
theorem body2_len : ∀ ds : List PyData, niceAll ds = true → (body2 ds).length ≤ 1 + wdAll ds
  | [], _ => by rw [wdAll]; show 1 ≤ 1; decide
  | [d], h => by
    rw [niceAll, Bool.and_eq_true] at h
    have := shw_len d h.1
    rw [wdAll, wdAll]
    show (shw d ++ [41]).length ≤ _
    rw [List.length_append]
    show _ + 1 ≤ _
    omega
  | d :: e :: r, h => by
    rw [niceAll, Bool.and_eq_true] at h
    have h1 := shw_len d h.1
    have h2 := body2_len (e :: r) h.2
    rw [wdAll]
    show (shw d ++ (44 :: 32 :: body2 (e :: r))).length ≤ _
    rw [List.length_append, List.length_cons, List.length_cons]
    omega
end
theorem shown_len {d : PyData} (h : nice d = true) : d.shown.length ≤ wd d := by
  have := shw_len d h
  unfold shw tl at this
  rw [Array.length_toList] at this
  exact this
theorem nice_repr {d : PyData} (h : nice d = true) (hd : d.depth ≤ 60) (hw : wd d ≤ sizeLine) : reprOk d := ⟨nice_show d h, nice_dict d h, hd, Nat.le_trans (shown_len h) hw⟩
theorem niceAll_iff : ∀ {ds : List PyData}, niceAll ds = true ↔ ∀ d ∈ ds, nice d = true
  | [] => by simp [niceAll]
  | d :: ds => by
    rw [niceAll, Bool.and_eq_true, niceAll_iff]
    simp
theorem wdAll_le {b : Nat} : ∀ {ds : List PyData}, (∀ d ∈ ds, wd d ≤ b) → wdAll ds ≤ ds.length * (b + 2)
  | [], _ => by rw [wdAll]; exact Nat.zero_le _
  | d :: ds, h => by
    have h1 := h d List.mem_cons_self
    have h2 := wdAll_le (ds := ds) fun d m => h d (List.mem_cons_of_mem _ m)
    rw [wdAll, List.length_cons, Nat.succ_mul]
    omega
theorem depthAll_le {b : Nat} : ∀ {ds : List PyData}, (∀ d ∈ ds, d.depth ≤ b) → PyData.depthAll ds ≤ b
  | [], _ => by rw [PyData.depthAll]; exact Nat.zero_le _
  | d :: ds, h => by
    have h1 := h d List.mem_cons_self
    have h2 := depthAll_le (ds := ds) fun d m => h d (List.mem_cons_of_mem _ m)
    rw [PyData.depthAll]
    omega

/-! ### keys and values of the law -/
structure okKey (k : LKey) : Prop where
  ok : okK k = true
  ne : k ≠ []
  len : k.length ≤ 1000
  nice : nice (keyD k) = true
  wd : wd (keyD k) ≤ 100
structure okVal (d : PyData) : Prop where
  nice : nice d = true
  wd : wd d ≤ 100
  dep : d.depth ≤ 2

/-! ### pages -/
inductive Pg where
  | leaf (es : List Ent)
  | node (cs : List (LKey × Int))
def entD (e : Ent) : PyData := .tuple [keyD e.1, e.2]
def kidD (c : LKey × Int) : PyData := .tuple [keyD c.1, .int c.2]
def pgD : Pg → PyData
  | .leaf es => .tuple [.str "leaf", .tuple (es.map entD)]
  | .node cs => .tuple [.str "node", .tuple (cs.map kidD)]
def txt (p : Pg) : Str := (pgD p).shown
def okPg : Pg → Prop
  | .leaf es => es.length ≤ 6 ∧ ∀ e ∈ es, okKey e.1 ∧ okVal e.2
  | .node cs => cs.length ≤ 6 ∧ ∀ c ∈ cs, okKey c.1 ∧ c.2.natAbs < 10 ^ 21
theorem keyD_inj {a b : LKey} (h : keyD a = keyD b) : a = b := by
  have e := keyD_eqv a b
  rw [h] at e
  have e2 := keyD_eqv b b
  rw [e2] at e
  simpa using e.symm
theorem map_inj {α β : Type} {f : α → β} (hf : ∀ a b, f a = f b → a = b) : ∀ {as bs : List α}, as.map f = bs.map f → as = bs
  | [], [], _ => rfl
  | [], _ :: _, h => by cases h
  | _ :: _, [], h => by cases h
  | a :: as, b :: bs, h => by
    rw [List.map_cons, List.map_cons] at h
    injection h with h1 h2
    rw [hf _ _ h1, map_inj hf h2]
theorem pgD_inj {p q : Pg} (h : pgD p = pgD q) : p = q := by
  match p, q, h with
  | .leaf es, .leaf es', h =>
    unfold pgD at h
    injection h with h
    injection h with _ h
    injection h with h
    injection h with h
    rw [map_inj (fun a b q => ?_) h]
    unfold entD at q
    injection q with q
    injection q with q1 q
    injection q with q2 _
    exact Prod.ext (keyD_inj q1) q2
  | .node es, .node es', h =>
    unfold pgD at h
    injection h with h
    injection h with _ h
    injection h with h
    injection h with h
    rw [map_inj (fun a b q => ?_) h]
    unfold kidD at q
    injection q with q
    injection q with q1 q
    injection q with q2 _
    injection q2 with q2
    exact Prod.ext (keyD_inj q1) q2
  | .leaf es, .node es', h =>
    unfold pgD at h
    injection h with h
    injection h with h _
    injection h with h
    exact absurd h (by decide +kernel)
  | .node es, .leaf es', h =>
    unfold pgD at h
    injection h with h
    injection h with h _
    injection h with h
    exact absurd h (by decide +kernel)
theorem leaf_ok : nice (.str "leaf") = true ∧ wd (.str "leaf") = 6 := by decide +kernel
theorem node_ok : nice (.str "node") = true ∧ wd (.str "node") = 6 := by decide +kernel
theorem depth_two {d e : PyData} {b : Nat} (h1 : d.depth ≤ b) (h2 : e.depth ≤ b) : (PyData.tuple [d, e]).depth ≤ b + 1 := by
  rw [PyData.depth]
  exact Nat.succ_le_succ (depthAll_le (by simp [h1, h2]))
theorem two_ok {d e : PyData} (h1 : nice d = true) (h2 : nice e = true) : nice (.tuple [d, e]) = true ∧ wd (.tuple [d, e]) = 3 + (wd d + 2 + (wd e + 2 + 0)) := by
  rw [nice, wd, niceAll, niceAll, niceAll, wdAll, wdAll, wdAll, h1, h2]
  exact ⟨rfl, rfl⟩
theorem many_ok {ds : List PyData} {b z : Nat} (h : ∀ d ∈ ds, nice d = true ∧ wd d ≤ b ∧ d.depth ≤ z) : nice (.tuple ds) = true ∧ wd (.tuple ds) ≤ 3 + ds.length * (b + 2) ∧ (PyData.tuple ds).depth ≤ z + 1 := by
  rw [nice, wd, PyData.depth]
  exact ⟨niceAll_iff.mpr fun d m => (h d m).1, Nat.add_le_add_left (wdAll_le fun d m => (h d m).2.1) 3, Nat.succ_le_succ (depthAll_le fun d m => (h d m).2.2)⟩
theorem entD_ok {e : Ent} (h : okKey e.1) (h' : okVal e.2) : nice (entD e) = true ∧ wd (entD e) ≤ 210 ∧ (entD e).depth ≤ 3 := by
  obtain ⟨a, b⟩ := two_ok h.nice h'.nice
  refine ⟨a, ?_, depth_two (by rw [keyD_depth]; decide) h'.dep⟩
  unfold entD
  rw [b]
  have := h.wd
  have := h'.wd
  omega
theorem kidD_ok {c : LKey × Int} (h : okKey c.1) (h' : c.2.natAbs < 10 ^ 21) : nice (kidD c) = true ∧ wd (kidD c) ≤ 210 ∧ (kidD c).depth ≤ 3 := by
  obtain ⟨a, b⟩ := two_ok h.nice (show nice (.int c.2) = true by rw [nice]; exact decide_eq_true h')
  refine ⟨a, ?_, depth_two (by rw [keyD_depth]; decide) (by rw [PyData.depth]; decide)⟩
  unfold kidD
  rw [b]
  have := h.wd
  have : wd (.int c.2) = 22 := by rw [wd]
  omega
theorem pgD_ok {p : Pg} (h : okPg p) : nice (pgD p) = true ∧ reprOk (pgD p) := by
  have go : ∀ {x : Str} {ds : List PyData}, nice (.str x) = true → wd (.str x) = 6 → ds.length ≤ 6 → (∀ d ∈ ds, nice d = true ∧ wd d ≤ 210 ∧ d.depth ≤ 3) → nice (.tuple [.str x, .tuple ds]) = true ∧ reprOk (.tuple [.str x, .tuple ds]) := by
    intro x ds h1 h2 h3 h4
    obtain ⟨a, b, c⟩ := many_ok h4
    obtain ⟨a2, b2⟩ := two_ok h1 a
    refine ⟨a2, nice_repr a2 (Nat.le_trans (depth_two (b := 4) (by rw [PyData.depth]; decide) c) (by decide)) ?_⟩
    rw [b2, h2]
    have h5 : ds.length * 212 ≤ 6 * 212 := Nat.mul_le_mul_right _ h3
    have : sizeLine = 16777216 := by decide
    omega
  match p, h with
  | .leaf es, ⟨h1, h2⟩ =>
    exact go leaf_ok.1 leaf_ok.2 (by rw [List.length_map]; exact h1) fun d m => by
      obtain ⟨e, me, rfl⟩ := List.mem_map.mp m
      exact entD_ok (h2 e me).1 (h2 e me).2
  | .node cs, ⟨h1, h2⟩ =>
    exact go node_ok.1 node_ok.2 (by rw [List.length_map]; exact h1) fun d m => by
      obtain ⟨e, me, rfl⟩ := List.mem_map.mp m
      exact kidD_ok (h2 e me).1 (h2 e me).2
theorem txt_inj {p q : Pg} (hp : okPg p) (hq : okPg q) (h : txt p = txt q) : p = q :=
  pgD_inj (shown_inj (nice_nc _ (pgD_ok hp).1) (nice_nc _ (pgD_ok hq).1) h)
end G

/-! The registry, plain; a tree's pages by their names. -/
namespace G
open PySem L2
/-! ### lists -/
theorem nodup_len {α : Type} [DecidableEq α] : ∀ {l m : List α}, l.Nodup → (∀ x ∈ l, x ∈ m) → l.length ≤ m.length
  | [], _, _, _ => Nat.zero_le _
  | x :: l, m, n, h => by
    have n' := List.nodup_cons.mp n
    have hx := h x List.mem_cons_self
    have := nodup_len (l := l) (m := m.erase x) n'.2 fun y hy => by
      have hy' := h y (List.mem_cons_of_mem _ hy)
      rw [List.mem_erase_of_ne (fun z => n'.1 (by rw [← z]; exact hy))]
      exact hy'
    rw [List.length_erase_of_mem hx] at this
    have := List.length_pos_of_mem hx
    rw [List.length_cons]
    omega
def ixS : List Str → Str → Nat
  | [], _ => 0
  | t :: r, x => if t = x then 0 else ixS r x + 1
theorem ixS_ne {t x : Str} {r : List Str} (h : ¬ t = x) : ixS (t :: r) x = ixS r x + 1 := by
  conv => lhs; unfold ixS
  rw [if_neg h]
theorem ixS_get : ∀ {ts : List Str} {x : Str}, x ∈ ts → ts[ixS ts x]? = some x
  | t :: r, x, h => by
    unfold ixS
    split
    · rename_i e
      rw [e]
      rfl
    · rename_i n
      have := ixS_get (ts := r) (x := x) ((List.mem_cons.mp h).resolve_left fun z => n z.symm)
      simpa using this
theorem ixS_inj {ts : List Str} {x y : Str} (hx : x ∈ ts) (hy : y ∈ ts) (h : ixS ts x = ixS ts y) : x = y := by
  have a := ixS_get hx
  rw [h, ixS_get hy] at a
  cases a
  rfl
theorem ixS_lt {ts : List Str} {x : Str} (hx : x ∈ ts) : ixS ts x < ts.length := (List.getElem?_eq_some_iff.mp (ixS_get hx)).1
theorem ixS_app : ∀ {ts ys : List Str} {x : Str}, x ∈ ts → ixS (ts ++ ys) x = ixS ts x
  | t :: r, ys, x, h => by
    rw [List.cons_append]
    unfold ixS
    split
    · rfl
    · rename_i n
      rw [ixS_app ((List.mem_cons.mp h).resolve_left fun z => n z.symm)]
theorem ixS_new : ∀ {ts : List Str} {x : Str}, x ∉ ts → ixS ts x = ts.length
  | [], _, _ => rfl
  | t :: r, x, h => by
    unfold ixS
    rw [if_neg fun z => h (by rw [z]; exact List.mem_cons_self), ixS_new fun m => h (List.mem_cons_of_mem _ m)]
    rfl
theorem ixS_last : ∀ {ts : List Str} {x : Str}, x ∉ ts → ixS (ts ++ [x]) x = ts.length
  | [], _, _ => by simp [ixS]
  | t :: r, x, h => by
    rw [List.cons_append]
    unfold ixS
    rw [if_neg fun z => h (by rw [z]; exact List.mem_cons_self), ixS_last fun m => h (List.mem_cons_of_mem _ m)]
    first | done | rfl
/-- the registry's dict of names -/
def regFrom : Nat → List Str → List (Key × V)
  | _, [] => []
  | i, t :: r => (.inr t, .int ((i + 1 : Nat) : Int)) :: regFrom (i + 1) r
def reg (ts : List Str) : List (Key × V) := regFrom 0 ts
theorem reg_len : ∀ (i : Nat) (ts : List Str), (regFrom i ts).length = ts.length
  | _, [] => rfl
  | i, t :: r => by rw [regFrom, List.length_cons, List.length_cons, reg_len]
theorem reg_val : ∀ (i : Nat) (ts : List Str) (x : Str), valV (regFrom i ts) (.inr x : Key) = if x ∈ ts then some (.int ((i + ixS ts x + 1 : Nat) : Int)) else none
  | _, [], x => rfl
  | i, t :: r, x => by
    rw [regFrom]
    by_cases h : t = x
    · subst h
      rw [valV_pos rfl, if_pos List.mem_cons_self]
      unfold ixS
      rw [if_pos rfl]
    · rw [valV_neg (fun z => h (by injection z)), reg_val (i + 1) r x]
      by_cases m : x ∈ r
      · rw [if_pos m, if_pos (List.mem_cons_of_mem _ m)]
        rw [ixS_ne h]
        congr 3
        omega
      · rw [if_neg m, if_neg fun z => (List.mem_cons.mp z).elim (fun e => h e.symm) m]
theorem reg_app : ∀ (i : Nat) (ts : List Str) (x : Str), regFrom i (ts ++ [x]) = regFrom i ts ++ [(.inr x, .int ((i + ts.length + 1 : Nat) : Int))]
  | _, [], x => rfl
  | i, t :: r, x => by
    rw [List.cons_append, regFrom, reg_app (i + 1) r x, regFrom, List.cons_append, List.length_cons]
    congr 5
    omega
/-- the registry behind name(x) -/
def named (ts : List Str) (x : Str) : List Str := if x ∈ ts then ts else ts ++ [x]
def nmOf (ts : List Str) (x : Str) : Nat := ixS ts x + 1
theorem named_mem (ts : List Str) (x : Str) : x ∈ named ts x := by
  unfold named
  split
  · assumption
  · simp
theorem named_pre (ts : List Str) (x : Str) : ts <+: named ts x := by
  unfold named
  split
  · exact List.prefix_refl _
  · exact List.prefix_append _ _
theorem named_len (ts : List Str) (x : Str) : (named ts x).length ≤ ts.length + 1 := by
  unfold named
  split
  · omega
  · simp
theorem nmOf_pre {ts ts' : List Str} {x : Str} (p : ts <+: ts') (h : x ∈ ts) : nmOf ts' x = nmOf ts x := by
  obtain ⟨ys, rfl⟩ := p
  unfold nmOf
  rw [ixS_app h]
theorem mem_pre {ts ts' : List Str} {x : Str} (p : ts <+: ts') (h : x ∈ ts) : x ∈ ts' := by
  obtain ⟨ys, rfl⟩ := p
  exact List.mem_append_left _ h
theorem nmOf_le {ts : List Str} {x : Str} (h : x ∈ ts) : nmOf ts x ≤ ts.length := ixS_lt h
theorem reg_get (ts : List Str) (x : Str) : valV (reg ts) (.inr x : Key) = if x ∈ ts then some (.int (nmOf ts x : Nat)) else none := by
  unfold reg nmOf
  rw [reg_val, Nat.zero_add]
theorem reg_named {ts : List Str} {x : Str} (h : x ∉ ts) : putK (reg ts) (.inr x : Key) (.int ((ts.length + 1 : Nat) : Int)) = reg (named ts x) := by
  rw [putK_new _ (by rw [reg_get, if_neg h])]
  unfold named reg
  rw [if_neg h, reg_app, Nat.zero_add]
theorem named_name {ts : List Str} {x : Str} (h : x ∉ ts) : nmOf (named ts x) x = ts.length + 1 := by
  unfold named nmOf
  rw [if_neg h, ixS_last h]

/-! ### names of trees -/
def pgOf (ts : List Str) : (n : Nat) → Tn n → Pg
  | 0, t => .leaf t
  | n + 1, t => .node (List.map (fun c : LKey × Tn n => (c.1, ((nmOf ts (txt (pgOf ts n c.2)) : Nat) : Int))) t)
def nm (ts : List Str) (n : Nat) (t : Tn n) : Nat := nmOf ts (txt (pgOf ts n t))
def Has (ts : List Str) (K : Key → Prop) : (n : Nat) → Tn n → Prop
  | 0, t => txt (pgOf ts 0 t) ∈ ts ∧ K (.inl (nm ts 0 t : Nat))
  | n + 1, t => (txt (pgOf ts (n + 1) t) ∈ ts ∧ K (.inl (nm ts (n + 1) t : Nat))) ∧ ∀ c : LKey × Tn n, List.Mem c t → Has ts K n c.2
section
variable {ts ts' : List Str} {K K' : Key → Prop}
theorem Has.top : ∀ {n : Nat} {t : Tn n}, Has ts K n t → txt (pgOf ts n t) ∈ ts ∧ K (.inl (nm ts n t : Nat))
  | 0, _, h => h
  | _ + 1, _, h => h.1
theorem Has.kid {n : Nat} {t : List (LKey × Tn n)} {c : LKey × Tn n} (h : Has ts K (n + 1) t) (m : c ∈ t) : Has ts K n c.2 := h.2 c m
theorem Has.pg (p : ts <+: ts') : ∀ {n : Nat} {t : Tn n}, Has ts K n t → pgOf ts' n t = pgOf ts n t
  | 0, _, _ => rfl
  | n + 1, t, h => by
    unfold pgOf
    congr 1
    refine List.map_congr_left fun c m => ?_
    have hc := h.2 c m
    rw [Has.pg p hc, nmOf_pre p hc.top.1]
theorem Has.nm (p : ts <+: ts') {n : Nat} {t : Tn n} (h : Has ts K n t) : nm ts' n t = nm ts n t := by
  unfold G.nm
  rw [h.pg p, nmOf_pre p h.top.1]
theorem Has.mono (p : ts <+: ts') (q : ∀ k, K k → K' k) : ∀ {n : Nat} {t : Tn n}, Has ts K n t → Has ts' K' n t
  | 0, t, h => ⟨mem_pre p h.1, by rw [Has.nm (n := 0) (t := t) p h]; exact q _ h.2⟩
  | n + 1, t, h => ⟨⟨by rw [h.pg p]; exact mem_pre p h.1.1, by rw [h.nm p]; exact q _ h.1.2⟩, fun c m => Has.mono p q (h.2 c m)⟩
/-- a new page over pages that are there -/
theorem has_node {n : Nat} {cs : List (LKey × Tn n)} (h : ∀ c ∈ cs, Has ts K n c.2) (hk : ∀ k, K k → K' k) (hn : K' (.inl (nmOf (named ts (txt (pgOf ts (n + 1) cs))) (txt (pgOf ts (n + 1) cs)) : Nat))) :
    Has (named ts (txt (pgOf ts (n + 1) cs))) K' (n + 1) cs ∧ pgOf (named ts (txt (pgOf ts (n + 1) cs))) (n + 1) cs = pgOf ts (n + 1) cs := by
  have e : pgOf (named ts (txt (pgOf ts (n + 1) cs))) (n + 1) cs = pgOf ts (n + 1) cs := by
    show Pg.node _ = Pg.node _
    refine congrArg Pg.node (List.map_congr_left fun c m => ?_)
    have hc := h c m
    rw [Has.pg (named_pre _ _) hc, nmOf_pre (named_pre _ _) hc.top.1]
  refine ⟨⟨⟨?_, ?_⟩, fun c m => Has.mono (named_pre _ _) hk (h c m)⟩, e⟩
  · rw [e]
    exact named_mem _ _
  · unfold G.nm
    rw [e]
    exact hn
theorem has_leaf {es : List Ent} (hn : K' (.inl (nmOf (named ts (txt (.leaf es))) (txt (.leaf es)) : Nat))) : Has (named ts (txt (.leaf es))) K' 0 es := ⟨named_mem _ _, hn⟩
end

/-! ### pages in the heap -/
def EntAt (H : Hp) (x : V) (e : Ent) : Prop := ∃ a q w, x = .ref a ∧ TupAt H a [q, w] ∧ KeyAt H q e.1 ∧ Td H w e.2
def KidAt (H : Hp) (x : V) (c : LKey × Int) : Prop := ∃ a q, x = .ref a ∧ TupAt H a [q, .int c.2] ∧ KeyAt H q c.1
def PG (H : Hp) (v : V) : Pg → Prop
  | .leaf es => ∃ a q xs, v = .ref a ∧ TupAt H a [.str "leaf", .ref q] ∧ FzT H q xs ∧ Paired (EntAt H) xs es
  | .node cs => ∃ a q xs, v = .ref a ∧ TupAt H a [.str "node", .ref q] ∧ FzT H q xs ∧ Paired (KidAt H) xs cs
section
variable {H H' : Hp}
theorem EntAt.keep (k : Tk H H') {x : V} {e : Ent} (h : EntAt H x e) : EntAt H' x e := let ⟨a, q, w, h1, h2, h3, h4⟩ := h; ⟨a, q, w, h1, h2.keep k, h3.keep k, Td.keep k _ _ h4⟩
theorem KidAt.keep (k : Tk H H') {x : V} {c : LKey × Int} (h : KidAt H x c) : KidAt H' x c := let ⟨a, q, h1, h2, h3⟩ := h; ⟨a, q, h1, h2.keep k, h3.keep k⟩
theorem PG.keep (k : Tk H H') {v : V} : ∀ {p : Pg}, PG H v p → PG H' v p
  | .leaf _, ⟨a, q, xs, h1, h2, h3, h4⟩ => ⟨a, q, xs, h1, h2.keep k, h3.keep k, Paired.mapP h4 fun _ _ => EntAt.keep k⟩
  | .node _, ⟨a, q, xs, h1, h2, h3, h4⟩ => ⟨a, q, xs, h1, h2.keep k, h3.keep k, Paired.mapP h4 fun _ _ => KidAt.keep k⟩
theorem EntAt.td {x : V} {e : Ent} (h : EntAt H x e) : Td H x (entD e) := let ⟨a, q, w, h1, h2, h3, h4⟩ := h; by subst h1; exact Td.mk2 h2 h3.td h4
theorem KidAt.td {x : V} {c : LKey × Int} (h : KidAt H x c) : Td H x (kidD c) := let ⟨a, q, h1, h2, h3⟩ := h; by subst h1; exact Td.mk2 h2 h3.td (Td.int'.mpr rfl)
theorem tds {α : Type} {R : V → α → Prop} {f : α → PyData} (g : ∀ x a, R x a → Td H x (f a)) : ∀ {xs : List V} {as : List α}, Paired R xs as → TdAll H xs (as.map f)
  | _, _, .nil => TdAll.nil'.mpr rfl
  | _, _, .cons h t => TdAll.cons'.mpr ⟨_, _, rfl, g _ _ h, tds g t⟩
theorem PG.td {v : V} : ∀ {p : Pg}, PG H v p → Td H v (pgD p)
  | .leaf _, ⟨a, q, xs, h1, h2, h3, h4⟩ => by
    subst h1
    exact Td.mk2 h2 (Td.str'.mpr rfl) (Td.tup'.mpr ⟨q, xs, rfl, h3.tup, tds (f := entD) (fun _ _ => EntAt.td) h4⟩)
  | .node _, ⟨a, q, xs, h1, h2, h3, h4⟩ => by
    subst h1
    exact Td.mk2 h2 (Td.str'.mpr rfl) (Td.tup'.mpr ⟨q, xs, rfl, h3.tup, tds (f := kidD) (fun _ _ => KidAt.td) h4⟩)
end
/-- a dict of pages: each under its own name -/
structure PagesOk (H : Hp) (ts : List Str) (kvs : List (Key × V)) : Prop where
  nd : (kvs.map (·.1)).Nodup
  at' : ∀ kv ∈ kvs, ∃ p, okPg p ∧ txt p ∈ ts ∧ kv.1 = .inl (nmOf ts (txt p) : Nat) ∧ PG H kv.2 p
def In (kvs : List (Key × V)) (k : Key) : Prop := (valV kvs k).isSome = true
theorem In.put {kvs : List (Key × V)} {k j : Key} {y : V} (h : In kvs j) : In (putK kvs k y) j := by
  unfold In at h ⊢
  rw [valV_put]
  split
  · rfl
  · exact h
theorem In.self {kvs : List (Key × V)} {k : Key} {y : V} : In (putK kvs k y) k := by
  unfold In
  rw [valV_put, if_pos rfl]
  rfl
theorem valV_mem {κ : Type} [DecidableEq κ] {kvs : List (κ × V)} {k : κ} {v : V} (h : valV kvs k = some v) : (k, v) ∈ kvs := by
  unfold valV at h
  rw [Option.map_eq_some_iff] at h
  obtain ⟨kv, e1, e2⟩ := h
  have a := List.mem_of_find?_eq_some e1
  have b := List.find?_some e1
  have b : kv.1 = k := of_decide_eq_true b
  rw [← b, ← e2]
  exact a
theorem putK_mem {κ : Type} [DecidableEq κ] {kvs : List (κ × V)} {k : κ} {y : V} {kv : κ × V} (h : kv ∈ putK kvs k y) : kv = (k, y) ∨ kv ∈ kvs := by
  unfold putK at h
  split at h
  · obtain ⟨kv', m, e⟩ := List.mem_map.mp h
    split at e
    · rename_i q
      left
      rw [← e, q]
    · right
      rw [← e]
      exact m
  · rcases List.mem_append.mp h with m | m
    · exact .inr m
    · exact .inl (List.mem_singleton.mp m)
theorem nd_put {κ : Type} [DecidableEq κ] {kvs : List (κ × V)} {k : κ} {v : V} (h : (kvs.map (·.1)).Nodup) : ((putK kvs k v).map (·.1)).Nodup := by
  cases e : valV kvs k with
  | none => exact nd_putK v h e
  | some w =>
    unfold putK
    rw [valV_any, e]
    simp only [Option.isSome_some, if_true]
    rw [List.map_map]
    have z : ((fun x : κ × V => x.1) ∘ fun kv : κ × V => if kv.1 = k then (kv.1, v) else kv) = fun kv => kv.1 := by
      funext kv
      simp only [Function.comp]
      split <;> rfl
    first
    | (rw [z]; exact h)
    | (have z2 : ((fun x : κ × V => x.1) ∘ fun kv : κ × V => if kv.1 = k then (k, v) else kv) = fun kv => kv.1 := by
        funext kv
        simp only [Function.comp]
        split
        · rename_i q; exact q.symm
        · rfl
       rw [z2]; exact h)
section
variable {H H' : Hp} {ts ts' : List Str} {kvs : List (Key × V)}
theorem PagesOk.keep (o : PagesOk H ts kvs) (k : Tk H H') : PagesOk H' ts kvs := ⟨o.nd, fun kv m => let ⟨p, h1, h2, h3, h4⟩ := o.at' kv m; ⟨p, h1, h2, h3, h4.keep k⟩⟩
theorem PagesOk.more (o : PagesOk H ts kvs) (p : ts <+: ts') : PagesOk H ts' kvs := ⟨o.nd, fun kv m => let ⟨g, h1, h2, h3, h4⟩ := o.at' kv m; ⟨g, h1, mem_pre p h2, by rw [nmOf_pre p h2]; exact h3, h4⟩⟩
theorem PagesOk.put (o : PagesOk H ts kvs) {v : V} {p : Pg} (h1 : okPg p) (h2 : txt p ∈ ts) (h3 : PG H v p) : PagesOk H ts (putK kvs (.inl (nmOf ts (txt p) : Nat)) v) :=
  ⟨nd_put o.nd, fun kv m => (putK_mem m).elim (fun e => ⟨p, h1, h2, by rw [e], by rw [e]; exact h3⟩) (o.at' kv)⟩
theorem PagesOk.len (o : PagesOk H ts kvs) : kvs.length ≤ ts.length := by
  have := nodup_len (m := ts.map fun x => (.inl (nmOf ts x : Nat) : Key)) o.nd fun k m => by
    obtain ⟨kv, mk, rfl⟩ := List.mem_map.mp m
    obtain ⟨p, _, h2, h3, _⟩ := o.at' kv mk
    exact List.mem_map.mpr ⟨_, h2, h3.symm⟩
  simpa using this
theorem PagesOk.find (o : PagesOk H ts kvs) {p : Pg} (hp : okPg p) (h : txt p ∈ ts) {v : V} (e : valV kvs (.inl (nmOf ts (txt p) : Nat)) = some v) : PG H v p := by
  obtain ⟨q, h1, h2, h3, h4⟩ := o.at' _ (valV_mem e)
  injection h3 with h3
  have h3 : nmOf ts (txt p) = nmOf ts (txt q) := by omega
  have e2 := ixS_inj h h2 (by unfold nmOf at h3; omega)
  rw [txt_inj hp h1 e2]
  exact h4
theorem PagesOk.get (o : PagesOk H ts kvs) {n : Nat} {t : Tn n} (h : Has ts (In kvs) n t) (hp : okPg (pgOf ts n t)) : ∃ v, valV kvs (.inl (nm ts n t : Nat)) = some v ∧ PG H v (pgOf ts n t) := by
  obtain ⟨h1, h2⟩ := h.top
  obtain ⟨v, e⟩ := Option.isSome_iff_exists.mp h2
  exact ⟨v, e, o.find hp h1 e⟩
end
def okEs (es : List Ent) : Prop := ∀ e ∈ es, okKey e.1 ∧ okVal e.2
theorem okPg_of {ts : List Str} (hz : ts.length < 10 ^ 21) : ∀ {n : Nat} {t : Tn n}, (good n t ∨ (n = 0 ∧ ents n t = [])) → okEs (ents n t) → Has ts (fun _ => True) n t → okPg (pgOf ts n t)
  | 0, t, g, o, _ => by
    refine ⟨?_, o⟩
    rcases g with g | g
    · exact g.2
    · have e : t = ([] : List Ent) := g.2
      rw [e]
      exact Nat.zero_le _
  | n + 1, t, g, o, h => by
    have g := g.resolve_right (fun z => Nat.succ_ne_zero n z.1)
    refine ⟨Nat.le_trans (Nat.le_of_eq (List.length_map (α := LKey × Tn n) ..)) g.2.1, fun c m => ?_⟩
    obtain ⟨c', m', rfl⟩ := List.mem_map.mp m
    obtain ⟨g1, g2⟩ := g.2.2 c' m'
    obtain ⟨d, r, e⟩ := head_ents g1
    refine ⟨?_, ?_⟩
    · have := (o (fstT n c'.2, d) (List.mem_flatMap.mpr ⟨c', m', by rw [e]; exact List.mem_cons_self⟩)).1
      rw [← g2] at this
      exact this
    · show Int.natAbs ((nmOf ts (txt (pgOf ts n c'.2)) : Nat) : Int) < _
      rw [Int.natAbs_natCast]
      exact Nat.lt_of_le_of_lt (nmOf_le (h.2 c' m').top.1) hz
end G

/-! The program's text by places; what all walks share. -/
namespace G
open PySem PySem.Spec PyProof.Rows L2
def top (i : Nat) : Stmt := PySem.Challenge.pw_trothbase_k56_whole_trees_page_by_page.main.body.getD i (.Pass ⟨0, 0, 0, 0⟩)
abbrev sRInit : Stmt := inClass (top 5) 0
abbrev sRName : Stmt := inClass (top 5) 1
abbrev sCut : Stmt := top 8
abbrev sOrder : Stmt := top 9
abbrev sPlace : Stmt := top 10
abbrev sTInit : Stmt := inClass (top 11) 0
abbrev sPage : Stmt := inClass (top 11) 1
abbrev sGet : Stmt := inClass (top 11) 2
abbrev sScan : Stmt := inClass (top 11) 3
abbrev sLay : Stmt := inClass (top 11) 4
abbrev sRepl : Stmt := inClass (top 11) 5
abbrev sChg : Stmt := inClass (top 11) 6
abbrev sPages : Stmt := inClass (top 11) 8
abbrev sEmpty : Stmt := top 12
abbrev sDraw : Stmt := top 14
abbrev sPool : Stmt := top 15
abbrev sValue : Stmt := top 16
abbrev sPicks : Stmt := top 17
abbrev sPairs : Stmt := top 18
abbrev sLCut : Stmt := top 19
abbrev sFirst : Stmt := top 20
abbrev sLRepl : Stmt := top 21
abbrev sLChg : Stmt := top 22
abbrev sLNamed : Stmt := top 23
abbrev sLSame : Stmt := top 24
abbrev sLaw : Stmt := top 25
/-- the built-in names are the built-in ones -/
structure Bn (mg : Str → Option Value) : Prop where
  tuple : mg "tuple" = none
  int : mg "int" = none
  isinstance : mg "isinstance" = none
  str : mg "str" = none
  len : mg "len" = none
  range : mg "range" = none
  dict : mg "dict" = none
  sorted : mg "sorted" = none
  enumerate : mg "enumerate" = none
  repr : mg "repr" = none
  min : mg "min" = none
/-! ### frames by kind: all but dicts stand, and dicts that D doesn't tell -/
structure Fq (D : Addr → Prop) (H H' : Hp) : Prop where
  keep : ∀ b o, H b = some o → (∀ kvs, o = .dK kvs → ¬ D b) → H' b = some o
section
variable {D E : Addr → Prop} {H H1 H2 : Hp} {a p : Addr} {o : HO}
theorem Fq.refl (D : Addr → Prop) (H : Hp) : Fq D H H := ⟨fun _ _ h _ => h⟩
theorem Fq.trans (x : Fq D H H1) (y : Fq D H1 H2) : Fq D H H2 := ⟨fun b o h n => y.keep b o (x.keep b o h n) n⟩
theorem Fq.mono (x : Fq D H H1) (h : ∀ b, D b → E b) : Fq E H H1 := ⟨fun b o e n => x.keep b o e fun kvs q z => n kvs q (h b z)⟩
theorem Fq.of (x : Fr S0 H H1) : Fq D H H1 := ⟨fun b o h _ => x.keep b o (fun z => z) h⟩
theorem Fq.tk (x : Fq D H H1) : Tk H H1 := fun b o h t => x.keep b o h fun kvs q => by rw [q] at t; exact t.elim
theorem Fq.toL (x : Fq D H H1) {xs : List V} (h : H a = some (.lst xs)) : H1 a = some (.lst xs) := x.keep a _ h fun kvs q => by cases q
theorem Fq.toT (x : Fq D H H1) {xs : List V} (h : H a = some (.tup xs)) : H1 a = some (.tup xs) := x.keep a _ h fun kvs q => by cases q
theorem Fq.toI (x : Fq D H H1) {C dx : Addr} {fs : List (Str × V)} (h : H a = some (.ins C dx fs)) : H1 a = some (.ins C dx fs) := x.keep a _ h fun kvs q => by cases q
theorem Fq.toDT (x : Fq D H H1) {kvs : List (List Key × V)} (h : H a = some (.dT kvs)) : H1 a = some (.dT kvs) := x.keep a _ h fun kvs q => by cases q
theorem Fq.toDK (x : Fq D H H1) {kvs : List (Key × V)} (h : H a = some (.dK kvs)) (n : ¬ D a) : H1 a = some (.dK kvs) := x.keep a _ h fun _ _ => n
theorem Fq.toA (x : Fq D H H1) (h : H a = some o) (n : ∀ kvs, o ≠ .dK kvs) : H1 a = some o := x.keep a _ h fun kvs q => absurd q (n kvs)
theorem Fq.new (h : H p = none) : Fq D H (upd H p o) := ⟨fun b u e _ => by rw [upd_ne (ne_of_none e h)]; exact e⟩
theorem Fq.snoc (x : Fq D H H1) (h : H1 p = none) : Fq D H (upd H1 p o) := x.trans (Fq.new h)
/-- a change at what was not there at first -/
theorem Fq.own (x : Fq D H H1) (h : H p = none) : Fq D H (upd H1 p o) := ⟨fun b u e n => by rw [upd_ne (ne_of_none e h)]; exact x.keep b u e n⟩
/-- a change of a dict that D tells -/
theorem Fq.put {kvs : List (Key × V)} (x : Fq D H H1) (h : H1 p = some (.dK kvs)) (d : D p) : Fq D H (upd H1 p o) := ⟨fun b u e n => by
  by_cases hb : b = p
  · subst hb
    have h2 := x.keep b u e n
    rw [h] at h2
    injection h2 with h2
    exact absurd d (n kvs h2.symm)
  · rw [upd_ne hb]
    exact x.keep b u e n⟩
theorem Fq.seqL {K : PySem.W.Frag} {xs : List V} (x : Fq D H H1) (h : SqL K H a xs) : SqL K H1 a xs := by
  rcases h with (h | ⟨o, h⟩) | h
  · exact .inl (.inl (x.toL h))
  · exact .inl (.inr ⟨o, x.keep a _ h fun kvs q => by cases q⟩)
  · exact .inr h
theorem Fq.toN (x : Fq D H H1) (h : H1 a = none) (n : ¬ D a) : H a = none := by
  cases e : H a with
  | none => rfl
  | some o =>
    rw [x.keep a o e fun _ _ => n] at h
    cases h
end
end G
namespace G
open PySem PySem.Spec PyProof.Rows L2
theorem GR.hu8 {k : Nat} {A : Around} (r : GR k A) : A.units + 8 < cLine := by
  have := r.hu64
  omega
/-- a def of the program's top: where it stands, and what it promises -/
structure Use (P : Program) (w : World) (K : PySem.W.Frag) (mg : Str → Option Value) (base : Heap) (k : Nat) (x : Str) (f : Addr) (fd : FuncData) (ps : List Str) (sp : Sp) : Prop where
  mgf : mg x = some (.ref f)
  kp : PySem.W.keepIn K (.ref f) = true
  b : Binds K fd ps []
  g : Fg P w K mg base CX0 k f fd ps sp
section
variable {X : Cx} {j k : Nat} {f : Addr} {fd : FuncData} {ps : List Str} {sp : Sp} {x : Str} {p pos : Pos} {e : Expr} {es : List Expr} {t : TA}
theorem pu (U : Use X.prog X.w X.K X.mg X.base k x f fd ps sp) (hr : GR j X.A) (hk : k ≤ j) (hg : Gl X x) (ha : PA X (e :: es) t) (hdb : (x == ("__debug__" : Str)) = false := by decide)
    (he : starEach (e :: es) X.env = (false, eval e X.env) :: starEach es X.env := by rfl) (hpl : (backTo pos (starEach es X.env)).any (·.1) = false := by rfl) : PE X (.Call (.Name x p) (e :: es) [] pos) (tCall sp [] E0 t) :=
  pg_call U.g (hr.mono hk) hg U.mgf U.kp U.b .nil pass0 ha hdb he hpl
theorem pu0 (U : Use X.prog X.w X.K X.mg X.base k x f fd ps sp) (hr : GR j X.A) (hk : k ≤ j) (hg : Gl X x) (hdb : (x == ("__debug__" : Str)) = false := by decide) : PE X (.Call (.Name x p) [] [] pos) (tCall sp [] E0 tNil) :=
  pg_call0 U.g (hr.mono hk) hg U.mgf U.kp U.b .nil pass0 hdb
end
def D0 : Addr → Prop := fun _ => False
theorem vsub {v v' : V} {Qf : V → Hp → Prop} {H : Hp} (e : v = v') (h : Qf v' H) : Qf v H := by rw [e]; exact h
theorem isub {i j : Int} {Qf : V → Hp → Prop} {H : Hp} (e : i = j) (h : Qf (.int j) H) : Qf (.int i) H := by rw [e]; exact h
/-- a pair whose first is a key -/
def PairK (H : Hp) (x : V) (f : LKey) : Prop := ∃ a q w, x = .ref a ∧ TupAt H a [q, w] ∧ KeyAt H q f
theorem PairK.keep {H H' : Hp} (k : Tk H H') {x : V} {f : LKey} (h : PairK H x f) : PairK H' x f := let ⟨a, q, w, h1, h2, h3⟩ := h; ⟨a, q, w, h1, h2.keep k, h3.keep k⟩
end G
/-! ### cuts: a chosen end -/
namespace G
open PySem PySem.Spec PyProof.Rows L2
section
variable {X : Cx} {e : Expr} {st : Stmt} {sts : List Stmt} {es : List Expr} {te : TE} {t : TS} {ta : TA}
def tCut (te : TE) : TE := fun σ H Q => ∃ G : V → Hp → Prop, te σ H G ∧ ∀ v H', G v H' → Q v H'
theorem pe_cut (h : PE X e te) : PE X e (tCut te) := ⟨fun pins s σ H Q I ⟨G, h1, h2⟩ => thn (h.run pins s σ H G I h1) fun v s' ⟨x, H', I', r, q⟩ => ⟨x, H', I', r, h2 x H' q⟩⟩
def tCutS (t : TS) : TS := fun D σ H => ∃ G : L2.St → Hp → Prop, t { D with nx := G } σ H ∧ ∀ σ' H', G σ' H' → D.nx σ' H'
theorem cut_SP {pins : List (Addr × Obj)} {D : Ends} {G : L2.St → Hp → Prop} (h2 : ∀ σ' H', G σ' H' → D.nx σ' H') : ∀ (f : Flow) (s' : Shared), SP X pins { D with nx := G } f s' → SP X pins D f s'
  | .next, s', ⟨σ', H', I, q⟩ => ⟨σ', H', I, h2 _ _ q⟩
  | .brk, s', ⟨σ', H', I, q⟩ => ⟨σ', H', I, q⟩
  | .cont, s', ⟨σ', H', I, q⟩ => ⟨σ', H', I, q⟩
  | .ret u, s', ⟨v, σ', H', I, r, q⟩ => ⟨v, σ', H', I, r, q⟩
theorem ps_cut (h : PS X st t) : PS X st (tCutS t) := ⟨fun pins s σ H D I ⟨G, h1, h2⟩ => thn (h.run pins s σ H _ I h1) fun f s' q => cut_SP h2 f s' q⟩
theorem pss_cut (h : PSs X sts t) : PSs X sts (tCutS t) := ⟨fun pins s σ H D I ⟨G, h1, h2⟩ => thn (h.run pins s σ H _ I h1) fun f s' q => cut_SP h2 f s' q⟩
end
end G

/-! order, place_of, cut. -/
namespace G
open PySem PySem.Spec PyProof.Rows L2
section
variable {P : Program} {w : World} {K : PySem.W.Frag} {mg : Str → Option Value} {base : Heap}
theorem paired_len {α β : Type} {R : α → β → Prop} {as : List α} {bs : List β} (h : Paired R as bs) : as.length = bs.length := Paired.length h
theorem paired_get {α β : Type} {R : α → β → Prop} : ∀ {as : List α} {bs : List β} {i : Nat} {a : α}, Paired R as bs → as[i]? = some a → ∃ b, bs[i]? = some b ∧ R a b
  | _, _, _, _, .nil, e => by simp at e
  | _, _, 0, _, .cons h t, e => by cases e; exact ⟨_, rfl, h⟩
  | _, _, i + 1, _, .cons h t, e => paired_get (i := i) t e
theorem paired_snoc {α β : Type} {R : α → β → Prop} {a : α} {b : β} (hr : R a b) : ∀ {as : List α} {bs : List β}, Paired R as bs → Paired R (as ++ [a]) (bs ++ [b])
  | _, _, .nil => .cons hr .nil
  | _, _, .cons h t => .cons h (paired_snoc hr t)
theorem paired_app {α β : Type} {R : α → β → Prop} : ∀ {as cs : List α} {bs ds : List β}, Paired R as bs → Paired R cs ds → Paired R (as ++ cs) (bs ++ ds)
  | _, _, _, _, .nil, t => t
  | _, _, _, _, .cons h t, u => .cons h (paired_app t u)
theorem paired_take {α β : Type} {R : α → β → Prop} : ∀ {as : List α} {bs : List β} (n : Nat), Paired R as bs → Paired R (as.take n) (bs.take n)
  | _, _, 0, _ => by simp; exact .nil
  | _, _, n + 1, .nil => by simp; exact .nil
  | _, _, n + 1, .cons h t => by rw [List.take_succ_cons, List.take_succ_cons]; exact .cons h (paired_take n t)
theorem paired_drop {α β : Type} {R : α → β → Prop} : ∀ {as : List α} {bs : List β} (n : Nat), Paired R as bs → Paired R (as.drop n) (bs.drop n)
  | _, _, 0, h => h
  | _, _, n + 1, .nil => by simp; exact .nil
  | _, _, n + 1, .cons h t => by rw [List.drop_succ_cons, List.drop_succ_cons]; exact paired_drop n t
theorem small1000' {n : Nat} (h : n ≤ 1000) : n < sizeLine := Nat.lt_of_le_of_lt h (by decide)
theorem scOrder : FnScope ["key", "part"] ["key"] (defScope sOrder) := ⟨rfl, rfl, rfl, by decide +kernel, rfl, by decide +kernel, by decide +kernel⟩
theorem ok_order {f : Addr} {fd : FuncData} (F : Fun K "order" "order" sOrder f fd) (T : Bn mg) : Fg P w K mg base CX0 1 f fd ["key"] spOrd := by
  refine okG F scOrder (fun vs H Q E h => ?_) (fun cdv A outer s H vs Q E hr h => ?_)
  · obtain ⟨k, v, rfl, _⟩ := h
    rfl
  · obtain ⟨k, v, rfl, ⟨a, rfl, ha⟩, hl, q⟩ := h
    have nd := scOrder.nd
    refine ⟨_, pss_one (ps_ret (pe_callTy call_tuple_of (by rfl) T.tuple boot_tuple (pa_cons (pe_lc (own := [("part", 1)]) (g := gName 1) (tt := tYes) rfl nd (pi_tup (pv 0)) (blkOk_by (N := ["key", "part"]) (sc := defScope sOrder) (by decide +kernel)) (fun _ _ _ _ _ => pg_name (i := 1) nd rfl (Or.inl rfl)) (fun _ _ _ _ _ => pts_nil)
      (fun _ _ _ _ _ => pe_tup (pa_cons (pe_callTy call_int1 (by rfl) T.int boot_int (pa_cons (pe_callB (r := rIsi K) call_isi (by rfl) T.isinstance boot_isinstance (pa_cons (pv 1) (pa_cons (pe_bltn (v := .ty "str") (by rfl) T.str boot_str rfl) pa_nil))) pa_nil)) (pa_cons (pv 1) pa_nil)))) pa_nil))), ?_⟩
    refine ⟨_, rfl, a, rfl, ⟨_, .inl (.inl ha)⟩, fun D hD => lc_tup (xs := k.map kV) (fun i H' => ∃ acc, H' D = some (.lst acc) ∧ Fr S0 H H' ∧ acc.length = i ∧ TdAll H' acc ((k.take i).map tagD)) ⟨[], upd_same, Fr.new hD, rfl, TdAll.nil'.mpr rfl⟩ (fun i H' _ ⟨_, _, fr, _⟩ => .inl (.inl (fr.tup a _ ha trivial))) ?_ ?_⟩
    · rintro i x H' hx ⟨acc, hacc, fr, hlen, td⟩
      rw [List.getElem?_map] at hx
      cases e : k[i]? with
      | none => rw [e] at hx; cases hx
      | some c =>
        rw [e] at hx
        cases hx
        have hil : i < k.length := (List.getElem?_eq_some_iff.mp e).1
        have etk : (k.take (i + 1)).map tagD = (k.take i).map tagD ++ [tagD c] := by
          rw [List.take_add_one, e, List.map_append]
          rfl
        have fin : ∀ (z : V) (p : Addr), H' p = none → Td (upd H' p (.tup [z, kV c])) (.ref p) (tagD c) → ∃ acc, (upd H' p (.tup [z, kV c])) D = some (.lst acc) ∧ acc.length < sizeLine ∧ ∃ acc', (upd (upd H' p (.tup [z, kV c])) D (.lst (acc ++ [.ref p]))) D = some (.lst acc') ∧ Fr S0 H (upd (upd H' p (.tup [z, kV c])) D (.lst (acc ++ [.ref p]))) ∧ acc'.length = i + 1 ∧ TdAll (upd (upd H' p (.tup [z, kV c])) D (.lst (acc ++ [.ref p]))) acc' ((k.take (i + 1)).map tagD) := by
          intro z p hp htd
          have hD' : (upd H' p (.tup [z, kV c])) D = some (.lst acc) := by rw [upd_ne (ne_of_none hacc hp)]; exact hacc
          have t1 : Tk H' (upd H' p (.tup [z, kV c])) := (Fr.new (S := S0) hp).tup
          have t2 : Tk (upd H' p (.tup [z, kV c])) (upd (upd H' p (.tup [z, kV c])) D (.lst (acc ++ [.ref p]))) := (Fr.put (S := S1 D) hD' (fun z => z) rfl).tup
          refine ⟨acc, hD', small1000 (by omega), _, upd_same, ?_, by simp [hlen], ?_⟩
          · refine ⟨fun b o _ h => ?_, fr.tup.trans (t1.trans t2)⟩
            have h1 := fr.keep b o (fun z => z) h
            rw [upd_ne (ne_of_none h hD), upd_ne (ne_of_none h1 hp)]
            exact h1
          · rw [etk]
            exact (TdAll.keep (t1.trans t2) _ _ td).snoc (Td.keep t2 _ _ htd)
        cases c with
        | inl n =>
          refine ⟨rfl, _, rfl, _, _, _, _, false, rfl, .ty _, .base (.int n), kit_ty (by decide +kernel), .inr ⟨false, rfl, _, rfl, by show 2 ≤ sizeLine; decide, fun p hp => fin _ p hp ?_⟩⟩
          exact Td.mk2 (.of upd_same) (Td.int'.mpr rfl) (Td.int'.mpr rfl)
        | inr y =>
          refine ⟨rfl, _, rfl, _, _, _, _, true, rfl, .ty _, .base (.str y), kit_ty (by decide +kernel), .inr ⟨true, rfl, _, rfl, by show 2 ≤ sizeLine; decide, fun p hp => fin _ p hp ?_⟩⟩
          exact Td.mk2 (.of upd_same) (Td.int'.mpr rfl) (Td.str'.mpr rfl)
    · rintro H' ⟨acc, hacc, fr, hlen, td⟩
      rw [show (k.map kV).length = k.length from List.length_map .., List.take_length] at td
      refine ⟨D, acc, rfl, .inl ⟨.inl (.inl hacc), fun p hp => q _ _ (fr.trans (Fr.new hp)) ?_⟩⟩
      exact Td.tup'.mpr ⟨p, acc, rfl, .of upd_same, TdAll.keep (Fr.new (S := S0) hp).tup _ _ td⟩

/-! ### place_of -/
theorem pl_snoc : ∀ {fs : List LKey} {f k : LKey}, Sk (fs ++ [f]) → fs ≠ [] → pl (fs ++ [f]) k = if kle f k = true then fs.length else pl fs k
  | [], _, _, _, n => absurd rfl n
  | [a], f, k, s, _ => by
    show (if kle f k = true then pl [f] k + 1 else 0) = _
    split <;> rfl
  | a :: b :: r, f, k, s, _ => by
    have s' := List.pairwise_cons.mp s
    have ih := pl_snoc (fs := b :: r) (f := f) (k := k) s'.2 (by simp)
    show (if kle b k = true then pl ((b :: r) ++ [f]) k + 1 else 0) = if kle f k = true then (a :: b :: r).length else (if kle b k = true then pl (b :: r) k + 1 else 0)
    rw [ih]
    by_cases hf : kle f k = true
    · have hb : kle b k = true := by
        have := (List.pairwise_cons.mp s'.2).1 f (by simp)
        exact kle_trans (kle_iff.mpr (.inl this)) hf
      rw [if_pos hf, if_pos hf, if_pos hb]
      simp
    · rw [if_neg hf, if_neg hf]
def spPlace : Sp := fun vs H Q _ => ∃ a kv xs fs k, vs = [.ref a, kv] ∧ TupAt H a xs ∧ Paired (PairK H) xs fs ∧ KeyAt H kv k ∧ Sk fs ∧ okKey k ∧ (∀ f ∈ fs, okKey f) ∧ ∀ H', Fq D0 H H' → Q (.int (pl fs k : Nat)) H'
theorem scPlace : FnScope ["children", "key", "found", "index", "first", "_"] ["children", "key"] (defScope sPlace) := ⟨rfl, rfl, rfl, by decide +kernel, rfl, by decide +kernel, by decide +kernel⟩
theorem ok_place {f fo : Addr} {fd fdo : FuncData} (F : Fun K "place_of" "place_of" sPlace f fd) (T : Bn mg) (U : Use P w K mg base 1 "order" fo fdo ["key"] spOrd) : Fg P w K mg base CX0 2 f fd ["children", "key"] spPlace := by
  refine okG F scPlace (fun vs H Q E h => ?_) (fun cdv A outer s H vs Q E hr h => ?_)
  · obtain ⟨a, kv, xs, fs, k, rfl, _⟩ := h
    rfl
  · obtain ⟨a, kv, xs, fs, k, rfl, ha, hx, hk, hs, ok, oks, q⟩ := h
    have nd := scPlace.nd
    refine ⟨_, pss_cons (ps_set (i := 2) nd rfl (.inl rfl) pe_int)
      (pss_cons (ps_for PassesOwn.never rfl (pi_enumT (by rfl) T.enumerate (pa_cons (pv 0) pa_nil)) (pg_tup rfl (pgs_cons (pg_name (i := 3) nd rfl (.inl rfl)) (pgs_cons (pg_tup rfl (pgs_cons (pg_name (i := 4) nd rfl (.inl rfl)) (pgs_cons (pg_name (i := 5) nd rfl (.inl rfl)) pgs_nil))) pgs_nil)))
        (pss_one (ps_if (pt_cmpR (op_leK hr.hu8) (pu U hr (by decide) (by rfl) (pa_cons (pv 4) pa_nil)) (pu U hr (by decide) (by rfl) (pa_cons (pv 1) pa_nil)) (nomark _)) (pss_one (ps_set (i := 2) nd rfl (.inl rfl) (pv 3))) pss_nil)))
      (pss_one (ps_ret (pv 2)))), ?_⟩
    refine ⟨_, rfl, a, xs, rfl, ha.sq, for_it walkEnumT (fun i σ H' => ∃ v3 v4 v5, σ = [some (.ref a), some kv, some (.int (pl (fs.take i) k : Nat)), v3, v4, v5] ∧ Fq D0 H H') ⟨none, none, none, rfl, Fq.refl _ _⟩ (fun i σ H' _ ⟨_, _, _, _, fr⟩ => (ha.keep fr.tk).sq) ?_ ?_⟩
    · rintro i x σ H' H2 hi ⟨v3, v4, v5, rfl, fr⟩ ⟨T', x0, y, rfl, hT, rfl, e1, e2⟩
      cases e1
      obtain ⟨fk, e3, hp⟩ := paired_get hx e2
      obtain ⟨e, qv, wv, rfl, h1, h2⟩ := hp
      have fr1 : Fq D0 H (upd H' T' (.tup [.int (i : Nat), .ref e])) := fr.snoc hT
      refine ⟨T', _, rfl, .inl (.inl upd_same), rfl, _, _, rfl, _, _, rfl, e, _, rfl, (h1.keep fr1.tk).sq, rfl, _, _, rfl, _, _, rfl, rfl, rfl, ?_⟩
      refine ⟨_, rfl, fk, qv, rfl, h2.keep fr1.tk, (oks fk (List.mem_of_getElem? e3)).len, fun H3 r f3 td3 => ?_⟩
      refine ⟨_, rfl, k, kv, rfl, hk.keep (fr1.trans (Fq.of f3)).tk, ok.len, fun H4 r2 f4 td4 => ?_⟩
      refine ⟨fk, k, Td.keep f4.tup _ _ td3, td4, (oks fk (List.mem_of_getElem? e3)).ok, ok.ok, _, rfl, ?_⟩
      have fr4 : Fq D0 H H4 := (fr1.trans (Fq.of f3)).trans (Fq.of f4)
      have et : fs.take (i + 1) = fs.take i ++ [fk] := by rw [List.take_add_one, e3]; rfl
      have il : i < fs.length := (List.getElem?_eq_some_iff.mp e3).1
      have ep : pl (fs.take (i + 1)) k = if kle fk k = true then i else pl (fs.take i) k := by
        rw [et]
        by_cases z : i = 0
        · subst z
          rw [List.take_zero]
          show 0 = _
          split <;> rfl
        · have sk : Sk (fs.take i ++ [fk]) := by rw [← et]; exact List.Pairwise.sublist (List.take_sublist _ _) hs
          rw [pl_snoc sk (fun q => z (by have := congrArg List.length q; rw [List.length_take, List.length_nil] at this; omega)), List.length_take, Nat.min_eq_left (Nat.le_of_lt il)]
      refine ite2 (fun hc => ?_) (fun hc => ?_)
      · refine ⟨_, rfl, some (.int (i : Nat)), some qv, some wv, ?_, fr4⟩
        rw [ep, if_pos hc]
        rfl
      · refine ⟨some (.int (i : Nat)), some qv, some wv, ?_, fr4⟩
        rw [ep, if_neg hc]
        rfl
    · rintro σ H' ⟨v3, v4, v5, rfl, fr⟩
      refine ⟨_, rfl, ?_⟩
      have el : xs.length = fs.length := paired_len hx
      rw [el, List.take_length]
      exact q H' fr

/-! ### cut -/
def CutAt (H : Hp) (y : V) (c : List V) : Prop := ∃ q, y = .ref q ∧ FzT H q c
theorem CutAt.keep {H H' : Hp} (k : Tk H H') {y : V} {c : List V} (h : CutAt H y c) : CutAt H' y c := let ⟨q, e, h⟩ := h; ⟨q, e, h.keep k⟩
def spCut : Sp := fun vs H Q _ => ∃ a xs, vs = [.ref a] ∧ H a = some (.lst xs) ∧ xs.length ≤ 1000 ∧ ∀ H' p ys, Fq D0 H H' → H p = none → H' p = some (.lst ys) → Paired (CutAt H') ys (cutL xs) → Q (.ref p) H'
theorem piece_cutV {xs : List V} {i : Nat} (h : i < cutN xs.length) : cutV xs (some ((cutSt xs.length i : Nat) : Int)) (some ((cutSt xs.length i : Nat) + (cutSz xs.length i : Nat) : Int)) = piece xs i := by
  have hf := cutSt_fit h
  have e : ((cutSt xs.length i : Nat) + (cutSz xs.length i : Nat) : Int) = ((cutSt xs.length i + cutSz xs.length i : Nat) : Int) := by omega
  rw [e]
  unfold cutV piece
  rw [HT.sIx_nat, HT.sIx_nat, Nat.min_eq_left hf, Nat.min_eq_left (Nat.le_trans (Nat.le_add_right _ _) hf), Nat.add_sub_cancel_left]
theorem scCut : FnScope ["parts", "count", "pieces", "start", "index", "size"] ["parts"] (defScope sCut) := ⟨rfl, rfl, rfl, by decide +kernel, rfl, by decide +kernel, by decide +kernel⟩
theorem ok_cut {f : Addr} {fd : FuncData} {t : Nat} (F : Fun K "cut" "cut" sCut f fd) (T : Bn mg) (M : mg "MOST_PARTS" = some (.int 6 t)) : Fg P w K mg base CX0 1 f fd ["parts"] spCut := by
  refine okG F scCut (fun vs H Q E h => ?_) (fun cdv A outer s H vs Q E hr h => ?_)
  · obtain ⟨a, xs, rfl, _⟩ := h
    rfl
  · obtain ⟨a, xs, rfl, ha, hz, q⟩ := h
    have nd := scCut.nd
    have hm := M
    refine ⟨_, pss_cons (ps_if (pt_cmpR op_eq (pe_callB (r := fun xs H Q => ∃ p ys, xs = [.ref p] ∧ (SqL K H p ys ∨ SqT K H p ys) ∧ Q (.int ys.length) H) call_len_seq (by rfl) T.len boot_len (pa_cons (pv 0) pa_nil)) pe_int (nomark _)) (pss_one (ps_ret (pe_lst pa_nil))) pss_nil)
      (pss_cons (ps_set (i := 1) nd rfl (.inl rfl) (pe_op op_fdiv (pe_op op_sub (pe_op op_add (pe_callB call_len_seq (by rfl) T.len boot_len (pa_cons (pv 0) pa_nil)) (pe_glob (v := .int 6) (by rfl) hm ⟨_, rfl⟩)) pe_int) (pe_glob (v := .int 6) (by rfl) hm ⟨_, rfl⟩)))
      (pss_cons (ps_set (i := 2) nd rfl (.inl rfl) (pe_lst pa_nil))
      (pss_cons (ps_set (i := 3) nd rfl (.inl rfl) pe_int)
      (pss_cons (ps_for PassesOwn.never rfl (pi_range1 (by rfl) T.range (pa_cons (pv 1) pa_nil)) (pg_name (i := 4) nd rfl (.inl rfl))
        (pss_cons (ps_set (i := 5) nd rfl (.inl rfl) (pe_op op_add (pe_op op_fdiv (pe_callB call_len_seq (by rfl) T.len boot_len (pa_cons (pv 0) pa_nil)) (pv 1))
          (pe_callTy call_int1 (by rfl) T.int boot_int (pa_cons (pe_cmpR op_lt (pv 4) (pe_op op_mod (pe_callB call_len_seq (by rfl) T.len boot_len (pa_cons (pv 0) pa_nil)) (pv 1)) (nomark _)) pa_nil))))
        (pss_cons (ps_expr (pe_bm PySem.F.plainAttrs_list PySem.F.slot_list_append PySem.F.type_list_append mt_append (pv 2) (pa_cons (pe_callTy call_tupleF (by rfl) T.tuple boot_tuple (pa_cons (pe_slice sl_list (pv 0) (po_some (pv 3)) (po_some (pe_op op_add (pv 3) (pv 5)))) pa_nil)) pa_nil)))
        (pss_one (ps_aug (i := 3) nd rfl (.inl rfl) (pv 5) ip_add)))))
      (pss_one (ps_ret (pv 2))))))), ?_⟩
    have hl : ∀ H', H' a = some (.lst xs) → SqL K H' a xs := fun H' h => .inl (.inl h)
    refine ⟨_, rfl, a, xs, rfl, .inl (hl _ ha), rfl, _, rfl, ?_⟩
    refine ite2 (fun hc => ?_) (fun hc => ?_)
    · have hc : xs.length = 0 := by
        have := of_decide_eq_true hc
        simpa using this
      refine ⟨Nat.zero_le _, fun p hp => q _ p [] (Fq.new hp) hp upd_same ?_⟩
      rw [List.eq_nil_of_length_eq_zero hc, cut_nil]
      exact .nil
    · have hc : xs.length ≠ 0 := by
        intro z
        rw [z] at hc
        exact hc (by decide)
      have hN0 : 0 < cutN xs.length := Nat.pos_of_ne_zero (fun z => hc (cutN_zero.mp z))
      have hNle : cutN xs.length ≤ xs.length := cutN_le _
      have ecount : ((xs.length : Int) + 6 - 1) / 6 = ((cutN xs.length : Nat) : Int) := by unfold cutN; omega
      refine ⟨_, rfl, a, xs, rfl, .inl (hl _ ha), _, _, rfl, rfl, _, _, rfl, rfl, _, _, rfl, rfl, ⟨by decide, by decide⟩, ?_⟩
      dsimp only
      rw [ecount]
      refine ⟨Nat.zero_le _, fun p hp => ⟨_, rfl, _, rfl, ?_, ?_, for_range (n := cutN xs.length) (fun i σ H' => ∃ ys v4 v5, σ = [some (.ref a), some (.int (cutN xs.length : Nat)), some (.ref p), some (.int (cutSt xs.length i : Nat)), v4, v5] ∧ Fq D0 H H' ∧ H' p = some (.lst ys) ∧ Paired (CutAt H') ys ((cutL xs).take i)) ?_ ?_ ?_⟩⟩
      · omega
      · omega
      · refine ⟨[], none, none, ?_, Fq.new hp, upd_same, ?_⟩
        · rw [cutSt_zero]
          rfl
        · rw [List.take_zero]
          exact .nil
      · rintro i σ H' hi ⟨ys, v4, v5, rfl, fr, hy, hpr⟩
        have esz : (xs.length : Int) / ((cutN xs.length : Nat) : Int) + (if decide ((0 : Int) + i < (xs.length : Int) % ((cutN xs.length : Nat) : Int)) = true then (1 : Int) else 0) = ((cutSz xs.length i : Nat) : Int) := by
          unfold cutSz
          rw [← Int.natCast_ediv, ← Int.natCast_emod]
          by_cases z : i < xs.length % cutN xs.length
          · rw [if_pos (decide_eq_true (by omega)), if_pos z]
            omega
          · rw [if_neg (by rw [decide_eq_true_eq]; omega), if_neg z]
            omega
        have hya : ys.length ≤ 1000 := by
          have z := paired_len hpr
          rw [List.length_take] at z
          omega
        refine ⟨_, rfl, a, xs, rfl, .inl (hl _ (fr.toL ha)), _, rfl, _, _, rfl, rfl, ⟨by omega, by omega⟩, _, rfl, _, rfl, a, xs, rfl, .inl (hl _ (fr.toL ha)), _, rfl, _, _, rfl, rfl, by omega, _, _, rfl, rfl, .inr ⟨_, rfl, _, _, rfl, rfl, ?_⟩⟩
        dsimp only
        rw [esz]
        refine ⟨_, rfl, .inl ⟨rfl, _, .inl (.inl hy)⟩, _, rfl, _, rfl, _, rfl, _, rfl, _, rfl, _, _, rfl, rfl, _, rfl, a, xs, rfl, hl _ (fr.toL ha), fun p2 hp2 => ?_⟩
        rw [piece_cutV hi]
        refine ⟨p2, piece xs i, rfl, .inl (.inl upd_same), fun l o hl2 hod => ?_⟩
        have np : p ≠ p2 := ne_of_none hy hp2
        have np' : p ≠ l := ne_of_none (o := .lst ys) (by rw [upd_ne np]; exact hy) hl2
        have hy2 : (upd (upd H' p2 (.lst (piece xs i))) l (.frz o (.tup (piece xs i)))) p = some (.lst ys) := by rw [upd_ne np', upd_ne np]; exact hy
        have f1 : Fq D0 H' (upd (upd H' p2 (.lst (piece xs i))) l (.frz o (.tup (piece xs i)))) := (Fq.new hp2).snoc hl2
        have f2 : Fq D0 H (upd (upd H' p2 (.lst (piece xs i))) l (.frz o (.tup (piece xs i)))) := fr.trans f1
        refine ⟨p, ys, _, rfl, rfl, hy2, small1000' hya, ?_⟩
        refine ⟨_, rfl, _, rfl, _, _, rfl, rfl, ?_⟩
        have hnp : H p = none := hp
        have t3 : Tk (upd (upd H' p2 (.lst (piece xs i))) l (.frz o (.tup (piece xs i)))) (upd (upd (upd H' p2 (.lst (piece xs i))) l (.frz o (.tup (piece xs i)))) p (.lst (ys ++ [.ref l]))) := (Fr.put (S := S1 p) hy2 (fun z => z) rfl).tup
        refine ⟨_, some (.int (0 + i)), some (.int (cutSz xs.length i : Nat)), ?_, f2.own hnp, upd_same, ?_⟩
        · rw [cutSt_succ]
          rfl
        · rw [List.take_add_one, cut_get hi]
          refine paired_snoc ⟨l, rfl, ?_⟩ (Paired.mapP hpr fun _ _ => CutAt.keep (fun b o h t => t3 b o (f1.tk b o h t) t))
          exact ⟨o, by rw [upd_ne np'.symm]; exact upd_same, hod⟩
      · rintro σ H' ⟨ys, v4, v5, rfl, fr, hy, hpr⟩
        refine ⟨_, rfl, q _ p ys fr hp hy ?_⟩
        have e : (cutL xs).take (cutN xs.length) = cutL xs := by rw [← cut_len, List.take_length]
        rw [e] at hpr
        exact hpr
end
end G

/-! The registry's and the tree's small methods. -/
namespace G
open PySem PySem.Spec PyProof.Rows L2
structure UseM (P : Program) (w : World) (K : PySem.W.Frag) (mg : Str → Option Value) (base : Heap) (k : Nat) (C : Addr) (m : Str) (f : Addr) (fd : FuncData) (ps : List Str) (sp : Sp) : Prop where
  m : Meth K C m f
  b : Binds K fd ps []
  g : Fg P w K mg base CX0 k f fd ps sp
structure UseC (P : Program) (w : World) (K : PySem.W.Frag) (mg : Str → Option Value) (base : Heap) (k : Nat) (x : Str) (C f : Addr) (fd : FuncData) (ps : List Str) (sp : Sp) : Prop where
  mgC : mg x = some (.ref C)
  made : Mk K C f
  b : Binds K fd ps []
  g : Fg P w K mg base CX0 k f fd ps sp
section
variable {X : Cx} {j k : Nat} {C f : Addr} {fd : FuncData} {ps : List Str} {sp : Sp} {x m : Str} {p pos apos : Pos} {e o : Expr} {es : List Expr} {t : TA} {ta : TE}
theorem pm (c : Cls X.K C) (U : UseM X.prog X.w X.K X.mg X.base k C m f fd ps sp) (hr : GR j X.A) (hk : k ≤ j) {pl : Sem Bool} (he : PE X o ta) (ha : PA X (e :: es) t)
    (hst : starEach (e :: es) X.env = (false, eval e X.env) :: starEach es X.env := by rfl) (hpl : (backTo pos (starEach es X.env)).any (·.1) = false := by rfl)
    (ht : eval (.Call (.Attribute o m apos) (e :: es) [] pos) X.env = (do
      let ov ← eval o X.env
      standAt apos.atName
      let (f, first) ← holding [ov] (getMethod ov m pl)
      callWith pos f first (backTo pos (starEach (e :: es) X.env)) (backToKw pos (keywordEach [] X.env))) := by rfl) :
    PE X (.Call (.Attribute o m apos) (e :: es) [] pos) (tMeth C m sp [] E0 ta t) :=
  pg_meth (pl := pl) he c U.m U.g (hr.mono hk) U.b .nil pass0 ha hst hpl ht
theorem pm0 (c : Cls X.K C) (U : UseM X.prog X.w X.K X.mg X.base k C m f fd ps sp) (hr : GR j X.A) (hk : k ≤ j) {pl : Sem Bool} (he : PE X o ta)
    (ht : eval (.Call (.Attribute o m apos) [] [] pos) X.env = (do
      let ov ← eval o X.env
      standAt apos.atName
      let (f, first) ← holding [ov] (getMethod ov m pl)
      callWith pos f first (backTo pos (starEach [] X.env)) (backToKw pos (keywordEach [] X.env))) := by rfl) :
    PE X (.Call (.Attribute o m apos) [] [] pos) (tMeth C m sp [] E0 ta tNil) :=
  pg_meth0 (pl := pl) he c U.m U.g (hr.mono hk) U.b .nil pass0 ht
theorem pc (U : UseC X.prog X.w X.K X.mg X.base k x C f fd ps sp) (hr : GR j X.A) (hk : k + 1 ≤ j) (hg : Gl X x) (ha : PA X (e :: es) t) (hdb : (x == ("__debug__" : Str)) = false := by decide)
    (he : starEach (e :: es) X.env = (false, eval e X.env) :: starEach es X.env := by rfl) (hpl : (backTo pos (starEach es X.env)).any (·.1) = false := by rfl) : PE X (.Call (.Name x p) (e :: es) [] pos) (tMake C sp [] E0 t) :=
  pg_make U.made U.g (hr.mono hk) hg U.mgC U.b .nil pass0 ha hdb he hpl
theorem pc0 (U : UseC X.prog X.w X.K X.mg X.base k x C f fd ps sp) (hr : GR j X.A) (hk : k + 1 ≤ j) (hg : Gl X x) (hdb : (x == ("__debug__" : Str)) = false := by decide) : PE X (.Call (.Name x p) [] [] pos) (tMake C sp [] E0 tNil) :=
  pg_make0 U.made U.g (hr.mono hk) hg U.mgC U.b .nil pass0 hdb
end
/-! ### fields -/
def flR (a b c : Addr) : List (Str × V) := putF "_seals" (.ref c) (putF "_pens" (.ref b) (putF "_names" (.ref a) []))
def flT (x : V) (rg pd vd : Addr) : List (Str × V) := putF "_visited" (.ref vd) (putF "_pages" (.ref pd) (putF "_registry" (.ref rg) (putF "root" x [])))
theorem n1 : ¬ (("_names" : Str) = "_pens") := by decide +kernel
theorem n2 : ¬ (("_names" : Str) = "_seals") := by decide +kernel
theorem n3 : ¬ (("root" : Str) = "_registry") := by decide +kernel
theorem n4 : ¬ (("root" : Str) = "_pages") := by decide +kernel
theorem n5 : ¬ (("root" : Str) = "_visited") := by decide +kernel
theorem n6 : ¬ (("_registry" : Str) = "_pages") := by decide +kernel
theorem n7 : ¬ (("_registry" : Str) = "_visited") := by decide +kernel
theorem n8 : ¬ (("_pages" : Str) = "_visited") := by decide +kernel
theorem flR_names (a b c : Addr) : (flR a b c).lookup ("_names" : Str) = some (.ref a) := by
  unfold flR
  rw [lookup_putF, if_neg n2, lookup_putF, if_neg n1, lookup_putF, if_pos rfl]
theorem flR_no (a b c : Addr) {m : Str} (h1 : ¬ m = "_seals") (h2 : ¬ m = "_pens") (h3 : ¬ m = "_names") : (flR a b c).lookup m = none := by
  unfold flR
  rw [lookup_putF, if_neg h1, lookup_putF, if_neg h2, lookup_putF, if_neg h3]
  rfl
theorem flT_root (x : V) (rg pd vd : Addr) : (flT x rg pd vd).lookup ("root" : Str) = some x := by
  unfold flT
  rw [lookup_putF, if_neg n5, lookup_putF, if_neg n4, lookup_putF, if_neg n3, lookup_putF, if_pos rfl]
theorem flT_reg (x : V) (rg pd vd : Addr) : (flT x rg pd vd).lookup ("_registry" : Str) = some (.ref rg) := by
  unfold flT
  rw [lookup_putF, if_neg n7, lookup_putF, if_neg n6, lookup_putF, if_pos rfl]
theorem flT_pages (x : V) (rg pd vd : Addr) : (flT x rg pd vd).lookup ("_pages" : Str) = some (.ref pd) := by
  unfold flT
  rw [lookup_putF, if_neg n8, lookup_putF, if_pos rfl]
theorem flT_vis (x : V) (rg pd vd : Addr) : (flT x rg pd vd).lookup ("_visited" : Str) = some (.ref vd) := by
  unfold flT
  rw [lookup_putF, if_pos rfl]
theorem flT_no (x : V) (rg pd vd : Addr) {m : Str} (h1 : ¬ m = "_visited") (h2 : ¬ m = "_pages") (h3 : ¬ m = "_registry") (h4 : ¬ m = "root") : (flT x rg pd vd).lookup m = none := by
  unfold flT
  rw [lookup_putF, if_neg h1, lookup_putF, if_neg h2, lookup_putF, if_neg h3, lookup_putF, if_neg h4]
  rfl
theorem putF_len (f : Str) (v : V) : ∀ fs : List (Str × V), (putF f v fs).length ≤ fs.length + 1
  | [] => Nat.le_refl _
  | (g, x) :: r => by
    unfold putF
    split
    · simp
    · have := putF_len f v r
      simp only [List.length_cons]
      omega
/-- what the top has made of the classes -/
structure RTx (K : PySem.W.Frag) (CR : Addr) : Prop where
  cl : Cls K CR
  names : NoAttr K CR "_names"
  pens : NoAttr K CR "_pens"
  seals : NoAttr K CR "_seals"
structure TTx (K : PySem.W.Frag) (CT : Addr) : Prop where
  cl : Cls K CT
  root : NoAttr K CT "root"
  registry : NoAttr K CT "_registry"
  pages : NoAttr K CT "_pages"
  visited : NoAttr K CT "_visited"
/-- the registry at r, its names' dict at d -/
def RegI (CR : Addr) (H : Hp) (r d : Addr) : Prop := ∃ dx b c, H r = some (.ins CR dx (flR d b c))
theorem RegI.keep {CR r d : Addr} {D : Addr → Prop} {H H' : Hp} (f : Fq D H H') (h : RegI CR H r d) : RegI CR H' r d := let ⟨dx, b, c, h⟩ := h; ⟨dx, b, c, f.toI h⟩
structure TrAt (CT : Addr) (H : Hp) (t rg pd vd : Addr) (x : V) (kvs : List (Key × V)) : Prop where
  ins : ∃ dx, H t = some (.ins CT dx (flT x rg pd vd))
  pg : H pd = some (.dK kvs)
  vis : ∃ vs, H vd = some (.dK vs) ∧ (vs.map (·.1)).Nodup ∧ ∀ k ∈ vs.map (·.1), In kvs k
  ne : pd ≠ vd
theorem TrAt.keep {CT : Addr} {H H' : Hp} {t rg pd vd : Addr} {x : V} {kvs : List (Key × V)} {D : Addr → Prop} (f : Fq D H H') (h1 : ¬ D pd) (h2 : ¬ D vd) (h : TrAt CT H t rg pd vd x kvs) : TrAt CT H' t rg pd vd x kvs :=
  ⟨let ⟨dx, e⟩ := h.ins; ⟨dx, f.toI e⟩, f.toDK h.pg h1, let ⟨vs, e, q⟩ := h.vis; ⟨vs, f.toDK e h2, q⟩, h.ne⟩
section
variable {P : Program} {w : World} {K : PySem.W.Frag} {mg : Str → Option Value} {base : Heap} {CR CT : Addr}
/-! ### Registry() -/
def spRInit (CR : Addr) : Sp := fun vs H Q _ => ∃ r dx, vs = [.ref r] ∧ H r = some (.ins CR dx []) ∧ ∀ H' a b c, H a = none → H' r = some (.ins CR dx (flR a b c)) → H' a = some (.dK []) → (∀ p o, H p = some o → p ≠ r → H' p = some o) → Q .non H'
theorem scRInit : FnScope ["self"] ["self"] (defScope sRInit) := ⟨rfl, rfl, rfl, by decide +kernel, rfl, by decide +kernel, by decide +kernel⟩
theorem ok_rinit {f : Addr} {fd : FuncData} (F : Fun K "__init__" "Registry.__init__" sRInit f fd) (T : RTx K CR) : Fg P w K mg base CX0 1 f fd ["self"] (spRInit CR) := by
  refine okG F scRInit (fun vs H Q E h => ?_) (fun cdv A outer s H vs Q E hr h => ?_)
  · obtain ⟨r, dx, rfl, _⟩ := h
    rfl
  · obtain ⟨r, dx, rfl, hr0, q⟩ := h
    refine ⟨_, pss_cons (ps_fld (pv 0) pe_dnewK rfl) (pss_cons (ps_fld (pv 0) pe_dnewK rfl) (pss_one (ps_fld (pv 0) pe_dnewK rfl))), ?_⟩
    intro a ha
    have n1 : r ≠ a := ne_of_none hr0 ha
    refine ⟨_, rfl, r, CR, dx, [], rfl, by rw [upd_ne n1]; exact hr0, T.cl, T.names, by show 0 < 1000; decide, ?_⟩
    intro b hb
    have n2 : r ≠ b := fun z => by rw [← z, upd_same] at hb; cases hb
    have n3 : a ≠ b := fun z => by rw [← z, upd_ne n1.symm, upd_same] at hb; cases hb
    refine ⟨_, rfl, r, CR, dx, _, rfl, by rw [upd_ne n2, upd_same], T.cl, T.pens, Nat.lt_of_le_of_lt (putF_len _ _ _) (by decide), ?_⟩
    intro c hc
    have n4 : r ≠ c := fun z => by rw [← z, upd_same] at hc; cases hc
    have n5 : a ≠ c := fun z => by rw [← z, upd_ne n1.symm, upd_ne n3, upd_ne n1.symm, upd_same] at hc; cases hc
    refine ⟨_, rfl, r, CR, dx, _, rfl, by rw [upd_ne n4, upd_same], T.cl, T.seals, Nat.lt_of_le_of_lt (putF_len _ _ _) (Nat.lt_of_le_of_lt (Nat.succ_le_succ (putF_len _ _ _)) (by decide)), ?_⟩
    refine q _ a b c ha upd_same ?_ fun p o e n => ?_
    · rw [upd_ne n1.symm, upd_ne n5, upd_ne n1.symm, upd_ne n3, upd_ne n1.symm, upd_same]
    · have h1 : p ≠ a := ne_of_none e ha
      have e1 : (upd (upd H a (.dK [])) r (.ins CR dx (putF "_names" (.ref a) []))) p = some o := by rw [upd_ne n, upd_ne h1]; exact e
      have h2 : p ≠ b := ne_of_none e1 hb
      have e2 : (upd (upd (upd (upd H a (.dK [])) r (.ins CR dx (putF "_names" (.ref a) []))) b (.dK [])) r (.ins CR dx (putF "_pens" (.ref b) (putF "_names" (.ref a) [])))) p = some o := by rw [upd_ne n, upd_ne h2]; exact e1
      have h3 : p ≠ c := ne_of_none e2 hc
      rw [upd_ne n, upd_ne h3]
      exact e2
/-! ### name -/
def spName (CR : Addr) : Sp := fun vs H Q _ => ∃ r d v y ts, vs = [.ref r, v] ∧ RegI CR H r d ∧ H d = some (.dK (reg ts)) ∧ ts.length ≤ 1000000 ∧ Td H v y ∧ reprOk y ∧ ∀ H', Fq (S1 d) H H' → H' d = some (.dK (reg (named ts y.shown))) → Q (.int (nmOf (named ts y.shown) y.shown : Nat)) H'
theorem scRName : FnScope ["self", "value", "text"] ["self", "value"] (defScope sRName) := ⟨rfl, rfl, rfl, by decide +kernel, rfl, by decide +kernel, by decide +kernel⟩
theorem ok_name {f : Addr} {fd : FuncData} (F : Fun K "name" "Registry.name" sRName f fd) (T : RTx K CR) (B : Bn mg) : Fg P w K mg base CX0 1 f fd ["self", "value"] (spName CR) := by
  refine okG F scRName (fun vs H Q E h => ?_) (fun cdv A outer s H vs Q E hr h => ?_)
  · obtain ⟨r, d, v, y, ts, rfl, _⟩ := h
    rfl
  · obtain ⟨r, d, v, y, ts, rfl, ⟨dx, b, c, hi⟩, hd, hz, td, ro, q⟩ := h
    have nd := scRName.nd
    refine ⟨_, pss_cons (ps_set (i := 2) nd rfl (.inl rfl) (pe_callB (r := rRepr K) (call_repr hr.gd hr.hu64) (by rfl) B.repr boot_repr (pa_cons (pv 1) pa_nil)))
      (pss_cons (ps_if (pt_cmp (pc_dnotin hr.hu (pv 2) (pe_fld (pv 0) rfl))) (pss_one (ps_dput hr.hu (pe_fld (pv 0) rfl) (pv 2) (pe_op op_add (pe_callB call_lenD (by rfl) B.len boot_len (pa_cons (pe_fld (pv 0) rfl) pa_nil)) pe_int) rfl)) pss_nil)
      (pss_one (ps_ret (pe_dget hr.hu (pe_fld (pv 0) rfl) (pv 2) (fun _ _ => rfl))))), ?_⟩
    refine ⟨_, rfl, v, y, rfl, Td.dp _ _ td, ro, ?_⟩
    refine ⟨_, rfl, _, rfl, r, CR, dx, _, _, rfl, hi, T.cl, T.names, flR_names _ _ _, d, _, rfl, DGet.k (k := Sum.inr y.shown) hd, _, rfl, ?_⟩
    rw [reg_get]
    by_cases m : y.shown ∈ ts
    · rw [if_pos m]
      refine iteF ?_
      refine ⟨_, rfl, r, CR, dx, _, _, rfl, hi, T.cl, T.names, flR_names _ _ _, _, rfl, d, .int (nmOf ts y.shown : Nat), rfl, ?_, ?_⟩
      · have := DGet.k (k := Sum.inr y.shown) hd
        rw [reg_get, if_pos m] at this
        exact this
      · have e : named ts y.shown = ts := if_pos m
        rw [e] at q
        exact q H (Fq.refl _ _) hd
    · rw [if_neg m]
      refine iteT ?_
      have nr : r ≠ d := ne_of hi hd (by intro z; cases z)
      have e2 : ((ts.length : Int) + 1) = ((ts.length + 1 : Nat) : Int) := by omega
      refine ⟨_, rfl, r, CR, dx, _, _, rfl, hi, T.cl, T.names, flR_names _ _ _, d, reg ts, rfl, hd, _, _, rfl, rfl, _, rfl, r, CR, dx, _, _, rfl, hi, T.cl, T.names, flR_names _ _ _, _, rfl, d, _, rfl, DPut.k (k := Sum.inr y.shown) hd ?_, ?_⟩
      · unfold reg
        rw [reg_len]
        exact Nat.lt_of_le_of_lt hz (by decide)
      · have el : (reg ts).length = ts.length := reg_len 0 ts
        rw [el]
        dsimp only
        rw [e2, reg_named m]
        refine ⟨_, rfl, r, CR, dx, _, _, rfl, by rw [upd_ne nr]; exact hi, T.cl, T.names, flR_names _ _ _, _, rfl, d, .int (nmOf (named ts y.shown) y.shown : Nat), rfl, ?_, ?_⟩
        · have := DGet.k (k := Sum.inr y.shown) (H := upd H d (.dK (reg (named ts y.shown)))) upd_same
          rw [reg_get, if_pos (named_mem _ _)] at this
          exact this
        · exact q _ ((Fq.refl _ _).put hd rfl) upd_same
/-! ### Tree() -/
def spTInit (CT : Addr) : Sp := fun vs H Q _ => ∃ t dx rg x pp kvs, vs = [.ref t, .ref rg, x, .ref pp] ∧ H t = some (.ins CT dx []) ∧ H pp = some (.dK kvs) ∧ ∀ H' pd vd, H pd = none → H vd = none → pd ≠ vd → H' t = some (.ins CT dx (flT x rg pd vd)) → H' pd = some (.dK kvs) → H' vd = some (.dK []) → (∀ p o, H p = some o → p ≠ t → H' p = some o) → Q .non H'
theorem scTInit : FnScope ["self", "registry", "root", "pages"] ["self", "registry", "root", "pages"] (defScope sTInit) := ⟨rfl, rfl, rfl, by decide +kernel, rfl, by decide +kernel, by decide +kernel⟩
theorem ok_tinit {f : Addr} {fd : FuncData} (F : Fun K "__init__" "Tree.__init__" sTInit f fd) (T : TTx K CT) (B : Bn mg) : Fg P w K mg base CX0 1 f fd ["self", "registry", "root", "pages"] (spTInit CT) := by
  refine okG F scTInit (fun vs H Q E h => ?_) (fun cdv A outer s H vs Q E hr h => ?_)
  · obtain ⟨t, dx, rg, x, pp, kvs, rfl, _⟩ := h
    rfl
  · obtain ⟨t, dx, rg, x, pp, kvs, rfl, ht, hp, q⟩ := h
    refine ⟨_, pss_cons (ps_fld (pv 0) (pv 2) rfl) (pss_cons (ps_fld (pv 0) (pv 1) rfl) (pss_cons (ps_fld (pv 0) (pe_callTy call_dictD (by rfl) B.dict boot_dict (pa_cons (pv 3) pa_nil)) rfl) (pss_one (ps_fld (pv 0) pe_dnewK rfl)))), ?_⟩
    have np : pp ≠ t := ne_of hp ht (by intro z; cases z)
    refine ⟨_, rfl, _, rfl, t, CT, dx, [], rfl, ht, T.cl, T.root, by show 0 < 1000; decide, ?_⟩
    refine ⟨_, rfl, _, rfl, t, CT, dx, _, rfl, upd_same, T.cl, T.registry, Nat.lt_of_le_of_lt (putF_len _ _ _) (by decide), ?_⟩
    refine ⟨_, rfl, pp, kvs, rfl, .inl (by rw [upd_ne np, upd_ne np]; exact hp), fun pd hpd => ?_⟩
    have nt : t ≠ pd := fun z => by rw [← z, upd_same] at hpd; cases hpd
    refine ⟨_, rfl, t, CT, dx, _, rfl, by rw [upd_ne nt, upd_same], T.cl, T.pages, Nat.lt_of_le_of_lt (putF_len _ _ _) (Nat.lt_of_le_of_lt (Nat.succ_le_succ (putF_len _ _ _)) (by decide)), ?_⟩
    intro vd hvd
    have nt2 : t ≠ vd := fun z => by rw [← z, upd_same] at hvd; cases hvd
    have npv : pd ≠ vd := fun z => by rw [← z, upd_ne nt.symm, upd_same] at hvd; cases hvd
    refine ⟨_, rfl, t, CT, dx, _, rfl, by rw [upd_ne nt2, upd_same], T.cl, T.visited, Nat.lt_of_le_of_lt (putF_len _ _ _) (Nat.lt_of_le_of_lt (Nat.succ_le_succ (putF_len _ _ _)) (Nat.lt_of_le_of_lt (Nat.succ_le_succ (Nat.succ_le_succ (putF_len _ _ _))) (by decide))), ?_⟩
    have hpd0 : H pd = none := by rw [upd_ne nt.symm, upd_ne nt.symm] at hpd; exact hpd
    have hvd0 : H vd = none := by rw [upd_ne nt2.symm, upd_ne npv.symm, upd_ne nt2.symm, upd_ne nt2.symm] at hvd; exact hvd
    refine q _ pd vd hpd0 hvd0 npv upd_same ?_ ?_ fun p o e n => ?_
    · rw [upd_ne nt.symm, upd_ne npv, upd_ne nt.symm, upd_same]
    · rw [upd_ne nt2.symm, upd_same]
    · rw [upd_ne n, upd_ne (ne_of_none e hvd0), upd_ne n, upd_ne (ne_of_none e hpd0), upd_ne n, upd_ne n]
      exact e
/-! ### pages() -/
def spPages (CT : Addr) : Sp := fun vs H Q _ => ∃ t dx x rg pd vd kvs, vs = [.ref t] ∧ H t = some (.ins CT dx (flT x rg pd vd)) ∧ H pd = some (.dK kvs) ∧ ∀ p, H p = none → Q (.ref p) (upd H p (.dK kvs))
theorem scPages : FnScope ["self"] ["self"] (defScope sPages) := ⟨rfl, rfl, rfl, by decide +kernel, rfl, by decide +kernel, by decide +kernel⟩
theorem ok_pages {f : Addr} {fd : FuncData} (F : Fun K "pages" "Tree.pages" sPages f fd) (T : TTx K CT) (B : Bn mg) : Fg P w K mg base CX0 1 f fd ["self"] (spPages CT) := by
  refine okG F scPages (fun vs H Q E h => ?_) (fun cdv A outer s H vs Q E hr h => ?_)
  · obtain ⟨t, dx, x, rg, pd, vd, kvs, rfl, _⟩ := h
    rfl
  · obtain ⟨t, dx, x, rg, pd, vd, kvs, rfl, ht, hp, q⟩ := h
    refine ⟨_, pss_one (ps_ret (pe_callTy call_dictD (by rfl) B.dict boot_dict (pa_cons (pe_fld (pv 0) rfl) pa_nil))), ?_⟩
    exact ⟨_, rfl, t, CT, dx, _, _, rfl, ht, T.cl, T.pages, flT_pages _ _ _ _, pd, kvs, rfl, .inl hp, q⟩
/-! ### _page -/
def spPage (CT : Addr) : Sp := fun vs H Q _ => ∃ t rg pd vd x kvs i v, vs = [.ref t, .int i] ∧ TrAt CT H t rg pd vd x kvs ∧ kvs.length ≤ 1000000 ∧ valV kvs (.inl i : Key) = some v ∧ ∀ H', Fq (S1 vd) H H' → TrAt CT H' t rg pd vd x kvs → Q v H'
theorem scPage : FnScope ["self", "name"] ["self", "name"] (defScope sPage) := ⟨rfl, rfl, rfl, by decide +kernel, rfl, by decide +kernel, by decide +kernel⟩
theorem ok_page {f : Addr} {fd : FuncData} (F : Fun K "_page" "Tree._page" sPage f fd) (T : TTx K CT) : Fg P w K mg base CX0 1 f fd ["self", "name"] (spPage CT) := by
  refine okG F scPage (fun vs H Q E h => ?_) (fun cdv A outer s H vs Q E hr h => ?_)
  · obtain ⟨t, rg, pd, vd, x, kvs, i, v, rfl, _⟩ := h
    rfl
  · obtain ⟨t, rg, pd, vd, x, kvs, i, v, rfl, tr, hz, hv, q⟩ := h
    obtain ⟨⟨dx, ht⟩, hp, ⟨vs, hvd, hnd, hin⟩, ne⟩ := id tr
    refine ⟨_, pss_cons (ps_if (pt_cmp (pc_dnotin hr.hu (pv 1) (pe_fld (pv 0) rfl))) (pss_one ps_never) pss_nil)
      (pss_cons (ps_dput hr.hu (pe_fld (pv 0) rfl) (pv 1) pe_bl rfl)
      (pss_one (ps_ret (pe_dget hr.hu (pe_fld (pv 0) rfl) (pv 1) (fun _ _ => rfl))))), ?_⟩
    refine ⟨_, rfl, _, rfl, t, CT, dx, _, _, rfl, ht, T.cl, T.pages, flT_pages _ _ _ _, pd, _, rfl, DGet.k (k := Sum.inl i) hp, _, rfl, ?_⟩
    rw [hv]
    refine iteF ?_
    have hvl : vs.length ≤ kvs.length := by
      have := nodup_len (m := kvs.map (·.1)) hnd fun k m => by
        obtain ⟨u, e⟩ := Option.isSome_iff_exists.mp (hin k m)
        exact valV_in e
      simpa using this
    have ntv : t ≠ vd := ne_of ht hvd (by intro z; cases z)
    refine ⟨_, rfl, t, CT, dx, _, _, rfl, ht, T.cl, T.visited, flT_vis _ _ _ _, _, rfl, vd, _, rfl, DPut.k (k := Sum.inl i) hvd (Nat.lt_of_le_of_lt (Nat.le_trans hvl hz) (by decide)), ?_⟩
    refine ⟨_, rfl, t, CT, dx, _, _, rfl, by rw [upd_ne ntv]; exact ht, T.cl, T.pages, flT_pages _ _ _ _, _, rfl, pd, v, rfl, ?_, ?_⟩
    · have := DGet.k (k := Sum.inl i) (H := upd H vd (.dK (putK vs (.inl i : Key) (.bl true)))) (by rw [upd_ne ne]; exact hp)
      rw [hv] at this
      exact this
    · refine q _ ((Fq.refl _ _).put hvd rfl) ⟨⟨dx, by rw [upd_ne ntv]; exact ht⟩, by rw [upd_ne ne]; exact hp, ⟨_, upd_same, nd_put hnd, fun k m => ?_⟩, ne⟩
      obtain ⟨kv, m2, rfl⟩ := List.mem_map.mp m
      rcases putK_mem m2 with e | m3
      · rw [e]
        show (valV kvs (.inl i : Key)).isSome = true
        rw [hv]
        rfl
      · exact hin _ (List.mem_map.mpr ⟨kv, m3, rfl⟩)
end
end G

/-! _lay, get, empty. -/
namespace G
open PySem PySem.Spec PyProof.Rows L2
def Pg.keys : Pg → List LKey
  | .leaf es => es.map (·.1)
  | .node cs => cs.map (·.1)
theorem paired_map {α β γ : Type} {R : α → β → Prop} {S : α → γ → Prop} {f : β → γ} (h : ∀ a b, R a b → S a (f b)) : ∀ {as : List α} {bs : List β}, Paired R as bs → Paired S as (bs.map f)
  | _, _, .nil => .nil
  | _, _, .cons x t => .cons (h _ _ x) (paired_map h t)
theorem PG.op {H : Hp} {v : V} : ∀ {p : Pg}, PG H v p → ∃ a k q xs, v = .ref a ∧ TupAt H a [.str k, .ref q] ∧ FzT H q xs ∧ Paired (PairK H) xs p.keys
  | .leaf _, ⟨a, q, xs, h1, h2, h3, h4⟩ => ⟨a, "leaf", q, xs, h1, h2, h3, paired_map (fun _ _ ⟨a, q, w, e1, e2, e3, _⟩ => ⟨a, q, w, e1, e2, e3⟩) h4⟩
  | .node _, ⟨a, q, xs, h1, h2, h3, h4⟩ => ⟨a, "node", q, xs, h1, h2, h3, paired_map (fun _ _ ⟨a, q, e1, e2, e3⟩ => ⟨a, q, _, e1, e2, e3⟩) h4⟩
theorem fsT_sorted {n : Nat} {cs : List (LKey × Tn n)} (g : goodC cs) (s : Sd (cents cs)) : Sk (fsT cs) := by
  unfold Sk fsT
  rw [List.pairwise_map, List.pairwise_iff_getElem]
  intro i j hi hj l
  have e1 := List.getElem?_eq_getElem hi
  have e2 := List.getElem?_eq_getElem hj
  have m1 := List.mem_of_getElem? e1
  have m2 := List.mem_of_getElem? e2
  obtain ⟨d, r, h1⟩ := head_ents (g _ m1).1
  obtain ⟨d', r', h2⟩ := head_ents (g _ m2).1
  have := kid_lt (e := (fstT n cs[i].2, d)) (e' := (fstT n cs[j].2, d')) g s e1 e2 (by rw [h1]; exact List.mem_cons_self) (by rw [h2]; exact List.mem_cons_self) l
  rw [(g _ m1).2, (g _ m2).2]
  exact this
theorem okEs_kid {n : Nat} {cs : List (LKey × Tn n)} {c : LKey × Tn n} (o : okEs (cents cs)) (m : c ∈ cs) : okEs (ents n c.2) := fun e h => o e (List.mem_flatMap.mpr ⟨c, m, h⟩)
theorem fs_ok {n : Nat} {cs : List (LKey × Tn n)} (g : goodC cs) (o : okEs (cents cs)) : ∀ f ∈ fsT cs, okKey f := fun f m => by
  obtain ⟨c, m2, rfl⟩ := List.mem_map.mp m
  obtain ⟨d, r, h1⟩ := head_ents (g c m2).1
  have := (okEs_kid o m2 (fstT n c.2, d) (by rw [h1]; exact List.mem_cons_self)).1
  rw [(g c m2).2]
  exact this
theorem paired_getR {α β : Type} {R : α → β → Prop} : ∀ {as : List α} {bs : List β} {i : Nat} {b : β}, Paired R as bs → bs[i]? = some b → ∃ a, as[i]? = some a ∧ R a b
  | _, _, _, _, .nil, e => by simp at e
  | _, _, 0, _, .cons h t, e => by cases e; exact ⟨_, rfl, h⟩
  | _, _, i + 1, _, .cons h t, e => paired_getR (i := i) t e
theorem kidAt_get {H : Hp} {ts : List Str} {m : Nat} {cs : List (LKey × Tn m)} {xs : List V} {i : Nat} {c : LKey × Tn m} (h : Paired (KidAt H) xs (List.map (fun c : LKey × Tn m => (c.1, ((nmOf ts (txt (pgOf ts m c.2)) : Nat) : Int))) cs)) (hc : cs[i]? = some c) :
    ∃ e q, xs[i]? = some (.ref e) ∧ TupAt H e [q, .int (nm ts m c.2 : Nat)] ∧ KeyAt H q c.1 := by
  have e1 : (List.map (fun c : LKey × Tn m => (c.1, ((nmOf ts (txt (pgOf ts m c.2)) : Nat) : Int))) cs)[i]? = some (c.1, ((nmOf ts (txt (pgOf ts m c.2)) : Nat) : Int)) := by rw [List.getElem?_map, hc]; rfl
  obtain ⟨x, e2, e, q, rfl, h5, h6⟩ := paired_getR h e1
  exact ⟨e, q, e2, h5, h6⟩
theorem kidAt_keys {H : Hp} {ts : List Str} {m : Nat} {cs : List (LKey × Tn m)} {xs : List V} (h : Paired (KidAt H) xs (List.map (fun c : LKey × Tn m => (c.1, ((nmOf ts (txt (pgOf ts m c.2)) : Nat) : Int))) cs)) : Paired (PairK H) xs (fsT cs) := by
  have := paired_map (f := fun c : LKey × Int => c.1) (S := PairK H) (fun _ _ ⟨a, q, e1, e2, e3⟩ => ⟨a, q, _, e1, e2, e3⟩) h
  have ek : List.map (fun c : LKey × Int => c.1) (List.map (fun c : LKey × Tn m => (c.1, ((nmOf ts (txt (pgOf ts m c.2)) : Nat) : Int))) cs) = fsT cs := by simp [fsT]
  exact Eq.mp (congrArg (Paired (PairK H) xs) ek) this
def S2 (a b : Addr) : Addr → Prop := fun x => x = a ∨ x = b
section
variable {P : Program} {w : World} {K : PySem.W.Frag} {mg : Str → Option Value} {base : Heap} {CR CT : Addr}
/-! ### _lay -/
def spLay (CR CT : Addr) : Sp := fun vs H Q _ => ∃ t dx x rg pd vd d md v ts mk p k ks, vs = [.ref t, v, .ref md] ∧ H t = some (.ins CT dx (flT x rg pd vd)) ∧ RegI CR H rg d ∧ H d = some (.dK (reg ts)) ∧ H md = some (.dK mk) ∧ d ≠ md ∧ PagesOk H ts mk ∧ ts.length ≤ 1000000 ∧
  PG H v p ∧ okPg p ∧ p.keys = k :: ks ∧ ∀ H' e q, Fq (S2 d md) H H' → H' d = some (.dK (reg (named ts (txt p)))) → H' md = some (.dK (putK mk (.inl (nmOf (named ts (txt p)) (txt p) : Nat) : Key) v)) → TupAt H' e [q, .int (nmOf (named ts (txt p)) (txt p) : Nat)] → KeyAt H' q k → Q (.ref e) H'
theorem scLay : FnScope ["self", "page", "made", "name"] ["self", "page", "made"] (defScope sLay) := ⟨rfl, rfl, rfl, by decide +kernel, rfl, by decide +kernel, by decide +kernel⟩
theorem ok_lay {f fn : Addr} {fd fdn : FuncData} (F : Fun K "_lay" "Tree._lay" sLay f fd) (T : TTx K CT) (R : RTx K CR) (U : UseM P w K mg base 1 CR "name" fn fdn ["self", "value"] (spName CR)) : Fg P w K mg base CX0 2 f fd ["self", "page", "made"] (spLay CR CT) := by
  refine okG F scLay (fun vs H Q E h => ?_) (fun cdv A outer s H vs Q E hr h => ?_)
  · obtain ⟨t, dx, x, rg, pd, vd, d, md, v, ts, mk, p, k, ks, rfl, _⟩ := h
    rfl
  · obtain ⟨t, dx, x, rg, pd, vd, d, md, v, ts, mk, p, k, ks, rfl, ht, hrg, hd, hmd, hne, po, hz, pg, okp, ek, q⟩ := h
    have nd := scLay.nd
    refine ⟨_, pss_cons (ps_set (i := 3) nd rfl (.inl rfl) (pm R.cl U hr (by decide) (pe_fld (pv 0) rfl) (pa_cons (pv 1) pa_nil)))
      (pss_cons (ps_dput hr.hu (pv 2) (pv 3) (pv 1) rfl)
      (pss_one (ps_ret (pe_tup (pa_cons (pe_ix ix_tup (pe_ix ix_tup (pe_ix ix_tup (pv 1) pe_int (fun _ _ => rfl)) pe_int (fun _ _ => rfl)) pe_int (fun _ _ => rfl)) (pa_cons (pv 3) pa_nil)))))), ?_⟩
    obtain ⟨dr, b, c, hi⟩ := hrg
    refine ⟨_, rfl, t, CT, dx, _, _, rfl, ht, T.cl, T.registry, flT_reg _ _ _ _, rg, dr, _, rfl, hi, flR_no _ _ _ (by decide +kernel) (by decide +kernel) (by decide +kernel), _, rfl, rg, d, v, pgD p, ts, rfl, ⟨dr, b, c, hi⟩, hd, hz, pg.td, (pgD_ok okp).2, fun H1 f1 hd1 => ?_⟩
    have hmd1 : H1 md = some (.dK mk) := f1.toDK hmd (fun z => hne z.symm)
    have hl : mk.length < sizeLine := Nat.lt_of_le_of_lt (Nat.le_trans po.len hz) (by decide)
    refine ⟨_, rfl, _, rfl, _, rfl, md, _, rfl, DPut.k (k := Sum.inl (nmOf (named ts (txt p)) (txt p) : Nat)) hmd1 hl, ?_⟩
    have f2 : Fq (S2 d md) H (upd H1 md (.dK (putK mk (.inl (nmOf (named ts (txt p)) (txt p) : Nat) : Key) v))) := (f1.mono fun b z => .inl z).put hmd1 (.inr rfl)
    obtain ⟨a, kd, qa, xs, rfl, h2, h3, h4⟩ := (pg.keep f2.tk).op
    rw [ek] at h4
    cases h4 with
    | cons hx hr' =>
      rename_i x0 xr
      obtain ⟨e, q0, w0, rfl, h5, h6⟩ := hx
      refine ⟨_, rfl, a, _, _, _, rfl, rfl, h2.sq, atI_nat (j := 1) rfl, qa, _, _, _, rfl, rfl, h3.tup.sq, atI_nat (j := 0) rfl, e, _, _, _, rfl, rfl, h5.sq, atI_nat (j := 0) rfl, _, rfl, by show 2 ≤ sizeLine; decide, fun p1 hp1 => ?_⟩
      refine q _ p1 q0 (f2.snoc hp1) ?_ ?_ (.of upd_same) (h6.keep (Fq.new (D := D0) hp1).tk)
      · have : (upd H1 md (.dK (putK mk (.inl (nmOf (named ts (txt p)) (txt p) : Nat) : Key) (.ref a)))) d = some (.dK (reg (named ts (txt p)))) := by rw [upd_ne hne]; exact hd1
        rw [upd_ne (ne_of_none this hp1)]
        exact this
      · have : (upd H1 md (.dK (putK mk (.inl (nmOf (named ts (txt p)) (txt p) : Nat) : Key) (.ref a)))) md = some (.dK (putK mk (.inl (nmOf (named ts (txt p)) (txt p) : Nat) : Key) (.ref a))) := upd_same
        rw [upd_ne (ne_of_none this hp1)]
        exact upd_same
/-! ### get -/
/-- a tree in the heap, read only -/
structure Tr (CT : Addr) (P : List LKey) (H : Hp) (t rg pd vd : Addr) (kvs : List (Key × V)) (ts : List Str) (T : (m : Nat) × Tn m) : Prop where
  at' : TrAt CT H t rg pd vd (.int (nm ts T.1 T.2 : Nat)) kvs
  po : PagesOk H ts kvs
  has : Has ts (In kvs) T.1 T.2
  rg : rgood T
  ok : Ok P (ents T.1 T.2)
  es : okEs (ents T.1 T.2)
  len : ts.length ≤ 1000000
theorem okPg_at {ts : List Str} (hz : ts.length ≤ 1000000) {Kp : Key → Prop} {n : Nat} {t : Tn n} (g : good n t ∨ (n = 0 ∧ ents n t = [])) (o : okEs (ents n t)) (h : Has ts Kp n t) : okPg (pgOf ts n t) :=
  okPg_of (Nat.lt_of_le_of_lt hz (by decide)) g o (h.mono (List.prefix_refl _) fun _ _ => trivial)
theorem rgood.or {T : (m : Nat) × Tn m} (h : rgood T) : good T.1 T.2 ∨ (T.1 = 0 ∧ ents T.1 T.2 = []) := by
  rcases h with h | h
  · exact .inl h
  · right
    rw [h]
    exact ⟨rfl, rfl⟩
def spGet (CT : Addr) (PL : List LKey) : Sp := fun vs H Q _ => ∃ t rg pd vd kvs ts T kv k, vs = [.ref t, kv] ∧ Tr CT PL H t rg pd vd kvs ts T ∧ KeyAt H kv k ∧ okKey k ∧ ∀ H' v, Fq (S1 vd) H H' → Tr CT PL H' t rg pd vd kvs ts T → Td H' v (look (ents T.1 T.2) k) → Q v H'
theorem scGet : FnScope ["self", "key", "page", "other", "value"] ["self", "key"] (defScope sGet) := ⟨rfl, rfl, rfl, by decide +kernel, rfl, by decide +kernel, by decide +kernel⟩
theorem not_node : ¬ (V.str "leaf" = V.str "node") := fun h => by
  injection h with h
  exact absurd h (by decide +kernel)
theorem not_leaf : ¬ (V.str "node" = V.str "leaf") := fun h => not_node h.symm
theorem ok_get {PL : List LKey} {f fp fl : Addr} {fd fdp fdl : FuncData} (F : Fun K "get" "Tree.get" sGet f fd) (T : TTx K CT) (U : UseM P w K mg base 1 CT "_page" fp fdp ["self", "name"] (spPage CT))
    (L : Use P w K mg base 2 "place_of" fl fdl ["children", "key"] spPlace) : Fg P w K mg base CX0 3 f fd ["self", "key"] (spGet CT PL) := by
  refine okG F scGet (fun vs H Q E h => ?_) (fun cdv A outer s H vs Q E hr h => ?_)
  · obtain ⟨t, rg, pd, vd, kvs, ts, T, kv, k, rfl, _⟩ := h
    rfl
  · obtain ⟨t, rg, pd, vd, kvs, ts, ⟨n, T0⟩, kv, k, rfl, tr, hk, okk, q⟩ := h
    have nd := scGet.nd
    have hlen : kvs.length ≤ 1000000 := Nat.le_trans tr.po.len tr.len
    refine ⟨_, pss_cons (ps_set (i := 2) nd rfl (.inl rfl) (pm T.cl U hr (by decide) (pv 0) (pa_cons (pe_fld (pv 0) rfl) pa_nil)))
      (pss_cons (ps_while PassesOwn.never (pt_cmpR op_eq (pe_ix ix_tup (pv 2) pe_int (fun _ _ => rfl)) pe_str (nomark _))
        (pss_one (ps_set (i := 2) nd rfl (.inl rfl) (pm T.cl U hr (by decide) (pv 0) (pa_cons (pe_ix ix_tup (pe_ix ix_tup (pe_ix ix_tup (pv 2) pe_int (fun _ _ => rfl)) (pu L hr (by decide) (by rfl) (pa_cons (pe_ix ix_tup (pv 2) pe_int (fun _ _ => rfl)) (pa_cons (pv 1) pa_nil))) (fun _ _ => rfl)) pe_int (fun _ _ => rfl)) pa_nil)))))
      (pss_cons (ps_for PassesOwn.never rfl (pi_tup (pe_ix ix_tup (pv 2) pe_int (fun _ _ => rfl))) (pg_tup rfl (pgs_cons (pg_name (i := 3) nd rfl (.inl rfl)) (pgs_cons (pg_name (i := 4) nd rfl (.inl rfl)) pgs_nil)))
        (pss_one (ps_if (pt_cmpR (op_eqD hr.hu64) (pv 3) (pv 1) (nomark _)) (pss_one (ps_ret (pv 4))) pss_nil)))
      (pss_one (ps_ret pe_non)))), ?_⟩
    obtain ⟨dx, ht⟩ := tr.at'.ins
    obtain ⟨v0, e0, pg0⟩ := tr.po.get tr.has (okPg_at tr.len tr.rg.or tr.es tr.has)
    refine ⟨_, rfl, t, dx, _, rfl, ht, flT_no _ _ _ _ (by decide +kernel) (by decide +kernel) (by decide +kernel) (by decide +kernel), _, rfl, t, CT, dx, _, _, rfl, ht, T.cl, T.root, flT_root _ _ _ _, t, rg, pd, vd, _, kvs, _, v0, rfl, tr.at', hlen, e0, fun H1 f1 tr1 => ?_⟩
    refine ⟨fun m σ H' => ∃ (U : Tn m) (v : V) (v3 v4 : Option V), σ = [some (.ref t), some kv, some v, v3, v4] ∧ Fq (S1 vd) H H' ∧ TrAt CT H' t rg pd vd (.int (nm ts n T0 : Nat)) kvs ∧ PG H' v (pgOf ts m U) ∧ Has ts (In kvs) m U ∧ (good m U ∨ (m = 0 ∧ ents m U = [])) ∧ Sd (ents m U) ∧ okEs (ents m U) ∧ look (ents m U) k = look (ents n T0) k,
      ⟨n, T0, v0, none, none, rfl, f1, tr1, pg0.keep f1.tk, tr.has, tr.rg.or, tr.ok.1, tr.es, rfl⟩, ?_⟩
    rintro m σ H' ⟨U0, v, v3, v4, rfl, fr, tr', pg, has, g, sd, es, lk⟩
    match m, U0, pg, has, g, sd, es, lk with
    | 0, U0, pg, has, g, sd, es, lk =>
      obtain ⟨es0, rfl⟩ : ∃ es0 : List Ent, es0 = U0 := ⟨U0, rfl⟩
      obtain ⟨a, qa, xs, rfl, h2, h3, h4⟩ := pg
      refine ⟨_, rfl, a, _, _, _, rfl, rfl, h2.sq, atI_nat (j := 0) rfl, rfl, _, rfl, ?_⟩
      refine ite2 (fun hc => absurd (of_decide_eq_true hc) not_node) (fun _ => ?_)
      refine ⟨_, rfl, a, _, _, _, rfl, rfl, h2.sq, atI_nat (j := 1) rfl, qa, rfl, ⟨xs, h3.tup.sq⟩, for_tup (K := K) (a := qa) (xs := xs) (fun i σ H2 => ∃ v3 v4, σ = [some (.ref t), some kv, some (.ref a), v3, v4] ∧ Fq (S1 vd) H' H2 ∧ H2 = H' ∧ ∀ j e, j < i → es0[j]? = some e → e.1 ≠ k) ⟨v3, v4, rfl, Fq.refl _ _, rfl, fun j e h => absurd h (Nat.not_lt_zero j)⟩ (fun i σ H2 _ ⟨_, _, _, f, e, _⟩ => by rw [e]; exact h3.tup.sq) ?_ ?_⟩
      · rintro i x σ H2 hx ⟨v3, v4, rfl, _, rfl, hno⟩
        obtain ⟨en, e3, e, q0, w0, rfl, h5, h6, h7⟩ := paired_get h4 hx
        refine ⟨e, _, rfl, h5.sq, rfl, _, _, rfl, _, _, rfl, rfl, ?_⟩
        have hk2 : KeyAt H2 kv k := hk.keep fr.tk
        have s1 : SeqAt.shaped (keyD en.1) = true := keyD_shaped (es en (List.mem_of_getElem? e3)).1.ok
        refine ⟨_, rfl, _, rfl, keyD en.1, keyD k, Td.dp _ _ h6.td, Td.dp _ _ hk2.td, s1, keyD_shaped okk.ok, _, rfl, ?_⟩
        rw [keyD_eqv]
        refine ite2 (fun hc => ?_) (fun hc => ?_)
        · have hc := of_decide_eq_true hc
          refine ⟨_, rfl, q H2 w0 fr ⟨tr', tr.po.keep fr.tk, tr.has, tr.rg, tr.ok, tr.es, tr.len⟩ ?_⟩
          have e5 : look (ents n T0) k = en.2 := by
            rw [← lk, ← hc]
            exact look_mem (es := es0) sd (List.mem_of_getElem? e3)
          show Td H2 w0 (look (ents n T0) k)
          rw [e5]
          exact h7
        · refine ⟨some q0, some w0, rfl, Fq.refl _ _, rfl, fun j en' hj he z => ?_⟩
          rcases Nat.lt_succ_iff_lt_or_eq.mp hj with h | h
          · exact hno j en' h he z
          · subst h
            rw [e3] at he
            cases he
            exact hc (decide_eq_true z)
      · rintro σ H2 ⟨v3, v4, rfl, _, rfl, hno⟩
        refine q H2 .non fr ⟨tr', tr.po.keep fr.tk, tr.has, tr.rg, tr.ok, tr.es, tr.len⟩ ?_
        have e5 : look (ents n T0) k = .none := by
          rw [← lk]
          refine look_not (es := es0) fun d m => ?_
          obtain ⟨j, hj⟩ := List.getElem?_of_mem m
          have hl : j < xs.length := by
            rw [paired_len h4]
            exact (List.getElem?_eq_some_iff.mp hj).1
          exact hno j _ hl hj rfl
        show Td H2 .non (look (ents n T0) k)
        rw [e5]
        exact Td.none'.mpr rfl
    | m + 1, U0, pg, has, g, sd, es, lk =>
      obtain ⟨cs, rfl⟩ : ∃ cs : List (LKey × Tn m), cs = U0 := ⟨U0, rfl⟩
      have g : good (m + 1) cs := g.resolve_right fun z => Nat.succ_ne_zero m z.1
      obtain ⟨g1, g2, g3⟩ := g
      have gc : goodC cs := g3
      obtain ⟨a, qa, xs, rfl, h2, h3, h4⟩ := pg
      have hpk : Paired (PairK H') xs (fsT cs) := kidAt_keys h4
      refine ⟨_, rfl, a, _, _, _, rfl, rfl, h2.sq, atI_nat (j := 0) rfl, rfl, _, rfl, ?_⟩
      refine ite2 (fun _ => ?_) (fun hc => absurd (decide_eq_true rfl) hc)
      refine ⟨fun σ2 H2 => ∃ (U : Tn m) (v : V) (v3 v4 : Option V), σ2 = [some (.ref t), some kv, some v, v3, v4] ∧ Fq (S1 vd) H H2 ∧ TrAt CT H2 t rg pd vd (.int (nm ts n T0 : Nat)) kvs ∧ PG H2 v (pgOf ts m U) ∧ Has ts (In kvs) m U ∧ (good m U ∨ (m = 0 ∧ ents m U = [])) ∧ Sd (ents m U) ∧ okEs (ents m U) ∧ look (ents m U) k = look (ents n T0) k,
        fun σ2 H2 h => ⟨m, Nat.lt_succ_self m, h⟩, ?_⟩
      obtain ⟨dx', ht'⟩ := tr'.ins
      refine ⟨_, rfl, t, dx', _, rfl, ht', flT_no _ _ _ _ (by decide +kernel) (by decide +kernel) (by decide +kernel) (by decide +kernel), ?_⟩
      refine ⟨_, rfl, a, _, _, _, rfl, rfl, h2.sq, atI_nat (j := 1) rfl, ?_⟩
      refine ⟨_, rfl, a, _, _, _, rfl, rfl, h2.sq, atI_nat (j := 1) rfl, _, rfl, qa, kv, xs, _, k, rfl, h3.tup, hpk, hk.keep fr.tk, fsT_sorted gc sd, okk, fs_ok gc es, fun H2 f2 => ?_⟩
      have fr2 : Fq (S1 vd) H H2 := fr.trans (f2.mono fun _ z => z.elim)
      have tr2 : TrAt CT H2 t rg pd vd (.int (nm ts n T0 : Nat)) kvs := tr'.keep f2 (fun z => z) (fun z => z)
      have hpl := pl_lt (fs := fsT cs) (k := k) (by intro z; exact g1 (List.map_eq_nil_iff.mp z))
      have el : (fsT cs).length = cs.length := List.length_map ..
      rw [el] at hpl
      obtain ⟨c, hc⟩ : ∃ c, cs[pl (fsT cs) k]? = some c := ⟨_, List.getElem?_eq_getElem hpl⟩
      have mc := List.mem_of_getElem? hc
      obtain ⟨e, q0, ex, h5, h6⟩ := kidAt_get h4 hc
      have hk3 := has.kid mc
      obtain ⟨v2, e2, pg2⟩ := (tr.po.keep fr2.tk).get hk3 (okPg_at tr.len (.inl (gc _ mc).1) (okEs_kid es mc) hk3)
      refine ⟨qa, xs, _, _, rfl, rfl, (h3.keep f2.tk).tup.sq, atI_nat ex, ?_⟩
      refine ⟨e, _, _, _, rfl, rfl, (h5.keep f2.tk).sq, atI_nat (j := 1) rfl, t, rg, pd, vd, _, kvs, _, v2, rfl, tr2, hlen, e2, fun H3 f3 tr3 => ?_⟩
      exact ⟨_, v2, v3, v4, rfl, fr2.trans f3, tr3, pg2.keep f3.tk, hk3, .inl (gc _ mc).1, sd_kid sd mc, okEs_kid es mc, (look_kid gc sd hc).symm.trans lk⟩
end
end G

/-! scan. -/
namespace G
open PySem PySem.Spec PyProof.Rows L2
abbrev Nd := (m : Nat) × Tn m
def ndE (T : Nd) : List Ent := ents T.1 T.2
def wsum (st : List Nd) : Nat := (st.map fun T => 7 ^ T.1).sum
theorem wsum_app (a b : List Nd) : wsum (a ++ b) = wsum a + wsum b := by simp [wsum]
theorem wsum_kids {m : Nat} : ∀ l : List (LKey × Tn m), wsum (l.map fun c => (⟨m, c.2⟩ : Nd)) = l.length * 7 ^ m
  | [] => by simp [wsum]
  | c :: r => by
    have := wsum_kids r
    unfold wsum at this ⊢
    rw [List.map_cons, List.map_cons, List.sum_cons, this, List.length_cons, Nat.succ_mul]
    show 7 ^ m + _ = _
    omega
theorem wsum_rev (a : List Nd) : wsum a.reverse = wsum a := by
  unfold wsum
  rw [List.map_reverse, List.sum_reverse]
structure NdOk (ts : List Str) (kvs : List (Key × V)) (T : Nd) : Prop where
  has : Has ts (In kvs) T.1 T.2
  g : good T.1 T.2 ∨ (T.1 = 0 ∧ ents T.1 T.2 = [])
  sd : Sd (ents T.1 T.2)
  es : okEs (ents T.1 T.2)
theorem st_len : ∀ {st : List Nd}, ((∀ T ∈ st, good T.1 T.2) ∨ st.length ≤ 1) → (st.flatMap ndE).length ≤ 1000 → st.length ≤ 1000
  | st, .inr h, _ => Nat.le_trans h (by decide)
  | [], .inl _, _ => Nat.zero_le _
  | T :: r, .inl h, z => by
    have go : ∀ {st : List Nd}, (∀ T ∈ st, good T.1 T.2) → st.length ≤ (st.flatMap ndE).length := by
      intro st
      induction st with
      | nil => exact fun _ => Nat.le_refl _
      | cons T r ih =>
        intro h
        have h1 := ents_ne (h T List.mem_cons_self)
        have h2 := ih fun T m => h T (List.mem_cons_of_mem _ m)
        rw [List.flatMap_cons, List.length_append, List.length_cons]
        unfold ndE at h2 ⊢
        omega
    exact Nat.le_trans (go h) z
/-- the scan's state: the pages to do, what is found -/
def ScI (CT : Addr) (H : Hp) (t rg pd vd fp0 tp : Addr) (lv hv x : V) (kvs : List (Key × V)) (ts : List Str) (lo hi : LKey) (full : List Ent) (st : List Nd) (σ : L2.St) (H' : Hp) : Prop :=
  ∃ (fo : List Ent) (fxs : List V) (v5 v6 v7 v8 v9 v10 v11 v12 : Option V), σ = [some (.ref t), some lv, some hv, some (.ref fp0), some (.ref tp), v5, v6, v7, v8, v9, v10, v11, v12] ∧ Fq (S1 vd) H H' ∧ TrAt CT H' t rg pd vd x kvs ∧
    H' fp0 = some (.lst fxs) ∧ H' tp = some (.lst (st.map fun T => .int (nm ts T.1 T.2 : Nat))) ∧ Paired (EntAt H') fxs fo ∧ (∀ T ∈ st, NdOk ts kvs T) ∧ ((∀ T ∈ st, good T.1 T.2) ∨ st.length ≤ 1) ∧ (st.flatMap ndE).length ≤ 1000 ∧
    fo ++ st.reverse.flatMap (fun T => (ndE T).filter (inR lo hi)) = full
section
variable {P : Program} {w : World} {K : PySem.W.Frag} {mg : Str → Option Value} {base : Heap} {CR CT : Addr}
def spScan (CT : Addr) (PL : List LKey) : Sp := fun vs H Q _ => ∃ t rg pd vd kvs ts T lv hv lo hi, vs = [.ref t, lv, hv] ∧ Tr CT PL H t rg pd vd kvs ts T ∧ (ents T.1 T.2).length ≤ 1000 ∧ KeyAt H lv lo ∧ okKey lo ∧ KeyAt H hv hi ∧ okKey hi ∧
  ∀ H' p xs, Fq (S1 vd) H H' → Tr CT PL H' t rg pd vd kvs ts T → H p = none → H' p = some (.lst xs) → Paired (EntAt H') xs ((ents T.1 T.2).filter (inR lo hi)) → Q (.ref p) H'
theorem scScan : FnScope ["self", "low", "high", "found", "todo", "page", "wanted", "index", "first", "name", "is_below", "is_above", "entry"] ["self", "low", "high"] (defScope sScan) := ⟨rfl, rfl, rfl, by decide +kernel, rfl, by decide +kernel, by decide +kernel⟩
theorem ok_scan {PL : List LKey} {f fp fo : Addr} {fd fdp fdo : FuncData} (F : Fun K "scan" "Tree.scan" sScan f fd) (T : TTx K CT) (B : Bn mg) (U : UseM P w K mg base 1 CT "_page" fp fdp ["self", "name"] (spPage CT))
    (O : Use P w K mg base 1 "order" fo fdo ["key"] spOrd) : Fg P w K mg base CX0 3 f fd ["self", "low", "high"] (spScan CT PL) := by
  refine okG F scScan (fun vs H Q E h => ?_) (fun cdv A outer s H vs Q E hr h => ?_)
  · obtain ⟨t, rg, pd, vd, kvs, ts, T, lv, hv, lo, hi, rfl, _⟩ := h
    rfl
  · obtain ⟨t, rg, pd, vd, kvs, ts, ⟨n, T0⟩, lv, hv, lo, hi, rfl, tr, hlen, hlo, oklo, hhi, okhi, q⟩ := h
    have nd := scScan.nd
    have hkl : kvs.length ≤ 1000000 := Nat.le_trans tr.po.len tr.len
    refine ⟨_, pss_cons (ps_set (i := 3) nd rfl (.inl rfl) (pe_lst pa_nil))
      (pss_cons (ps_set (i := 4) nd rfl (.inl rfl) (pe_lst (pa_cons (pe_fld (pv 0) rfl) pa_nil)))
      (pss_cons (ps_while PassesOwn.never (pt_truth (pv 4) (by intro _; rfl))
        (pss_cons (ps_set (i := 5) nd rfl (.inl rfl) (pm T.cl U hr (by decide) (pv 0) (pa_cons (pe_bm0 PySem.F.plainAttrs_list PySem.F.slot_list_pop PySem.F.type_list_pop mt_pop (pv 4)) pa_nil)))
        (pss_cons (ps_if (pt_cmpR op_eq (pe_ix ix_tup (pv 5) pe_int (fun _ _ => rfl)) pe_str (nomark _))
          (pss_cons (ps_expr (pe_bm PySem.F.plainAttrs_list PySem.F.slot_list_extend PySem.F.type_list_extend mt_extend (pv 3) (pa_cons
            (pe_lc (own := [("entry", 12)]) (g := gName 12) rfl nd (pi_tup (pe_ix ix_tup (pv 5) pe_int (fun _ _ => rfl))) (blkOk_by (N := ["self", "low", "high", "found", "todo", "page", "wanted", "index", "first", "name", "is_below", "is_above", "entry"]) (sc := defScope sScan) (by decide +kernel)) (fun _ _ _ _ _ => pg_name (i := 12) nd rfl (Or.inl rfl))
              (fun _ _ _ _ _ => pts_one (pt_chain (r := rLeK) (r' := rLtK) (op_leK hr.hu8) (op_ltK hr.hu8) (pu O hr (by decide) (by rfl) (pa_cons (pv 1) pa_nil)) (pu O hr (by decide) (by rfl) (pa_cons (pe_ix (r := rIxT K) ix_tup (pv 12) pe_int (fun _ _ => rfl)) pa_nil)) (pu O hr (by decide) (by rfl) (pa_cons (pv 2) pa_nil))))
              (fun _ _ _ _ _ => pv 12)) pa_nil))) (pss_one ps_continue)) pss_nil)
        (pss_cons (ps_set (i := 6) nd rfl (.inl rfl) (pe_lst pa_nil))
        (pss_cons (ps_for PassesOwn.never rfl (pi_enumT (by rfl) B.enumerate (pa_cons (pe_ix ix_tup (pv 5) pe_int (fun _ _ => rfl)) pa_nil)) (pg_tup rfl (pgs_cons (pg_name (i := 7) nd rfl (.inl rfl)) (pgs_cons (pg_tup rfl (pgs_cons (pg_name (i := 8) nd rfl (.inl rfl)) (pgs_cons (pg_name (i := 9) nd rfl (.inl rfl)) pgs_nil))) pgs_nil)))
          (pss_cons (ps_set (i := 10) nd rfl (.inl rfl) (pe_cut (pe_or (pe_cmpR op_eq (pv 7) pe_int (nomark _)) (pe_one (pe_cmpR (op_ltK hr.hu8) (pu O hr (by decide) (by rfl) (pa_cons (pv 8) pa_nil)) (pu O hr (by decide) (by rfl) (pa_cons (pv 2) pa_nil)) (nomark _))))))
          (pss_cons (ps_set (i := 11) nd rfl (.inl rfl) (pe_cut (pe_or (pe_cmpR op_eq (pe_op op_add (pv 7) pe_int) (pe_callB call_len_seq (by rfl) B.len boot_len (pa_cons (pe_ix ix_tup (pv 5) pe_int (fun _ _ => rfl)) pa_nil)) (nomark _)) (pe_one (pe_cmpR (op_ltK hr.hu8) (pu O hr (by decide) (by rfl) (pa_cons (pv 1) pa_nil)) (pu O hr (by decide) (by rfl) (pa_cons (pe_ix ix_tup (pe_ix ix_tup (pe_ix ix_tup (pv 5) pe_int (fun _ _ => rfl)) (pe_op op_add (pv 7) pe_int) (fun _ _ => rfl)) pe_int (fun _ _ => rfl)) pa_nil)) (nomark _))))))
          (pss_one (ps_if (PW.pt (pw_and (pt_val (pv 10)) (pw_and1 (pt_val (pv 11))))) (pss_one (ps_expr (pe_bm PySem.F.plainAttrs_list PySem.F.slot_list_append PySem.F.type_list_append mt_append (pv 6) (pa_cons (pv 9) pa_nil)))) pss_nil)))))
        (pss_one (ps_expr (pe_bm PySem.F.plainAttrs_list PySem.F.slot_list_extend PySem.F.type_list_extend mt_extend (pv 4) (pa_cons (pe_revL (pv 6)) pa_nil)))))))))
      (pss_one (ps_ret (pv 3))))), ?_⟩
    obtain ⟨dx, ht⟩ := tr.at'.ins
    refine ⟨Nat.zero_le _, fun fp0 hfp => ?_⟩
    have nft : t ≠ fp0 := ne_of_none ht hfp
    refine ⟨_, rfl, t, CT, dx, _, _, rfl, by rw [upd_ne nft]; exact ht, T.cl, T.root, flT_root _ _ _ _, by show 1 ≤ sizeLine; decide, fun tp htp => ?_⟩
    have ntf : fp0 ≠ tp := fun z => by rw [← z, upd_same] at htp; cases htp
    have htp0 : H tp = none := by rw [upd_ne ntf.symm] at htp; exact htp
    have fr0 : Fq (S1 vd) H (upd (upd H fp0 (.lst [])) tp (.lst [.int (nm ts n T0 : Nat)])) := (Fq.new hfp).snoc htp
    -- while todo
    have tr0 : ∀ {H'}, Fq (S1 vd) H H' → TrAt CT H' t rg pd vd (.int (nm ts n T0 : Nat)) kvs → Tr CT PL H' t rg pd vd kvs ts ⟨n, T0⟩ := fun f a => ⟨a, tr.po.keep f.tk, tr.has, tr.rg, tr.ok, tr.es, tr.len⟩
    have hvd0 : ∃ u, H vd = some (.dK u) := let ⟨vs, e, _⟩ := tr.at'.vis; ⟨vs, e⟩
    obtain ⟨vu, hvu⟩ := hvd0
    have nvf : vd ≠ fp0 := ne_of_none hvu hfp
    have nvt : vd ≠ tp := ne_of_none hvu htp0
    have npf : pd ≠ fp0 := ne_of_none tr.at'.pg hfp
    have npt : pd ≠ tp := ne_of_none tr.at'.pg htp0
    -- a change of one of the two lists, or of a new one
    have trU : ∀ {H' : Hp} {a : Addr} {o : HO}, TrAt CT H' t rg pd vd (.int (nm ts n T0 : Nat)) kvs → t ≠ a → pd ≠ a → vd ≠ a → TrAt CT (upd H' a o) t rg pd vd (.int (nm ts n T0 : Nat)) kvs := fun {H' a o} h h1 h2 h3 =>
      ⟨let ⟨dx, e⟩ := h.ins; ⟨dx, by rw [upd_ne h1]; exact e⟩, by rw [upd_ne h2]; exact h.pg, let ⟨vs, e, q⟩ := h.vis; ⟨vs, by rw [upd_ne h3]; exact e, q⟩, h.ne⟩
    have ntt : t ≠ tp := ne_of_none ht htp0
    refine ⟨fun m σ H' => ∃ st, m = wsum st ∧ ScI CT H t rg pd vd fp0 tp lv hv (.int (nm ts n T0 : Nat)) kvs ts lo hi ((ents n T0).filter (inR lo hi)) st σ H',
      ⟨_, [⟨n, T0⟩], rfl, [], [], none, none, none, none, none, none, none, none, rfl, fr0, trU (trU tr.at' nft npf nvf) ntt npt nvt, by rw [upd_ne ntf]; exact upd_same, upd_same, .nil, ?_, .inr (Nat.le_refl _), ?_, ?_⟩, ?_⟩
    · intro T hT
      obtain rfl := List.mem_singleton.mp hT
      exact ⟨tr.has, tr.rg.or, tr.ok.1, tr.es⟩
    · show (List.flatMap ndE [(⟨n, T0⟩ : Nd)]).length ≤ 1000
      rw [List.flatMap_cons, List.flatMap_nil, List.append_nil]
      exact hlen
    · show [] ++ List.flatMap (fun T => (ndE T).filter (inR lo hi)) [(⟨n, T0⟩ : Nd)] = _
      rw [List.flatMap_cons, List.flatMap_nil, List.append_nil, List.nil_append]
      rfl
    rintro m σ H' ⟨st, rfl, fo, fxs, v5, v6, v7, v8, v9, v10, v11, v12, rfl, fr, tr', hf, htd, hfo, nok, hg, hcost, heq⟩
    refine ⟨_, rfl, _, .inl ⟨_, .inl (.inl htd), rfl⟩, ?_⟩
    have hfl : fxs.length ≤ 1000 := by
      rw [paired_len hfo]
      have h1 : fo.length ≤ ((ents n T0).filter (inR lo hi)).length := by rw [← heq, List.length_append]; exact Nat.le_add_right _ _
      exact Nat.le_trans h1 (Nat.le_trans (List.length_filter_le _ _) hlen)
    rcases List.eq_nil_or_concat st with rfl | ⟨rest, T1, rfl⟩
    · refine iteF ?_
      refine ⟨_, rfl, q H' fp0 fxs fr (tr0 fr tr') hfp hf ?_⟩
      have heq : fo ++ [] = (ents n T0).filter (inR lo hi) := heq
      rw [List.append_nil] at heq
      show Paired (EntAt H') fxs ((ents n T0).filter (inR lo hi))
      rw [← heq]
      exact hfo
    · rw [List.concat_eq_append] at *
      have hne : (!((rest ++ [T1]).map fun T : Nd => V.int (nm ts T.1 T.2 : Nat)).isEmpty) = true := by simp
      rw [hne]
      refine iteT ?_
      refine ⟨fun σ2 H2 => ∃ st', wsum st' < wsum (rest ++ [T1]) ∧ ScI CT H t rg pd vd fp0 tp lv hv (.int (nm ts n T0 : Nat)) kvs ts lo hi ((ents n T0).filter (inR lo hi)) st' σ2 H2, fun σ2 H2 ⟨st', h1, h2⟩ => ⟨_, h1, st', rfl, h2⟩, ?_⟩
      obtain ⟨j, U0⟩ := T1
      have nok1 := nok ⟨j, U0⟩ (by simp)
      have nokr : ∀ T ∈ rest, NdOk ts kvs T := fun T m => nok T (List.mem_append_left _ m)
      obtain ⟨dx', ht'⟩ := tr'.ins
      have exl : ((rest ++ [(⟨j, U0⟩ : Nd)]).map fun T => V.int (nm ts T.1 T.2 : Nat)) = rest.map (fun T => V.int (nm ts T.1 T.2 : Nat)) ++ [.int (nm ts j U0 : Nat)] := by simp
      rw [exl] at htd
      have hcr : (rest.flatMap ndE).length + (ndE ⟨j, U0⟩).length ≤ 1000 := by
        rw [List.flatMap_append, List.length_append] at hcost
        simpa using hcost
      have heq1 : fo ++ ((ndE ⟨j, U0⟩).filter (inR lo hi) ++ rest.reverse.flatMap (fun T => (ndE T).filter (inR lo hi))) = (ents n T0).filter (inR lo hi) := by
        rw [List.reverse_append] at heq
        simpa using heq
      have ws : wsum (rest ++ [(⟨j, U0⟩ : Nd)]) = wsum rest + 7 ^ j := by rw [wsum_app]; simp [wsum]
      have hgr : ∀ T ∈ rest, good T.1 T.2 := by
        rcases hg with h | h
        · exact fun T m => h T (List.mem_append_left _ m)
        · intro T m
          rw [List.length_append] at h
          have := List.length_pos_of_mem m
          simp only [List.length_cons, List.length_nil] at h
          omega
      -- page = self._page(todo.pop())
      refine ⟨_, rfl, t, dx', _, rfl, ht', flT_no _ _ _ _ (by decide +kernel) (by decide +kernel) (by decide +kernel) (by decide +kernel), _, rfl, .inl ⟨rfl, _, .inl (.inl htd)⟩, tp, _, .int (nm ts j U0 : Nat), rfl, rfl, htd, by simp, ?_⟩
      rw [List.dropLast_concat]
      have hfp' : ∀ {a : Addr} {o : HO}, H' a = some o → H' a ≠ none := fun h z => by rw [h] at z; cases z
      have tpne : tp ≠ fp0 := ntf.symm
      have tr1 : TrAt CT (upd H' tp (.lst (rest.map fun T => V.int (nm ts T.1 T.2 : Nat)))) t rg pd vd (.int (nm ts n T0 : Nat)) kvs := trU tr' ntt npt nvt
      obtain ⟨v, ev, pgv⟩ := (tr.po.keep fr.tk).get nok1.has (okPg_at tr.len nok1.g nok1.es nok1.has)
      refine ⟨t, rg, pd, vd, _, kvs, _, v, rfl, tr1, hkl, ev, fun H2 f2 tr2 => ?_⟩
      have fr1 : Fq (S1 vd) H (upd H' tp (.lst (rest.map fun T => V.int (nm ts T.1 T.2 : Nat)))) := fr.own htp0
      have fr2 : Fq (S1 vd) H H2 := fr1.trans f2
      have tk1 : Tk H' (upd H' tp (.lst (rest.map fun T => V.int (nm ts T.1 T.2 : Nat)))) := (Fr.put (S := S1 tp) htd (fun z => z) rfl).tup
      have tk2 : Tk H' H2 := tk1.trans f2.tk
      have hf2 : H2 fp0 = some (.lst fxs) := f2.toL (by rw [upd_ne ntf]; exact hf)
      have ht2 : H2 tp = some (.lst (rest.map fun T => V.int (nm ts T.1 T.2 : Nat))) := f2.toL upd_same
      have hfo2 : Paired (EntAt H2) fxs fo := Paired.mapP hfo fun _ _ => EntAt.keep tk2
      have pg2 := pgv.keep tk2
      match j, U0, nok1, pg2, hcr, heq1, ws with
      | 0, U0, nok1, pg2, hcr, heq1, ws =>
        obtain ⟨es0, e0⟩ : ∃ es0 : List Ent, es0 = U0 := ⟨U0, rfl⟩
        subst e0
        obtain ⟨a, qa, xs, rfl, h2, h3, h4⟩ := pg2
        refine ⟨_, rfl, a, _, _, _, rfl, rfl, h2.sq, atI_nat (j := 0) rfl, rfl, _, rfl, ?_⟩
        refine ite2 (fun _ => ?_) (fun hc => absurd (decide_eq_true rfl) hc)
        refine ⟨_, rfl, .inl ⟨rfl, _, .inl (.inl hf2)⟩, _, rfl, a, _, _, _, rfl, rfl, h2.sq, atI_nat (j := 1) rfl, qa, rfl, ⟨xs, h3.tup.sq⟩, fun D hD => ?_⟩
        have nfD : fp0 ≠ D := ne_of_none hf2 hD
        have ntD : tp ≠ D := ne_of_none ht2 hD
        have hD0 : H D = none := by
          cases e : H D with
          | none => rfl
          | some o =>
            by_cases hvD : D = vd
            · subst hvD
              obtain ⟨vs, e2, _⟩ := tr2.vis
              rw [e2] at hD
              cases hD
            · rw [fr2.keep D o e fun _ _ => hvD] at hD
              cases hD
        refine lc_tup (K := K) (a := qa) (xs := xs) (fun i H3 => ∃ acc, Fq D0 H2 H3 ∧ H3 D = some (.lst acc) ∧ acc.length ≤ i ∧ Paired (EntAt H3) acc ((es0.take i).filter (inR lo hi))) ⟨[], Fq.new hD, upd_same, Nat.le_refl _, by rw [List.take_zero]; exact .nil⟩ (fun i H3 _ ⟨_, f, _⟩ => (h3.keep f.tk).tup.sq) ?_ ?_
        · rintro i x H3 hx ⟨acc, f3, hacc, hal, hp⟩
          obtain ⟨en, e3, e, q0, w0, rfl, h5, h6, h7⟩ := paired_get h4 hx
          have oken := (nok1.es en (List.mem_of_getElem? e3)).1
          have fr3 : Fq (S1 vd) H H3 := fr2.trans (f3.mono fun _ z => z.elim)
          have etk : (es0.take (i + 1)).filter (inR lo hi) = (es0.take i).filter (inR lo hi) ++ (if inR lo hi en = true then [en] else []) := by
            rw [List.take_add_one, e3, List.filter_append]
            congr 1
            show List.filter (inR lo hi) [en] = _
            rw [List.filter_cons, List.filter_nil]
          refine ⟨rfl, _, rfl, lo, lv, rfl, hlo.keep fr3.tk, oklo.len, fun Ha ra fa ta => ?_⟩
          have tka : Tk H2 Ha := (f3.trans (Fq.of fa)).tk
          refine ⟨_, rfl, e, _, _, q0, rfl, rfl, (h5.keep tka).sq, atI_nat (j := 0) rfl, en.1, q0, rfl, h6.keep tka, oken.len, fun Hb rb fb tb => ?_⟩
          have f4 : Fq D0 H2 Hb := (f3.trans (Fq.of fa)).trans (Fq.of fb)
          have accb : Hb D = some (.lst acc) := (Fq.of (D := D0) fb).toL ((Fq.of (D := D0) fa).toL hacc)
          have hpb : Paired (EntAt Hb) acc ((es0.take i).filter (inR lo hi)) := Paired.mapP hp fun _ _ => EntAt.keep ((Fq.of (D := D0) fa).trans (Fq.of fb)).tk
          refine ⟨lo, en.1, Td.keep fb.tup _ _ ta, tb, oklo.ok, oken.ok, _, rfl, ?_⟩
          refine ite2 (fun hc1 => ?_) (fun hc1 => ?_)
          · refine ⟨_, rfl, hi, hv, rfl, hhi.keep (fr2.trans (f4.mono fun _ z => z.elim)).tk, okhi.len, fun Hc rc fc tc => ?_⟩
            have f5 : Fq D0 H2 Hc := f4.trans (Fq.of fc)
            have accc : Hc D = some (.lst acc) := (Fq.of (D := D0) fc).toL accb
            have hpc : Paired (EntAt Hc) acc ((es0.take i).filter (inR lo hi)) := Paired.mapP hpb fun _ _ => EntAt.keep fc.tup
            refine ⟨en.1, hi, Td.keep fc.tup _ _ tb, tc, oken.ok, okhi.ok, _, rfl, ?_⟩
            refine ite2 (fun hc2 => ?_) (fun hc2 => ?_)
            · have hin : inR lo hi en = true := by unfold inR; rw [hc1, hc2]; rfl
              have t6 : Tk Hc (upd Hc D (.lst (acc ++ [.ref e]))) := (Fr.put (S := S1 D) accc (fun z => z) rfl).tup
              refine ⟨_, rfl, acc, accc, ?_, acc ++ [.ref e], f5.own hD, upd_same, by rw [List.length_append]; exact Nat.succ_le_succ hal, ?_⟩
              · have : i < es0.length := (List.getElem?_eq_some_iff.mp e3).1
                have : es0.length ≤ 1000 := by
                  have : (ndE ⟨0, es0⟩).length = es0.length := rfl
                  omega
                exact small1000' (by omega)
              · rw [etk, if_pos hin]
                exact paired_snoc ⟨e, q0, w0, rfl, h5.keep (f5.tk.trans t6), h6.keep (f5.tk.trans t6), Td.keep (f5.tk.trans t6) _ _ h7⟩ (Paired.mapP hpc fun _ _ => EntAt.keep t6)
            · have hin : ¬ inR lo hi en = true := by unfold inR; rw [hc1, Bool.true_and]; exact hc2
              refine ⟨acc, f5, accc, Nat.le_succ_of_le hal, ?_⟩
              rw [etk, if_neg hin, List.append_nil]
              exact hpc
          · have hin : ¬ inR lo hi en = true := by unfold inR; rw [Bool.and_eq_true]; exact fun z => hc1 z.1
            refine ⟨false, rfl, iteF ?_⟩
            refine ⟨acc, f4, accb, Nat.le_succ_of_le hal, ?_⟩
            rw [etk, if_neg hin, List.append_nil]
            exact hpb
        · rintro H3 ⟨acc, f3, hacc, hal, hp⟩
          have ex : xs.length = es0.length := paired_len h4
          rw [ex, List.take_length] at hp
          have e1000 : es0.length ≤ 1000 := by
            have : (ndE ⟨0, es0⟩).length = es0.length := rfl
            omega
          have fr3 : Fq (S1 vd) H H3 := fr2.trans (f3.mono fun _ z => z.elim)
          have tr3 : TrAt CT H3 t rg pd vd (.int (nm ts n T0 : Nat)) kvs := tr2.keep f3 (fun z => z) (fun z => z)
          have hf3 : H3 fp0 = some (.lst fxs) := f3.toL hf2
          have t6 : Tk H3 (upd H3 fp0 (.lst (fxs ++ acc))) := (Fr.put (S := S1 fp0) hf3 (fun z => z) rfl).tup
          refine ⟨fp0, D, fxs, acc, rfl, rfl, hf3, hacc, ?_, rest, ?_, fo ++ es0.filter (inR lo hi), fxs ++ acc, _, v6, v7, v8, v9, v10, v11, v12, rfl, fr3.own hfp, trU tr3 nft npf nvf, upd_same, by rw [upd_ne ntf.symm]; exact f3.toL ht2, ?_, nokr, .inl hgr, by omega, ?_⟩
          · have : sizeLine = 16777216 := by decide
            omega
          · rw [ws]
            have : 7 ^ 0 = 1 := rfl
            omega
          · exact paired_app (Paired.mapP hfo2 fun _ _ => EntAt.keep (f3.tk.trans t6)) (Paired.mapP hp fun _ _ => EntAt.keep t6)
          · rw [List.append_assoc]
            exact heq1
      | j + 1, U0, nok1, pg2, hcr, heq1, ws =>
        obtain ⟨cs, e0⟩ : ∃ cs : List (LKey × Tn j), cs = U0 := ⟨U0, rfl⟩
        subst e0
        obtain ⟨g1, g2, g3⟩ := nok1.g.resolve_right fun z => Nat.succ_ne_zero j z.1
        have gc : goodC cs := g3
        have sd : Sd (cents cs) := nok1.sd
        have es : okEs (cents cs) := nok1.es
        obtain ⟨a, qa, xs, rfl, h2, h3, h4⟩ := pg2
        have hpk : Paired (PairK H2) xs (fsT cs) := kidAt_keys h4
        have exl2 : xs.length = cs.length := by rw [paired_len hpk]; exact List.length_map ..
        refine ⟨_, rfl, a, _, _, _, rfl, rfl, h2.sq, atI_nat (j := 0) rfl, rfl, _, rfl, ?_⟩
        refine ite2 (fun hc => absurd (of_decide_eq_true hc) not_leaf) (fun _ => ?_)
        refine ⟨Nat.zero_le _, fun wp hwp => ?_⟩
        have nfw : fp0 ≠ wp := ne_of_none hf2 hwp
        have ntw : tp ≠ wp := ne_of_none ht2 hwp
        have fw : Fq D0 H2 (upd H2 wp (.lst [])) := Fq.new hwp
        refine ⟨_, rfl, a, _, _, _, rfl, rfl, (h2.keep fw.tk).sq, atI_nat (j := 1) rfl, qa, xs, rfl, (h3.keep fw.tk).tup.sq,
          for_it walkEnumT (fun i σ H3 => ∃ wxs v7 v8 v9 v10 v11, σ = [some (.ref t), some lv, some hv, some (.ref fp0), some (.ref tp), some (.ref a), some (.ref wp), v7, v8, v9, v10, v11, v12] ∧ Fq D0 H2 H3 ∧ H3 wp = some (.lst wxs) ∧ wxs = (wants cs lo hi i).map fun c => V.int (nm ts j c.2 : Nat))
            ⟨[], v7, v8, v9, v10, v11, rfl, fw, upd_same, rfl⟩ (fun i σ H3 _ ⟨_, _, _, _, _, _, _, f, _⟩ => (h3.keep f.tk).tup.sq) ?_ ?_⟩
        · rintro i x σ H3 H4 hii ⟨wxs, v7, v8, v9, v10, v11, rfl, f3, hw, ewx⟩ ⟨T', x0, y, rfl, hT, rfl, e1, e2⟩
          cases e1
          obtain ⟨c, hc⟩ : ∃ c, cs[i]? = some c := ⟨_, List.getElem?_eq_getElem (by rw [← exl2]; exact hii)⟩
          obtain ⟨e, q0, ex, h5, h6⟩ := kidAt_get h4 hc
          have e2 : xs[i]? = some y := e2
          rw [ex] at e2
          cases e2
          have mc := List.mem_of_getElem? hc
          have okc : okKey c.1 := fs_ok gc es _ (List.mem_map.mpr ⟨c, mc, rfl⟩)
          have f4 : Fq D0 H2 (upd H3 T' (.tup [.int (i : Nat), .ref e])) := f3.snoc hT
          have hw4 : (upd H3 T' (.tup [.int (i : Nat), .ref e])) wp = some (.lst wxs) := by rw [upd_ne (ne_of_none hw hT)]; exact hw
          refine ⟨T', _, rfl, .inl (.inl upd_same), rfl, _, _, rfl, _, _, rfl, e, _, rfl, (h5.keep f4.tk).sq, rfl, _, _, rfl, _, _, rfl, rfl, rfl, ?_⟩
          -- is_below
          refine ⟨fun v H5 => v = .bl (isBelow cs hi i c.1) ∧ Fq D0 H2 H5 ∧ H5 wp = some (.lst wxs), ?_, ?_⟩
          · refine ⟨_, rfl, rfl, _, rfl, ?_⟩
            refine ite2 (fun hz => ?_) (fun hz => ?_)
            · have hz : i = 0 := by
                have := of_decide_eq_true hz
                injection this with this
                omega
              refine ⟨?_, f4, hw4⟩
              unfold isBelow
              rw [decide_eq_true hz]
              rfl
            · have hz : ¬ i = 0 := fun z => hz (decide_eq_true (by rw [z]; rfl))
              refine ⟨_, rfl, c.1, q0, rfl, h6.keep f4.tk, okc.len, fun Ha ra fa ta => ?_⟩
              have f5 : Fq D0 H2 Ha := f4.trans (Fq.of fa)
              refine ⟨_, rfl, hi, hv, rfl, hhi.keep (fr2.trans (f5.mono fun _ z => z.elim)).tk, okhi.len, fun Hb rb fb tb => ?_⟩
              refine ⟨c.1, hi, Td.keep fb.tup _ _ ta, tb, okc.ok, okhi.ok, ?_, f5.trans (Fq.of fb), (Fq.of (D := D0) fb).toL ((Fq.of (D := D0) fa).toL hw4)⟩
              unfold isBelow
              rw [decide_eq_false hz, Bool.false_or]
          rintro _ H5 ⟨rfl, f5, hw5⟩
          -- is_above
          refine ⟨fun v H6 => v = .bl (isAbove cs lo i) ∧ Fq D0 H2 H6 ∧ H6 wp = some (.lst wxs), ?_, ?_⟩
          · refine ⟨_, rfl, _, _, rfl, rfl, _, rfl, a, _, _, _, rfl, rfl, (h2.keep f5.tk).sq, atI_nat (j := 1) rfl, qa, xs, rfl, .inr (h3.keep f5.tk).tup.sq, rfl, _, rfl, ?_⟩
            refine ite2 (fun hz => ?_) (fun hz => ?_)
            · have hz : i + 1 = cs.length := by
                have := of_decide_eq_true hz
                injection this with this
                omega
              refine ⟨?_, f5, hw5⟩
              unfold isAbove
              rw [decide_eq_true hz]
              rfl
            · have hz : ¬ i + 1 = cs.length := fun z => hz (decide_eq_true (by
                show V.int ((i : Int) + 1) = V.int ((xs.length : Nat) : Int)
                rw [exl2, ← z]
                rfl))
              have hi1 : i < cs.length := (List.getElem?_eq_some_iff.mp hc).1
              obtain ⟨c', hc'⟩ : ∃ c', cs[i + 1]? = some c' := ⟨_, List.getElem?_eq_getElem (by omega)⟩
              obtain ⟨e', q0', ex', h5', h6'⟩ := kidAt_get h4 hc'
              have okc' : okKey c'.1 := fs_ok gc es _ (List.mem_map.mpr ⟨c', List.mem_of_getElem? hc', rfl⟩)
              refine ⟨_, rfl, lo, lv, rfl, hlo.keep (fr2.trans (f5.mono fun _ z => z.elim)).tk, oklo.len, fun Ha ra fa ta => ?_⟩
              have f6 : Fq D0 H2 Ha := f5.trans (Fq.of fa)
              refine ⟨_, rfl, a, _, _, _, rfl, rfl, (h2.keep f6.tk).sq, atI_nat (j := 1) rfl, _, rfl, _, _, rfl, rfl, qa, xs, _, .ref e', rfl, rfl, (h3.keep f6.tk).tup.sq, ?_, e', _, _, q0', rfl, rfl, (h5'.keep f6.tk).sq, atI_nat (j := 0) rfl, c'.1, q0', rfl, h6'.keep f6.tk, okc'.len, fun Hb rb fb tb => ?_⟩
              · have := atI_nat ex'
                exact this
              refine ⟨lo, c'.1, Td.keep fb.tup _ _ ta, tb, oklo.ok, okc'.ok, ?_, f6.trans (Fq.of fb), (Fq.of (D := D0) fb).toL ((Fq.of (D := D0) fa).toL hw5)⟩
              unfold isAbove
              rw [decide_eq_false hz, Bool.false_or, hc']
          rintro _ H6 ⟨rfl, f6, hw6⟩
          have ew : want cs lo hi i = if (isBelow cs hi i c.1 && isAbove cs lo i) = true then [c] else [] := by
            unfold want
            rw [hc]
          have wl : wxs.length ≤ i := by rw [ewx, List.length_map]; exact wants_len cs lo hi i
          refine ⟨_, rfl, _, rfl, ?_⟩
          cases hb : isBelow cs hi i c.1 with
          | false =>
            refine iteF (iteF ?_)
            refine ⟨wxs, some (.int (i : Nat)), some q0, some (.int (nm ts j c.2 : Nat)), some (.bl false), some (.bl (isAbove cs lo i)), rfl, f6, hw6, ?_⟩
            rw [wants_succ, ew, hb, Bool.false_and, if_neg Bool.false_ne_true, List.append_nil]
            exact ewx
          | true =>
            refine iteT ⟨_, rfl, _, rfl, ?_⟩
            cases ha : isAbove cs lo i with
            | false =>
              refine iteF ?_
              refine ⟨wxs, some (.int (i : Nat)), some q0, some (.int (nm ts j c.2 : Nat)), some (.bl true), some (.bl false), rfl, f6, hw6, ?_⟩
              rw [wants_succ, ew, hb, ha, Bool.true_and, if_neg Bool.false_ne_true, List.append_nil]
              exact ewx
            | true =>
              refine iteT ?_
              refine ⟨_, rfl, .inl ⟨rfl, _, .inl (.inl hw6)⟩, _, rfl, wp, wxs, _, rfl, rfl, hw6, small1000' (by have : cs.length ≤ 6 := g2; omega), ?_⟩
              refine ⟨wxs ++ [.int (nm ts j c.2 : Nat)], some (.int (i : Nat)), some q0, some (.int (nm ts j c.2 : Nat)), some (.bl true), some (.bl true), rfl, f6.own hwp, upd_same, ?_⟩
              rw [wants_succ, ew, hb, ha, Bool.true_and, if_pos rfl, List.map_append, ewx]
              rfl
        · rintro σ H3 ⟨wxs, v7, v8, v9, v10, v11, rfl, f3, hw, ewx⟩
          rw [exl2] at ewx
          have fr3 : Fq (S1 vd) H H3 := fr2.trans (f3.mono fun _ z => z.elim)
          have tr3 : TrAt CT H3 t rg pd vd (.int (nm ts n T0 : Nat)) kvs := tr2.keep f3 (fun z => z) (fun z => z)
          have ht3 : H3 tp = some (.lst (rest.map fun T => V.int (nm ts T.1 T.2 : Nat))) := f3.toL ht2
          refine ⟨_, rfl, .inl ⟨rfl, _, .inl (.inl ht3)⟩, _, rfl, wp, wxs, rfl, .inl (.inl hw), fun rp hrp => ?_⟩
          have ntr : tp ≠ rp := ne_of_none ht3 hrp
          have nfr : fp0 ≠ rp := ne_of_none (f3.toL hf2) hrp
          have f4 : Fq D0 H3 (upd H3 rp (.lst wxs.reverse)) := Fq.new hrp
          have ht4 : (upd H3 rp (.lst wxs.reverse)) tp = some (.lst (rest.map fun T => V.int (nm ts T.1 T.2 : Nat))) := by rw [upd_ne ntr]; exact ht3
          have hwl : (wants cs lo hi cs.length).length ≤ 6 := Nat.le_trans (wants_len cs lo hi _) g2
          have hrl : rest.length ≤ 1000 := st_len (.inl hgr) (by omega)
          have t5 : Tk H2 (upd (upd H3 rp (.lst wxs.reverse)) tp (.lst ((rest.map fun T => V.int (nm ts T.1 T.2 : Nat)) ++ wxs.reverse))) := f3.tk.trans (f4.tk.trans (Fr.put (S := S1 tp) ht4 (fun z => z) rfl).tup)
          have hmap : (rest.map fun T => V.int (nm ts T.1 T.2 : Nat)) ++ wxs.reverse = ((rest ++ ((wants cs lo hi cs.length).map fun c => (⟨j, c.2⟩ : Nd)).reverse).map fun T => V.int (nm ts T.1 T.2 : Nat)) := by
            rw [ewx, List.map_append, List.map_reverse, List.map_map]
            rfl
          refine ⟨tp, rp, _, _, rfl, rfl, ht4, upd_same, ?_, rest ++ ((wants cs lo hi cs.length).map fun c => (⟨j, c.2⟩ : Nd)).reverse, ?_, fo, fxs, _, _, v7, v8, v9, v10, v11, v12, rfl, ?_, trU (tr3.keep f4 (fun z => z) (fun z => z)) ntt npt nvt, ?_, ?_, Paired.mapP hfo2 fun _ _ => EntAt.keep t5, ?_, .inl ?_, ?_, ?_⟩
          · rw [List.length_map, List.length_reverse, ewx, List.length_map]
            have : sizeLine = 16777216 := by decide
            omega
          · rw [ws, wsum_app, wsum_rev, wsum_kids, Nat.pow_succ]
            have h7 : 0 < 7 ^ j := Nat.pow_pos (by decide)
            have := Nat.mul_le_mul_right (7 ^ j) hwl
            omega
          · exact (fr3.trans (f4.mono fun _ z => z.elim)).own htp0
          · rw [upd_ne ntf, upd_ne nfr]
            exact f3.toL hf2
          · rw [hmap]
            exact upd_same
          · intro T hT
            rcases List.mem_append.mp hT with m | m
            · exact nokr T m
            · rw [List.mem_reverse] at m
              obtain ⟨c, mc, rfl⟩ := List.mem_map.mp m
              have mc' := wants_sub mc
              exact ⟨nok1.has.kid mc', .inl (gc c mc').1, sd_kid sd mc', okEs_kid es mc'⟩
          · intro T hT
            rcases List.mem_append.mp hT with m | m
            · exact hgr T m
            · rw [List.mem_reverse] at m
              obtain ⟨c, mc, rfl⟩ := List.mem_map.mp m
              exact (gc c (wants_sub mc)).1
          · have h1 := wants_cost (cs := cs) (lo := lo) (hi := hi)
            have h2 : (List.flatMap ndE ((wants cs lo hi cs.length).map fun c => (⟨j, c.2⟩ : Nd)).reverse).length = (cents (wants cs lo hi cs.length)).length := by
              rw [List.length_flatMap, List.map_reverse, List.sum_reverse, List.map_map]
              unfold cents
              rw [List.length_flatMap]
              rfl
            have h3 : (ndE ⟨j + 1, cs⟩).length = (cents cs).length := rfl
            rw [List.flatMap_append, List.length_append, h2]
            omega
          · rw [List.reverse_append, List.reverse_reverse, List.flatMap_append, ← heq1]
            congr 2
            have h2 : List.flatMap (fun T : Nd => (ndE T).filter (inR lo hi)) ((wants cs lo hi cs.length).map fun c => (⟨j, c.2⟩ : Nd)) = (cents (wants cs lo hi cs.length)).filter (inR lo hi) := by
              unfold cents
              rw [List.filter_flatMap, List.flatMap_map]
              rfl
            rw [h2, wants_spec gc sd]
            rfl
end
end G

/-! Walks over lists or tuples; pages laid one by one. -/
namespace G
open PySem PySem.Spec PyProof.Rows L2
def SqB (b : Bool) (K : PySem.W.Frag) (H : Hp) (a : Addr) (xs : List V) : Prop := if b = true then SqL K H a xs else SqT K H a xs
theorem Fq.seqT {D : Addr → Prop} {H H1 : Hp} {a : Addr} {K : PySem.W.Frag} {xs : List V} (x : Fq D H H1) (h : SqT K H a xs) : SqT K H1 a xs := by
  rcases h with (h | ⟨o, h⟩) | h
  · exact .inl (.inl (x.toT h))
  · exact .inl (.inr ⟨o, x.keep a _ h fun kvs q => by cases q⟩)
  · exact .inr h
theorem Fq.seqB {D : Addr → Prop} {H H1 : Hp} {a : Addr} {b : Bool} {K : PySem.W.Frag} {xs : List V} (x : Fq D H H1) (h : SqB b K H a xs) : SqB b K H1 a xs := by
  cases b with
  | true => exact x.seqL (h : SqL K H a xs)
  | false => exact x.seqT (h : SqT K H a xs)
section
variable {X : Cx} {tg : Expr}
def iSq (K : PySem.W.Frag) (tl : TE) : TI := fun σ H R => tl σ H fun x H1 => ∃ a b xs, x = .ref a ∧ SqB b K H1 a xs ∧ ∀ J, Walk J xs.length (fun H => SqB b K H a xs) (YAt xs) → R J H1
theorem pi_sq {l : Expr} {tl : TE} (hl : PE X l tl) : PI X tg l (iSq X.K tl) := by
  refine ⟨fun pins s σ H R I h => ?_⟩
  refine thn (hl.run pins s σ H _ I h) fun v s1 ⟨x, H1, I1, r1, q1⟩ => ?_
  obtain ⟨a, b, xs, e, hq, q⟩ := q1
  subst e
  cases r1
  cases b with
  | true =>
    obtain ⟨its, rv, p, hz⟩ := I1.list (show SqL X.K H1 a xs from hq)
    refine wpAny_pyIter_list p.isList ?_
    refine ⟨s1.heap.objs.size, [s1.heap.objs.size], _, _, H1, rfl, I1.kept (t' := s1.toks) fun b o e => Heap.get?_push_of_some _ e, turn_list a _, ⟨_, Heap.get?_push_size _ rfl, rfl, rfl⟩, fun b hb => ?_, q _ walk_list⟩
    have e : b = s1.heap.objs.size := by simpa using hb
    subst e
    exact I1.fpOk (Nat.le_refl _) (I1.hok.fresh (Nat.le_refl _))
  | false =>
    obtain ⟨its, rv, p, hz⟩ := I1.tuple (show SqT X.K H1 a xs from hq)
    refine wpAny_pyIter_tuple (show s1.heap.IsTuple a its.toArray from p) ?_
    refine ⟨s1.heap.objs.size, [s1.heap.objs.size], _, _, H1, rfl, I1.kept (t' := s1.toks) fun b o e => Heap.get?_push_of_some _ e, turn_tuple a _, ⟨_, Heap.get?_push_size _ rfl, rfl, rfl⟩, fun b hb => ?_, q _ walk_tup⟩
    have e : b = s1.heap.objs.size := by simpa using hb
    subst e
    exact I1.fpOk (Nat.le_refl _) (I1.hok.fresh (Nat.le_refl _))
end
/-! ### the registry and the pages made -/
structure RM (H : Hp) (d md : Addr) (ts : List Str) (mk : List (Key × V)) : Prop where
  hd : H d = some (.dK (reg ts))
  hm : H md = some (.dK mk)
  po : PagesOk H ts mk
theorem RM.keep {H H' : Hp} {d md : Addr} {ts : List Str} {mk : List (Key × V)} {D : Addr → Prop} (f : Fq D H H') (h1 : ¬ D d) (h2 : ¬ D md) (r : RM H d md ts mk) : RM H' d md ts mk := ⟨f.toDK r.hd h1, f.toDK r.hm h2, r.po.keep f.tk⟩
/-- what grows -/
structure Gro (ts : List Str) (mk : List (Key × V)) (ts' : List Str) (mk' : List (Key × V)) : Prop where
  pre : ts <+: ts'
  sub : ∀ k, In mk k → In mk' k
theorem Gro.refl (ts : List Str) (mk : List (Key × V)) : Gro ts mk ts mk := ⟨List.prefix_refl _, fun _ h => h⟩
theorem Gro.trans {ts ts1 ts2 : List Str} {mk mk1 mk2 : List (Key × V)} (a : Gro ts mk ts1 mk1) (b : Gro ts1 mk1 ts2 mk2) : Gro ts mk ts2 mk2 := ⟨a.pre.trans b.pre, fun k h => b.sub k (a.sub k h)⟩
/-- the children of a page are there -/
def Ready (ts : List Str) (Kp : Key → Prop) : (l : Nat) → Tn l → Prop
  | 0, _ => True
  | n + 1, t => ∀ c : LKey × Tn n, List.Mem c t → Has ts Kp n c.2
theorem Ready.mono {ts ts' : List Str} {Kp Kq : Key → Prop} (p : ts <+: ts') (q : ∀ k, Kp k → Kq k) : ∀ {l : Nat} {t : Tn l}, Ready ts Kp l t → Ready ts' Kq l t
  | 0, _, _ => trivial
  | _ + 1, _, h => fun c m => (h c m).mono p q
theorem Ready.pg {ts ts' : List Str} {Kp : Key → Prop} (p : ts <+: ts') : ∀ {l : Nat} {t : Tn l}, Ready ts Kp l t → pgOf ts' l t = pgOf ts l t
  | 0, _, _ => rfl
  | n + 1, t, h => by
    show Pg.node _ = Pg.node _
    refine congrArg Pg.node (List.map_congr_left fun c m => ?_)
    have hc := h c m
    rw [Has.pg p hc, nmOf_pre p hc.top.1]
theorem pg0 (ts : List Str) (t : Tn 0) : pgOf ts 0 t = .leaf t := rfl
theorem has_laid {ts : List Str} {K K' : Key → Prop} {l : Nat} {t : Tn l} (h : Ready ts K l t) (hk : ∀ k, K k → K' k) (hn : K' (.inl (nmOf (named ts (txt (pgOf ts l t))) (txt (pgOf ts l t)) : Nat))) :
    Has (named ts (txt (pgOf ts l t))) K' l t ∧ pgOf (named ts (txt (pgOf ts l t))) l t = pgOf ts l t := by
  cases l with
  | zero =>
    rw [pg0] at hn ⊢
    refine ⟨?_, pg0 _ _⟩
    unfold Has
    refine ⟨?_, ?_⟩
    · rw [pg0]
      exact named_mem _ _
    · unfold nm
      rw [pg0]
      exact hn
  | succ n => exact has_node (cs := t) h hk hn
/-- the pair that _lay gives -/
def LaidAt (H : Hp) (ts : List Str) (l : Nat) (x : V) (U : Tn l) : Prop := KidAt H x (fstT l U, ((nm ts l U : Nat) : Int))
theorem LaidAt.keep {H H' : Hp} {ts ts' : List Str} {K : Key → Prop} (k : Tk H H') (p : ts <+: ts') {l : Nat} {x : V} {U : Tn l} (hs : Has ts K l U) (h : LaidAt H ts l x U) : LaidAt H' ts' l x U := by
  unfold LaidAt at h ⊢
  rw [hs.nm p]
  exact h.keep k
theorem keys_first {ts : List Str} : ∀ {l : Nat} {t : Tn l}, good l t → ∃ ks, (pgOf ts l t).keys = fstT l t :: ks
  | 0, t, h => by
    obtain ⟨h, _⟩ := h
    match t, h with
    | [], h => exact absurd rfl h
    | e :: r, _ => exact ⟨_, rfl⟩
  | n + 1, t, h => by
    obtain ⟨h, _, _⟩ := h
    match t, h with
    | [], h => exact absurd rfl h
    | c :: r, _ => exact ⟨_, rfl⟩
theorem okPg_ready {ts : List Str} (hz : ts.length ≤ 1000000) {K : Key → Prop} : ∀ {l : Nat} {t : Tn l}, good l t → okEs (ents l t) → Ready ts K l t → okPg (pgOf ts l t)
  | 0, t, g, o, _ => ⟨g.2, o⟩
  | n + 1, t, g, o, h => by
    refine ⟨Nat.le_trans (Nat.le_of_eq (List.length_map (α := LKey × Tn n) ..)) g.2.1, fun c m => ?_⟩
    obtain ⟨c', m', rfl⟩ := List.mem_map.mp m
    obtain ⟨g1, g2⟩ := g.2.2 c' m'
    obtain ⟨d, r, e⟩ := head_ents g1
    refine ⟨?_, ?_⟩
    · have := (o (fstT n c'.2, d) (List.mem_flatMap.mpr ⟨c', m', by rw [e]; exact List.mem_cons_self⟩)).1
      rw [← g2] at this
      exact this
    · show Int.natAbs ((nmOf ts (txt (pgOf ts n c'.2)) : Nat) : Int) < _
      rw [Int.natAbs_natCast]
      exact Nat.lt_of_le_of_lt (Nat.le_trans (nmOf_le (h c' m').top.1) hz) (by decide)
section
variable {P : Program} {w : World} {K : PySem.W.Frag} {mg : Str → Option Value} {base : Heap} {CR CT : Addr}
def spLay2 (CR CT : Addr) : Sp := fun vs H Q _ => ∃ t rg d md v ts mk l, ∃ U : Tn l, vs = [.ref t, v, .ref md] ∧ (∃ dx x pd vd, H t = some (.ins CT dx (flT x rg pd vd))) ∧ RegI CR H rg d ∧ RM H d md ts mk ∧ d ≠ md ∧ ts.length ≤ 1000000 ∧
  PG H v (pgOf ts l U) ∧ good l U ∧ okEs (ents l U) ∧ Ready ts (In mk) l U ∧ ∀ H' e ts' mk', Fq (S2 d md) H H' → RM H' d md ts' mk' → Gro ts mk ts' mk' → ts'.length ≤ ts.length + 1 → Has ts' (In mk') l U → LaidAt H' ts' l (.ref e) U → Q (.ref e) H'
theorem lay2_of {vs : List V} {H : Hp} {Q : VK} {E : XK} (h : spLay2 CR CT vs H Q E) : spLay CR CT vs H Q E := by
  obtain ⟨t, rg, d, md, v, ts, mk, l, U, rfl, ⟨dx, x, pd, vd, ht⟩, hrg, rm, hne, hz, pg, g, es, rd, q⟩ := h
  obtain ⟨ks, ek⟩ := keys_first (ts := ts) g
  have okp := okPg_ready hz g es rd
  refine ⟨t, dx, x, rg, pd, vd, d, md, v, ts, mk, _, _, _, rfl, ht, hrg, rm.hd, rm.hm, hne, rm.po, hz, pg, okp, ek, fun H' e q0 f hd hm h1 h2 => ?_⟩
  have hs := has_laid (K' := In (putK mk (.inl (nmOf (named ts (txt (pgOf ts l U))) (txt (pgOf ts l U)) : Nat) : Key) v)) rd (fun k z => In.put z) In.self
  refine q H' e _ _ f ⟨hd, hm, ((rm.po.keep f.tk).more (named_pre _ _)).put okp (named_mem _ _) (pg.keep f.tk)⟩ ⟨named_pre _ _, fun k z => In.put z⟩ (named_len _ _) hs.1 ?_
  unfold LaidAt nm
  rw [hs.2]
  exact ⟨e, q0, rfl, h1, h2⟩
theorem UseM.lay2 {f : Addr} {fd : FuncData} (U : UseM P w K mg base 2 CT "_lay" f fd ["self", "page", "made"] (spLay CR CT)) : UseM P w K mg base 2 CT "_lay" f fd ["self", "page", "made"] (spLay2 CR CT) :=
  ⟨U.m, U.b, U.g.imp fun _ _ _ _ h => lay2_of h⟩
/-- the items of a page's tuple -/
def ItsAt (H : Hp) (ts : List Str) : (l : Nat) → List V → Tn l → Prop
  | 0, ys, t => Paired (EntAt H) ys t
  | n + 1, ys, t => Paired (KidAt H) ys (List.map (fun c : LKey × Tn n => (c.1, ((nm ts n c.2 : Nat) : Int))) t)
def kindT : Nat → Str
  | 0 => "leaf"
  | _ + 1 => "node"
theorem ItsAt.pg {H : Hp} {ts : List Str} {a q : Addr} {ys : List V} : ∀ {l : Nat} {U : Tn l}, TupAt H a [.str (kindT l), .ref q] → FzT H q ys → ItsAt H ts l ys U → PG H (.ref a) (pgOf ts l U)
  | 0, _, h1, h2, h3 => ⟨a, q, ys, rfl, h1, h2, h3⟩
  | _ + 1, _, h1, h2, h3 => ⟨a, q, ys, rfl, h1, h2, h3⟩
theorem ItsAt.keep {H H' : Hp} {ts ts' : List Str} {K : Key → Prop} (k : Tk H H') (p : ts <+: ts') : ∀ {l : Nat} {ys : List V} {U : Tn l}, Ready ts K l U → ItsAt H ts l ys U → ItsAt H' ts' l ys U
  | 0, _, _, _, h => Paired.mapP h fun _ _ => EntAt.keep k
  | n + 1, ys, U, r, h => by
    have e : List.map (fun c : LKey × Tn n => (c.1, ((nm ts' n c.2 : Nat) : Int))) U = List.map (fun c : LKey × Tn n => (c.1, ((nm ts n c.2 : Nat) : Int))) U := List.map_congr_left fun c m => by rw [(r c m).nm p]
    exact Eq.mpr (congrArg (Paired (KidAt H') ys) e) (Paired.mapP (show Paired (KidAt H) ys (List.map (fun c : LKey × Tn n => (c.1, ((nm ts n c.2 : Nat) : Int))) U) from h) fun _ _ => KidAt.keep k)
theorem fstT_ok {l : Nat} {U : Tn l} (g : good l U) (o : okEs (ents l U)) : okKey (fstT l U) := by
  obtain ⟨d, r, e⟩ := head_ents g
  exact (o (fstT l U, d) (by rw [e]; exact List.mem_cons_self)).1
/-- [self._lay((kind, piece), made) for piece in pieces] -/
theorem lay_lc {σ : L2.St} {H1 : Hp} {D a t rg d md : Addr} {xs : List V} {l ps ms : Nat} {yss : List (List V)} {pcs : List (Tn l)} {ts : List Str} {mk : List (Key × V)} {Qd : Hp → Prop}
    (s0 : (wipe σ [ps])[0]? = some (some (.ref t))) (sm : (wipe σ [ps])[ms]? = some (some (.ref md))) (n0 : 0 ≠ ps) (nm' : ms ≠ ps) (hps : ps < σ.length)
    (ha : H1 a = some (.lst xs)) (hx : Paired (CutAt H1) xs yss) (hy : ∀ H' ts', Tk H1 H' → ts <+: ts' → Paired (ItsAt H' ts' l) yss pcs) (hD : H1 D = none)
    (ht : ∃ dx x pd vd, H1 t = some (.ins CT dx (flT x rg pd vd))) (hrg : RegI CR H1 rg d) (rm : RM H1 d md ts mk) (hne : d ≠ md) (hz : ts.length + pcs.length ≤ 1000000) (hpl : pcs.length ≤ 1000)
    (g : ∀ U ∈ pcs, good l U) (es : ∀ U ∈ pcs, okEs (ents l U)) (rd : ∀ U ∈ pcs, Ready ts (In mk) l U)
    (hd : ∀ H' acc ts' mk', Fq (S2 d md) H1 H' → H' D = some (.lst acc) → RM H' d md ts' mk' → Gro ts mk ts' mk' → ts'.length ≤ ts.length + pcs.length → Paired (LaidAt H' ts' l) acc pcs → (∀ U ∈ pcs, Has ts' (In mk') l U) → Qd H') :
    ∃ W : Nat → Nat → Hp → Prop, (∃ m, W 0 m (upd H1 D (.lst []))) ∧ ∀ i m H, W i m H →
      ((Itl K a).stop i H ∧ Qd H) ∨ ((Itl K a).go i H ∧ ∃ Nx : Hp → Prop, (∀ H', Nx H' → ∃ m', m' < m ∧ W (i + 1) m' H') ∧ ∀ x H', (Itl K a).yld i H x H' → gName ps x (wipe σ [ps]) H' fun σ2 H2 => wipe σ2 [ps] = wipe σ [ps] ∧ tYes σ2 H2 fun b H3 =>
        if b = true then tMeth CT "_lay" (spLay2 CR CT) [] E0 (tVar 0) (tCons (tTup (tCons (tC (.str (kindT l))) (tCons (tVar ps) tNil))) (tCons (tVar ms) tNil)) σ2 H3 fun y H4 => ∃ acc, H4 D = some (.lst acc) ∧ acc.length < sizeLine ∧ Nx (upd H4 D (.lst (acc ++ [y]))) else Nx H3) := by
  have hpx : Paired (fun (x : V) (U : Tn l) => ∃ ys, CutAt H1 x ys ∧ ∀ H' ts', Tk H1 H' → ts <+: ts' → ItsAt H' ts' l ys U) xs pcs := by
    have go : ∀ {xs : List V} {yss : List (List V)} {pcs : List (Tn l)}, Paired (CutAt H1) xs yss → (∀ H' ts', Tk H1 H' → ts <+: ts' → Paired (ItsAt H' ts' l) yss pcs) → Paired (fun (x : V) (U : Tn l) => ∃ ys, CutAt H1 x ys ∧ ∀ H' ts', Tk H1 H' → ts <+: ts' → ItsAt H' ts' l ys U) xs pcs := by
      intro xs yss pcs h1
      induction h1 generalizing pcs with
      | nil =>
        intro h2
        cases h2 H1 ts (Tk.refl _) (List.prefix_refl _)
        exact .nil
      | cons h t ih =>
        intro h2
        cases pcs with
        | nil => cases h2 H1 ts (Tk.refl _) (List.prefix_refl _)
        | cons U r =>
          exact .cons ⟨_, h, fun H' ts' k p => by cases h2 H' ts' k p; assumption⟩ (ih fun H' ts' k p => by cases h2 H' ts' k p; assumption)
    exact go hx hy
  have hxl : xs.length = pcs.length := paired_len hpx
  refine lc_list (K := K) (a := a) (xs := xs) (fun i H' => ∃ acc ts' mk', Fq (S2 d md) H1 H' ∧ H' D = some (.lst acc) ∧ RM H' d md ts' mk' ∧ Gro ts mk ts' mk' ∧ ts'.length ≤ ts.length + i ∧ Paired (LaidAt H' ts' l) acc (pcs.take i) ∧ ∀ U ∈ pcs.take i, Has ts' (In mk') l U)
    ⟨[], ts, mk, Fq.new hD, upd_same, ?_, Gro.refl _ _, Nat.le_refl _, ?_, ?_⟩ (fun i H' _ ⟨_, _, _, f, _⟩ => .inl (.inl (f.toL ha))) ?_ ?_
  · exact rm.keep (D := D0) (Fq.new hD) (fun z => z) fun z => z
  · rw [List.take_zero]
    exact .nil
  · intro U m
    rw [List.take_zero] at m
    cases m
  · rintro i x H' hxi ⟨acc, ts', mk', f, hacc, rm', gr, hlen, hp, hh⟩
    obtain ⟨U, eU, ys, ⟨q, rfl, fz⟩, hits⟩ := paired_get hpx hxi
    have mU := List.mem_of_getElem? eU
    have hil : i < pcs.length := (List.getElem?_eq_some_iff.mp eU).1
    have hwl : ps < (wipe σ [ps]).length := by rw [wipe_length]; exact hps
    refine ⟨?_, ?_⟩
    · show (((wipe σ []).set ps none).set ps (some (.ref q))).set ps none = (wipe σ []).set ps none
      rw [List.set_set, List.set_set]
    obtain ⟨dx, x, pd, vd, ht0⟩ := ht
    refine ⟨.ref t, ?_, t, dx, _, rfl, f.toI ht0, flT_no _ _ _ _ (by decide +kernel) (by decide +kernel) (by decide +kernel) (by decide +kernel), ?_⟩
    · rw [List.getElem?_set_ne n0.symm]
      exact s0
    refine ⟨.ref q, ?_, by show 2 ≤ sizeLine; decide, fun p hp0 => ?_⟩
    · rw [List.getElem?_set_self hwl]
    have f2 : Fq (S2 d md) H1 (upd H' p (.tup [.str (kindT l), .ref q])) := f.snoc hp0
    have f1 : Fq D0 H' (upd H' p (.tup [.str (kindT l), .ref q])) := Fq.new hp0
    have rdU : Ready ts' (In mk') l U := (rd U mU).mono gr.pre gr.sub
    refine ⟨.ref md, ?_, t, rg, d, md, .ref p, ts', mk', l, U, rfl, ⟨dx, x, pd, vd, f2.toI ht0⟩, hrg.keep f2, rm'.keep f1 (fun z => z) (fun z => z), hne, by omega, ?_, g U mU, es U mU, rdU, fun H2 e ts2 mk2 f3 rm2 gr2 hl2 hh2 la2 => ?_⟩
    · rw [List.getElem?_set_ne nm'.symm]
      exact sm
    · exact ItsAt.pg (.of upd_same) (fz.keep f2.tk) (hits _ _ f2.tk gr.pre)
    have hD2 : H2 D = some (.lst acc) := f3.toL (f1.toL hacc)
    have t4 : Tk H2 (upd H2 D (.lst (acc ++ [.ref e]))) := (Fr.put (S := S1 D) hD2 (fun z => z) rfl).tup
    refine ⟨acc, hD2, small1000' ?_, acc ++ [.ref e], ts2, mk2, ((f2.trans f3).own hD), upd_same, ?_, gr.trans gr2, by omega, ?_, ?_⟩
    · rw [paired_len hp, List.length_take]
      omega
    · have nd1 : d ≠ D := ne_of_none rm.hd hD
      have nd2 : md ≠ D := ne_of_none rm.hm hD
      exact ⟨by rw [upd_ne nd1]; exact rm2.hd, by rw [upd_ne nd2]; exact rm2.hm, rm2.po.keep t4⟩
    · have et : pcs.take (i + 1) = pcs.take i ++ [U] := by rw [List.take_add_one, eU]; rfl
      rw [et]
      refine paired_snoc (la2.keep t4 (List.prefix_refl _) hh2) ?_
      have go : ∀ {as : List V} {bs : List (Tn l)}, Paired (LaidAt H' ts' l) as bs → (∀ U ∈ bs, Has ts' (In mk') l U) → Paired (LaidAt (upd H2 D (.lst (acc ++ [.ref e]))) ts2 l) as bs := by
        intro as bs h1
        induction h1 with
        | nil => exact fun _ => .nil
        | cons h t ih => exact fun hb => .cons (h.keep (f1.tk.trans (f3.tk.trans t4)) gr2.pre (hb _ List.mem_cons_self)) (ih fun U m => hb U (List.mem_cons_of_mem _ m))
      exact go hp hh
    · intro U' m
      have et : pcs.take (i + 1) = pcs.take i ++ [U] := by rw [List.take_add_one, eU]; rfl
      rw [et] at m
      rcases List.mem_append.mp m with m | m
      · exact (hh U' m).mono gr2.pre gr2.sub
      · rw [List.mem_singleton.mp m]
        exact hh2
  · rintro H' ⟨acc, ts', mk', f, hacc, rm', gr, hlen, hp, hh⟩
    rw [hxl] at hlen hp hh
    rw [List.take_length] at hp hh
    exact hd H' acc ts' mk' f hacc rm' gr hlen hp hh
end
end G

/-! _replaced. -/
namespace G
open PySem PySem.Spec PyProof.Rows L2
/-! ### plain -/
structure PLok (PL : List LKey) : Prop where
  sk : Sk PL
  key : ∀ k ∈ PL, okKey k
  len : PL.length ≤ 100
def ChOk (PL : List LKey) (ch : List Ent) : Prop := ∀ c ∈ ch, c.1 ∈ PL ∧ okVal c.2
theorem okVal_none : okVal .none := ⟨by rw [nice], by rw [wd]; decide, by rw [PyData.depth]; decide⟩
theorem upds_snoc (c : Ent) : ∀ (ch : List Ent) (f : LKey → PyData) (k : LKey), updsF f (ch ++ [c]) k = if k = c.1 then c.2 else updsF f ch k
  | [], f, k => rfl
  | a :: r, f, k => upds_snoc c r _ k
theorem upds_ok {p : PyData → Prop} : ∀ {ch : List Ent} {f : LKey → PyData}, (∀ k, p (f k)) → (∀ c ∈ ch, p c.2) → ∀ k, p (updsF f ch k)
  | [], _, h, _, k => h k
  | a :: r, f, h, h2, k => upds_ok (ch := r) (fun k => by
      show p (if k = a.1 then a.2 else f k)
      split
      · exact h2 a List.mem_cons_self
      · exact h k) (fun c m => h2 c (List.mem_cons_of_mem _ m)) k
theorem look_ok {p : PyData → Prop} (h0 : p .none) : ∀ {es : List Ent}, (∀ e ∈ es, p e.2) → ∀ k, p (look es k)
  | [], _, _ => h0
  | a :: r, h, k => by
    unfold look
    split
    · exact h a List.mem_cons_self
    · exact look_ok h0 (fun e m => h e (List.mem_cons_of_mem _ m)) k
theorem paired_map2 {α β γ : Type} {R : β → γ → Prop} {f : α → β} {g : α → γ} : ∀ {l : List α}, (∀ i ∈ l, R (f i) (g i)) → Paired R (l.map f) (l.map g)
  | [], _ => .nil
  | a :: r, h => .cons (h a List.mem_cons_self) (paired_map2 fun i m => h i (List.mem_cons_of_mem _ m))
theorem cut_paired {α β : Type} {R : α → β → Prop} {xs : List α} {as : List β} (h : Paired R xs as) : Paired (Paired R) (cutL xs) (cutL as) := by
  have e := paired_len h
  unfold cutL piece
  rw [← e]
  exact paired_map2 fun i _ => paired_take _ (paired_drop _ h)
/-- the dict's values, told by a function -/
structure DF (H : Hp) (kvs : List (LKey × V)) (f : LKey → PyData) : Prop where
  yes : ∀ k v, valV kvs k = some v → Td H v (f k)
  no : ∀ k, valV kvs k = none → f k = .none
theorem DF.keep {H H' : Hp} {kvs : List (LKey × V)} {f : LKey → PyData} (t : Tk H H') (h : DF H kvs f) : DF H' kvs f := ⟨fun k v e => Td.keep t _ _ (h.yes k v e), h.no⟩
theorem DF.put {H : Hp} {kvs : List (LKey × V)} {f : LKey → PyData} {k : LKey} {v : V} {d : PyData} (h : DF H kvs f) (hv : Td H v d) : DF H (putK kvs k v) (fun j => if j = k then d else f j) := by
  refine ⟨fun j u e => ?_, fun j e => ?_⟩
  · rw [valV_put] at e
    by_cases q : j = k
    · rw [if_pos q] at e ⊢
      cases e
      exact hv
    · rw [if_neg q] at e ⊢
      exact h.yes j u e
  · rw [valV_put] at e
    by_cases q : j = k
    · rw [if_pos q] at e
      cases e
    · rw [if_neg q] at e ⊢
      exact h.no j e
theorem DF.congr {H : Hp} {kvs : List (LKey × V)} {f g : LKey → PyData} (h : DF H kvs f) (e : ∀ k, f k = g k) : DF H kvs g := ⟨fun k v q => by rw [← e]; exact h.yes k v q, fun k q => by rw [← e]; exact h.no k q⟩
theorem ents_kv {H : Hp} : ∀ {xs : List V} {es : List Ent}, Paired (EntAt H) xs es → ∃ kvs : List (LKey × V), Paired (EntV H) xs kvs ∧ kvs.map (·.1) = es.map (·.1) ∧ DF H kvs (look es)
  | _, _, .nil => ⟨[], .nil, rfl, ⟨fun k v e => (by cases e), fun k e => rfl⟩⟩
  | _, _, .cons (b := en) h t => by
    obtain ⟨kvs, h1, h2, h3⟩ := ents_kv t
    obtain ⟨a, q, w, rfl, e1, ⟨b, rfl, e2⟩, e3⟩ := h
    refine ⟨(en.1, w) :: kvs, .cons ⟨a, b, rfl, e1, e2⟩ h1, by rw [List.map_cons, List.map_cons, h2], ⟨fun k v e => ?_, fun k e => ?_⟩⟩
    · by_cases hk : en.1 = k
      · rw [valV_pos hk] at e
        cases e
        unfold look
        rw [if_pos hk]
        exact e3
      · rw [valV_neg hk] at e
        unfold look
        rw [if_neg hk]
        exact h3.yes k v e
    · by_cases hk : en.1 = k
      · rw [valV_pos hk] at e
        cases e
      · rw [valV_neg hk] at e
        unfold look
        rw [if_neg hk]
        exact h3.no k e
theorem td_non {H : Hp} {v : V} {d : PyData} (h : Td H v d) : (!decide (v = .non)) = !isN d := by
  cases d with
  | none => rw [Td.none'.mp h]; rfl
  | bool b => rw [Td.bool'.mp h]; rfl
  | int i => rw [Td.int'.mp h]; rfl
  | str x => rw [Td.str'.mp h]; rfl
  | tuple ds =>
    obtain ⟨a, xs, rfl, _⟩ := Td.tup'.mp h
    rfl
  | list ds => rw [Td] at h; exact h.elim
  | dict ds => rw [Td] at h; exact h.elim
theorem sort_filter {PL : List LKey} (sP : Sk PL) {ks : List LKey} (nd : ks.Nodup) (hs : ∀ k ∈ ks, k ∈ PL) {p : LKey → Bool} (hp : ∀ k, p k = true → k ∈ ks) : (ks.mergeSort kle).filter p = PL.filter p := by
  have s1 : (ks.mergeSort kle).Pairwise fun a b => kle a b = true := List.pairwise_mergeSort (le := kle) (fun a b c h1 h2 => kle_trans h1 h2) (fun a b => by
    rw [Bool.or_eq_true]
    rcases klt_tri a b with h | h | h
    · exact .inl (kle_iff.mpr (.inl h))
    · exact .inl (kle_iff.mpr (.inr h))
    · exact .inr (kle_iff.mpr (.inl h))) ks
  have pm := List.mergeSort_perm ks kle
  have nd2 : (ks.mergeSort kle).Nodup := pm.nodup_iff.mpr nd
  have s2 : Sk (ks.mergeSort kle) := by
    unfold Sk
    have := List.Pairwise.and s1 nd2
    exact this.imp fun ⟨h1, h2⟩ => (kle_iff.mp h1).resolve_right h2
  refine sorted_ext (List.Pairwise.filter _ s2) (List.Pairwise.filter _ sP) fun k => ?_
  rw [List.mem_filter, List.mem_filter, pm.mem_iff]
  exact ⟨fun ⟨h1, h2⟩ => ⟨hs k h1, h2⟩, fun ⟨_, h2⟩ => ⟨hp k h2, h2⟩⟩
def S3 (a b c : Addr) : Addr → Prop := fun x => x = a ∨ x = b ∨ x = c
structure RS (CR CT : Addr) (H : Hp) (t rg pd vd d md : Addr) (x : V) (kvs : List (Key × V)) (ts : List Str) (mk : List (Key × V)) : Prop where
  tr : TrAt CT H t rg pd vd x kvs
  rgi : RegI CR H rg d
  rm : RM H d md ts mk
  ne : d ≠ md ∧ d ≠ pd ∧ d ≠ vd ∧ md ≠ pd ∧ md ≠ vd
  po : PagesOk H ts kvs
  sub : ∀ k, In kvs k → In mk k
section
variable {CR CT : Addr} {H H' : Hp} {t rg pd vd d md : Addr} {x : V} {kvs : List (Key × V)} {ts : List Str} {mk : List (Key × V)}
/-- nothing of it has changed -/
theorem RS.keep (f : Fq D0 H H') (r : RS CR CT H t rg pd vd d md x kvs ts mk) : RS CR CT H' t rg pd vd d md x kvs ts mk :=
  ⟨r.tr.keep f (fun z => z) fun z => z, r.rgi.keep f, r.rm.keep f (fun z => z) fun z => z, r.ne, r.po.keep f.tk, r.sub⟩
theorem RS.page (f : Fq (S1 vd) H H') (tr : TrAt CT H' t rg pd vd x kvs) (r : RS CR CT H t rg pd vd d md x kvs ts mk) : RS CR CT H' t rg pd vd d md x kvs ts mk :=
  ⟨tr, r.rgi.keep f, r.rm.keep f (fun z => r.ne.2.2.1 z) (fun z => r.ne.2.2.2.2 z), r.ne, r.po.keep f.tk, r.sub⟩
theorem RS.laid {ts' : List Str} {mk' : List (Key × V)} (f : Fq (S2 d md) H H') (rm : RM H' d md ts' mk') (g : Gro ts mk ts' mk') (r : RS CR CT H t rg pd vd d md x kvs ts mk) : RS CR CT H' t rg pd vd d md x kvs ts' mk' :=
  ⟨r.tr.keep f (fun z => z.elim (fun e => r.ne.2.1 e.symm) fun e => r.ne.2.2.2.1 e.symm) (fun z => z.elim (fun e => r.ne.2.2.1 e.symm) fun e => r.ne.2.2.2.2 e.symm), r.rgi.keep f, rm, r.ne, (r.po.keep f.tk).more g.pre, fun k h => g.sub k (r.sub k h)⟩
/-- a change of a list that is none of it -/
theorem RS.list {p : Addr} {o : List V} {ys : List V} (h : H p = some (.lst ys)) (r : RS CR CT H t rg pd vd d md x kvs ts mk) : RS CR CT (upd H p (.lst o)) t rg pd vd d md x kvs ts mk := by
  have tk : Tk H (upd H p (.lst o)) := (Fr.put (S := S1 p) h (fun z => z) rfl).tup
  obtain ⟨⟨dx, e1⟩, e2, ⟨vs, e3, e4⟩, e5⟩ := r.tr
  obtain ⟨dr, b, c, e6⟩ := r.rgi
  have ne : ∀ {a : Addr} {u : HO}, H a = some u → (∀ l, u ≠ .lst l) → (upd H p (.lst o)) a = some u := fun {a u} h1 h2 => by
    rw [upd_ne (fun z => by rw [z, h] at h1; injection h1 with h1; exact h2 _ h1.symm)]
    exact h1
  exact ⟨⟨⟨dx, ne e1 (by intro l z; cases z)⟩, ne e2 (by intro l z; cases z), ⟨vs, ne e3 (by intro l z; cases z), e4⟩, e5⟩, ⟨dr, b, c, ne e6 (by intro l z; cases z)⟩, ⟨ne r.rm.hd (by intro l z; cases z), ne r.rm.hm (by intro l z; cases z), r.rm.po.keep tk⟩, r.ne, r.po.keep tk, r.sub⟩
theorem RS.dT {p : Addr} {o : List (LKey × V)} {ys : List (LKey × V)} (h : H p = some (.dT ys)) (r : RS CR CT H t rg pd vd d md x kvs ts mk) : RS CR CT (upd H p (.dT o)) t rg pd vd d md x kvs ts mk := by
  have tk : Tk H (upd H p (.dT o)) := (Fr.put (S := S1 p) h (fun z => z) rfl).tup
  obtain ⟨⟨dx, e1⟩, e2, ⟨vs, e3, e4⟩, e5⟩ := r.tr
  obtain ⟨dr, b, c, e6⟩ := r.rgi
  have ne : ∀ {a : Addr} {u : HO}, H a = some u → (∀ l, u ≠ .dT l) → (upd H p (.dT o)) a = some u := fun {a u} h1 h2 => by
    rw [upd_ne (fun z => by rw [z, h] at h1; injection h1 with h1; exact h2 _ h1.symm)]
    exact h1
  exact ⟨⟨⟨dx, ne e1 (by intro l z; cases z)⟩, ne e2 (by intro l z; cases z), ⟨vs, ne e3 (by intro l z; cases z), e4⟩, e5⟩, ⟨dr, b, c, ne e6 (by intro l z; cases z)⟩, ⟨ne r.rm.hd (by intro l z; cases z), ne r.rm.hm (by intro l z; cases z), r.rm.po.keep tk⟩, r.ne, r.po.keep tk, r.sub⟩
/-- what is new here was new ahead, too -/
theorem RS.old {D : Addr → Prop} {Ho : Hp} {p : Addr} (hD : ∀ b, D b → S3 d md vd b) (f : Fq D Ho H) (r : RS CR CT H t rg pd vd d md x kvs ts mk) (hp : H p = none) : Ho p = none := by
  refine f.toN hp fun z => ?_
  rcases hD _ z with e | e | e
  · rw [e, r.rm.hd] at hp; cases hp
  · rw [e, r.rm.hm] at hp; cases hp
  · obtain ⟨vs, e3, _⟩ := r.tr.vis
    rw [e, e3] at hp
    cases hp
end
def spRepl (CR CT : Addr) (K : PySem.W.Frag) (PL : List LKey) (n : Nat) : Sp := fun vs H Q _ => ∃ t rg pd vd d md x kvs ts mk ca b cxs ch, ∃ U : Tn n,
  vs = [.ref t, .int (nm ts n U : Nat), .ref ca, .ref md] ∧ RS CR CT H t rg pd vd d md x kvs ts mk ∧ Has ts (In kvs) n U ∧ (good n U ∨ (n = 0 ∧ ents n U = [])) ∧ Ok PL (ents n U) ∧ okEs (ents n U) ∧
  SqB b K H ca cxs ∧ Paired (EntAt H) cxs ch ∧ ChOk PL ch ∧ ch.length ≤ 1000 ∧ ts.length + (n + 1) * ((repl PL n U ch).flatMap (ents n)).length ≤ 1000000 ∧
  ∀ H' p xs ts' mk', Fq (S3 d md vd) H H' → RS CR CT H' t rg pd vd d md x kvs ts' mk' → Gro ts mk ts' mk' → ts'.length ≤ ts.length + (n + 1) * ((repl PL n U ch).flatMap (ents n)).length → H p = none → H' p = some (.lst xs) →
    Paired (LaidAt H' ts' n) xs (repl PL n U ch) → (∀ W ∈ repl PL n U ch, Has ts' (In mk') n W) → Q (.ref p) H'
def spPrev (CR CT : Addr) (K : PySem.W.Frag) (PL : List LKey) : Nat → Sp
  | 0 => fun _ _ _ _ => False
  | m + 1 => spRepl CR CT K PL m
/-- a child's pair -/
def KA (H : Hp) (ts : List Str) (m : Nat) (x : V) (c : LKey × Tn m) : Prop := KidAt H x (c.1, ((nm ts m c.2 : Nat) : Int))
theorem ka_keep {H H' : Hp} {ts ts' : List Str} {m : Nat} {Kp : Key → Prop} (k : Tk H H') (p : ts <+: ts') : ∀ {xs : List V} {l : List (LKey × Tn m)}, Paired (KA H ts m) xs l → (∀ c ∈ l, Has ts Kp m c.2) → Paired (KA H' ts' m) xs l
  | _, _, .nil, _ => .nil
  | _, _, .cons (b := c) h t, hb => .cons (by
      unfold KA at h ⊢
      rw [(hb c List.mem_cons_self).nm p]
      exact h.keep k) (ka_keep k p t fun c m => hb c (List.mem_cons_of_mem _ m))
theorem ka_its {H : Hp} {ts : List Str} {m : Nat} {xs : List V} {l : List (LKey × Tn m)} (h : Paired (KA H ts m) xs l) : ItsAt H ts (m + 1) xs l := paired_map (f := fun c : LKey × Tn m => (c.1, ((nm ts m c.2 : Nat) : Int))) (S := KidAt H) (fun _ _ q => q) h
theorem ka_laid {H : Hp} {ts : List Str} {m : Nat} {xs : List V} {l : List (Tn m)} (h : Paired (LaidAt H ts m) xs l) : Paired (KA H ts m) xs (l.map fun p => (fstT m p, p)) := paired_map (f := fun p => (fstT m p, p)) (S := KA H ts m) (fun _ _ q => q) h
theorem kids_succ {n : Nat} (r : Tn n → List Ent → List (Tn n)) (t : List (LKey × Tn n)) (ch : List Ent) (i : Nat) : kids r t ch (i + 1) = kids r t ch i ++ kid r t ch i := by
  unfold kids
  rw [List.range_succ, List.flatMap_append]
  simp
theorem kids_pre {n : Nat} (r : Tn n → List Ent → List (Tn n)) (t : List (LKey × Tn n)) (ch : List Ent) {i j : Nat} (h : i ≤ j) : kids r t ch i <+: kids r t ch j := by
  induction h with
  | refl => exact List.prefix_refl _
  | step _ ih =>
    rw [kids_succ]
    exact ih.trans (List.prefix_append _ _)
theorem cents_pre {m : Nat} {a b : List (LKey × Tn m)} (h : a <+: b) : (cents a).length ≤ (cents b).length := by
  obtain ⟨c, rfl⟩ := h
  unfold cents
  rw [List.flatMap_append, List.length_append]
  omega
theorem cents_app {m : Nat} (a b : List (LKey × Tn m)) : (cents (a ++ b)).length = (cents a).length + (cents b).length := by
  unfold cents
  rw [List.flatMap_append, List.length_append]
theorem cents_map {m : Nat} (l : List (Tn m)) : cents (l.map fun p => (fstT m p, p)) = l.flatMap (ents m) := by
  unfold cents
  rw [List.flatMap_map]
theorem cents_cut {m : Nat} (l : List (LKey × Tn m)) : List.flatMap (α := Tn (m + 1)) (ents (m + 1)) (cutL l) = cents l := by
  show List.flatMap (fun t : List (LKey × Tn m) => List.flatMap (fun c : LKey × Tn m => ents m c.2) t) _ = _
  unfold cents
  rw [← List.flatMap_assoc, List.flatMap_id', cut_flat]
theorem scRepl : FnScope ["self", "name", "changes", "made", "page", "entries", "key", "value", "keys", "kept", "children", "index", "first", "child", "own", "piece", "change"] ["self", "name", "changes", "made"] (defScope sRepl) := ⟨rfl, rfl, rfl, by decide +kernel, rfl, by decide +kernel, by decide +kernel⟩
end G

/-! _replaced, the walk. -/
namespace G
open PySem PySem.Spec PyProof.Rows L2
section
variable {P : Program} {w : World} {K : PySem.W.Frag} {mg : Str → Option Value} {base : Heap} {CR CT : Addr}
theorem ok_repl_step {PL : List LKey} (hP : PLok PL) {n : Nat} {f fp fl fo fpl fc : Addr} {fd fdp fdl fdo fdpl fdc : FuncData} (F : Fun K "_replaced" "Tree._replaced" sRepl f fd) (T : TTx K CT) (B : Bn mg)
    (Up : UseM P w K mg base 1 CT "_page" fp fdp ["self", "name"] (spPage CT)) (Ly : UseM P w K mg base 2 CT "_lay" fl fdl ["self", "page", "made"] (spLay2 CR CT))
    (O : Use P w K mg base 1 "order" fo fdo ["key"] spOrd) (L : Use P w K mg base 2 "place_of" fpl fdpl ["children", "key"] spPlace) (C : Use P w K mg base 1 "cut" fc fdc ["parts"] spCut)
    (Rc : UseM P w K mg base (n + 3) CT "_replaced" f fd ["self", "name", "changes", "made"] (spPrev CR CT K PL n)) : Fg P w K mg base CX0 (n + 4) f fd ["self", "name", "changes", "made"] (spRepl CR CT K PL n) := by
  refine okG F scRepl (fun vs H Q E h => ?_) (fun cdv A outer s H vs Q E hr h => ?_)
  · obtain ⟨t, rg, pd, vd, d, md, x, kvs, ts, mk, ca, b, cxs, ch, U, rfl, _⟩ := h
    rfl
  · obtain ⟨t, rg, pd, vd, d, md, x, kvs, ts, mk, ca, b, cxs, ch, U, rfl, rs, has, g, ok, es, hca, hch, cho, hc1000, hz, q⟩ := h
    have nd := scRepl.nd
    have hr3 : GR 3 (A.deeper (envOfC "Tree._replaced" (defScope sRepl) s.heap.objs.size f cdv)) := hr.mono (by omega)
    refine ⟨_, pss_cons (ps_set (i := 4) nd rfl (.inr rfl) (pm T.cl Up hr3 (by decide) (pv 0) (pa_cons (pv 1) pa_nil)))
      (pss_cons (ps_if (pt_cmpR op_eq (pe_ix ix_tup (pv 4) pe_int (fun _ _ => rfl)) pe_str (nomark _))
        (pss_cons (ps_set (i := 5) nd rfl (.inr rfl) (pe_callTy (r := rDictTP K) (call_dictTP rfl hr3.hu8) (by rfl) B.dict boot_dict (pa_cons (pe_ix ix_tup (pv 4) pe_int (fun _ _ => rfl)) pa_nil)))
        (pss_cons (ps_for PassesOwn.never rfl (pi_sq (pv 2)) (pg_tup rfl (pgs_cons (pg_name (i := 6) nd rfl (.inl rfl)) (pgs_cons (pg_name (i := 7) nd rfl (.inl rfl)) pgs_nil)))
          (pss_one (ps_dput hr3.hu (pv 5) (pv 6) (pv 7) rfl)))
        (pss_cons (ps_setLc (i := 8) (own := [("key", 6)]) (g := gName 6) rfl nd rfl rfl (sw_true rfl rfl rfl (by decide +kernel)) (pi_list (pe_callBK (r := rSortK fo) (cr_sortK O.g hr3 O.b rfl) (by rfl) B.sorted boot_sorted (pa_cons (pv 5) pa_nil) (pk_cons (pe_glob (v := .ref fo) (by rfl) O.mgf rfl) pk_nil)))
            (blkOk_by (N := ["self", "name", "changes", "made", "page", "entries", "key", "value", "keys", "kept", "children", "index", "first", "child", "own", "piece", "change"]) (sc := defScope sRepl) (by decide +kernel)) (fun _ _ _ _ _ => pg_name (i := 6) nd rfl (Or.inl rfl)) (fun _ _ _ _ _ => pts_one (pt_cmpR op_notN (pe_dget hr3.hu (pv 5) (pv 6) (fun _ _ => rfl)) pe_non (nomark _))) (fun _ _ _ _ _ => pv 6))
        (pss_cons (ps_setLc (i := 9) (own := [("key", 6)]) (g := gName 6) (tt := tYes) rfl nd rfl rfl (sw_true rfl rfl rfl (by decide +kernel)) (pi_list (pv 8))
            (blkOk_by (N := ["self", "name", "changes", "made", "page", "entries", "key", "value", "keys", "kept", "children", "index", "first", "child", "own", "piece", "change"]) (sc := defScope sRepl) (by decide +kernel)) (fun _ _ _ _ _ => pg_name (i := 6) nd rfl (Or.inl rfl)) (fun _ _ _ _ _ => pts_nil) (fun _ _ _ _ _ => pe_tup (pa_cons (pv 6) (pa_cons (pe_dget hr3.hu (pv 5) (pv 6) (fun _ _ => rfl)) pa_nil))))
        (pss_one (ps_ret (pe_lc (own := [("piece", 15)]) (g := gName 15) (tt := tYes) rfl nd (pi_list (pu C hr3 (by decide) (by rfl) (pa_cons (pv 9) pa_nil)))
            (blkOk_by (N := ["self", "name", "changes", "made", "page", "entries", "key", "value", "keys", "kept", "children", "index", "first", "child", "own", "piece", "change"]) (sc := defScope sRepl) (by decide +kernel)) (fun _ _ _ _ _ => pg_name (i := 15) nd rfl (Or.inl rfl)) (fun _ _ _ _ _ => pts_nil) (fun _ _ _ _ _ => pm T.cl Ly hr3 (by decide) (pv 0) (pa_cons (pe_tup (pa_cons pe_str (pa_cons (pv 15) pa_nil))) (pa_cons (pv 3) pa_nil))))))))))
        pss_nil)
      (pss_cons (ps_set (i := 10) nd rfl (.inl rfl) (pe_lst pa_nil))
      (pss_cons (ps_for PassesOwn.never rfl (pi_enumT (by rfl) B.enumerate (pa_cons (pe_ix ix_tup (pv 4) pe_int (fun _ _ => rfl)) pa_nil)) (pg_tup rfl (pgs_cons (pg_name (i := 11) nd rfl (.inr rfl)) (pgs_cons (pg_tup rfl (pgs_cons (pg_name (i := 12) nd rfl (.inl rfl)) (pgs_cons (pg_name (i := 13) nd rfl (.inl rfl)) pgs_nil))) pgs_nil)))
        (pss_cons (ps_setLc (i := 14) (own := [("change", 16)]) (g := gName 16) rfl nd rfl rfl (sw_true rfl rfl rfl (by decide +kernel)) (pi_sq (pv 2))
            (blkOk_by (N := ["self", "name", "changes", "made", "page", "entries", "key", "value", "keys", "kept", "children", "index", "first", "child", "own", "piece", "change"]) (sc := defScope sRepl) (by decide +kernel)) (fun _ _ _ _ _ => pg_name (i := 16) nd rfl (Or.inl rfl)) (fun _ _ _ _ _ => pts_one (pt_cmpR op_eq (pu L hr3 (by decide) (by rfl) (pa_cons (pe_ix (r := rIxT K) ix_tup (pv 4) pe_int (fun _ _ => rfl)) (pa_cons (pe_ix (r := rIxT K) ix_tup (pv 16) pe_int (fun _ _ => rfl)) pa_nil))) (pv 11) (nomark _))) (fun _ _ _ _ _ => pv 16))
        (pss_one (ps_if (pt_truth (pv 14) (by intro _; rfl))
          (pss_one (ps_expr (pe_bm PySem.F.plainAttrs_list PySem.F.slot_list_extend PySem.F.type_list_extend mt_extend (pv 10) (pa_cons (pm T.cl Rc hr (Nat.le_refl _) (pv 0) (pa_cons (pv 13) (pa_cons (pv 14) (pa_cons (pv 3) pa_nil)))) pa_nil))))
          (pss_one (ps_expr (pe_bm PySem.F.plainAttrs_list PySem.F.slot_list_append PySem.F.type_list_append mt_append (pv 10) (pa_cons (pe_tup (pa_cons (pv 12) (pa_cons (pv 13) pa_nil))) pa_nil))))))))
      (pss_one (ps_ret (pe_lc (own := [("piece", 15)]) (g := gName 15) (tt := tYes) rfl nd (pi_list (pu C hr3 (by decide) (by rfl) (pa_cons (pv 10) pa_nil)))
            (blkOk_by (N := ["self", "name", "changes", "made", "page", "entries", "key", "value", "keys", "kept", "children", "index", "first", "child", "own", "piece", "change"]) (sc := defScope sRepl) (by decide +kernel)) (fun _ _ _ _ _ => pg_name (i := 15) nd rfl (Or.inl rfl)) (fun _ _ _ _ _ => pts_nil) (fun _ _ _ _ _ => pm T.cl Ly hr3 (by decide) (pv 0) (pa_cons (pe_tup (pa_cons pe_str (pa_cons (pv 15) pa_nil))) (pa_cons (pv 3) pa_nil))))))))), ?_⟩
    have hz1 : ts.length ≤ 1000000 := Nat.le_trans (Nat.le_add_right _ _) hz
    have hkl : kvs.length ≤ 1000000 := Nat.le_trans rs.po.len hz1
    obtain ⟨dx, ht⟩ := rs.tr.ins
    obtain ⟨v, ev, pg⟩ := rs.po.get has (okPg_at hz1 g es has)
    refine ⟨_, rfl, t, dx, _, rfl, ht, flT_no _ _ _ _ (by decide +kernel) (by decide +kernel) (by decide +kernel) (by decide +kernel), _, rfl, t, rg, pd, vd, _, kvs, _, v, rfl, rs.tr, hkl, ev, fun H1 f1 tr1 => ?_⟩
    have rs1 := rs.page f1 tr1
    have fr1 : Fq (S3 d md vd) H H1 := f1.mono fun b z => .inr (.inr z)
    have pg1 := pg.keep f1.tk
    by_cases n0 : n = 0
    · subst n0
      obtain ⟨es0, e0⟩ : ∃ es0 : List Ent, es0 = U := ⟨U, rfl⟩
      subst e0
      obtain ⟨a, qa, xs, rfl, h2, h3, h4⟩ := pg1
      refine ⟨_, rfl, a, _, _, _, rfl, rfl, h2.sq, atI_nat (j := 0) rfl, rfl, _, rfl, ?_⟩
      refine ite2 (fun _ => ?_) (fun hc => absurd (decide_eq_true rfl) hc)
      have sd : Sd es0 := ok.1
      obtain ⟨kv0, hk1, hk2, hk3⟩ := ents_kv h4
      have nd0 : (kv0.map (·.1)).Nodup := by
        rw [hk2]
        unfold List.Nodup
        rw [List.pairwise_map]
        exact List.Pairwise.imp (fun h => klt_ne h) sd
      have in0 : ∀ kv ∈ kv0, kv.1 ∈ PL := fun kv m => by
        have : kv.1 ∈ es0.map (·.1) := by rw [← hk2]; exact List.mem_map.mpr ⟨kv, m, rfl⟩
        obtain ⟨e, me, ee⟩ := List.mem_map.mp this
        rw [← ee]
        exact (ok.2 e me).1
      have len_of : ∀ {kvi : List (LKey × V)}, (kvi.map (·.1)).Nodup → (∀ kv ∈ kvi, kv.1 ∈ PL) → kvi.length ≤ 100 := fun {kvi} h1 h2 => by
        have := nodup_len (m := PL) h1 fun k m => by
          obtain ⟨kv, mk, rfl⟩ := List.mem_map.mp m
          exact h2 kv mk
        rw [List.length_map] at this
        exact Nat.le_trans this hP.len
      have okv : ∀ k, okVal (updsF (look es0) ch k) := upds_ok (p := okVal) (look_ok okVal_none fun e m => (es e m).2) fun c m => (cho c m).2
      -- entries = dict(page[1])
      refine ⟨_, rfl, a, _, _, _, rfl, rfl, h2.sq, atI_nat (j := 1) rfl, qa, xs, kv0, rfl, .inl h3, hk1, nd0, fun dd hdd => ?_⟩
      have g1 : Fq D0 H1 (upd H1 dd (.dT kv0)) := Fq.new hdd
      -- for key, value in changes
      refine ⟨_, rfl, ca, b, cxs, rfl, g1.seqB (fr1.seqB hca), fun J wJ => for_it wJ (fun i σ H2 => ∃ kvi v6 v7, σ = [some (.ref t), some (.int (nm ts 0 es0 : Nat)), some (.ref ca), some (.ref md), some (.ref a), some (.ref dd), v6, v7, none, none, none, none, none, none, none, none, none] ∧ Fq D0 H1 H2 ∧ H2 dd = some (.dT kvi) ∧ DF H2 kvi (updsF (look es0) (ch.take i)) ∧ (kvi.map (·.1)).Nodup ∧ ∀ kv ∈ kvi, kv.1 ∈ PL)
        ⟨kv0, none, none, rfl, g1, upd_same, by rw [List.take_zero]; exact hk3.keep g1.tk, nd0, in0⟩ (fun i σ H2 _ ⟨_, _, _, _, f, _⟩ => f.seqB (fr1.seqB hca)) ?_ ?_⟩
      · rintro i x σ H2 H3 hi ⟨kvi, v6, v7, rfl, f2, hd2, df, ndi, ini⟩ ⟨rfl, hx⟩
        obtain ⟨en, een, e, q0, w0, rfl, t2, ⟨bk, rfl, hb⟩, tdv⟩ := paired_get hch hx
        have tkH : Tk H H3 := (fr1.trans (f2.mono fun _ z => z.elim)).tk
        have hl := len_of ndi ini
        refine ⟨e, _, rfl, (t2.keep tkH).sq, rfl, _, _, rfl, _, _, rfl, rfl, _, rfl, _, rfl, _, rfl, dd, _, rfl, DPut.t hd2 (tkH bk _ hb trivial) (small1000' (by omega)), ?_⟩
        have t5 : Tk H3 (upd H3 dd (.dT (putK kvi en.1 w0))) := (Fr.put (S := S1 dd) hd2 (fun z => z) rfl).tup
        have et : ch.take (i + 1) = ch.take i ++ [en] := by rw [List.take_add_one, een]; rfl
        refine ⟨_, some (.ref bk), some w0, rfl, f2.own hdd, upd_same, ?_, nd_put ndi, fun kv m => (putK_mem m).elim (fun e => ?_) (ini kv)⟩
        · refine ((df.put (Td.keep tkH _ _ tdv)).keep t5).congr fun k => ?_
          rw [et, upds_snoc]
        · rw [e]
          exact (cho en (List.mem_of_getElem? een)).1
      rintro σ H2 ⟨kvi, v6, v7, rfl, f2, hd2, df, ndi, ini⟩
      have ecl : cxs.length = ch.length := paired_len hch
      rw [ecl, List.take_length] at df
      have hl := len_of ndi ini
      generalize hFF : updsF (look es0) ch = FF at df okv
      -- keys = [key for key in sorted(entries, key=order) if entries[key] is not None]
      refine ⟨_, rfl, dd, kvi, rfl, rfl, hd2, fun p m => ?_, fun H3 sp sxs f3 hsp hs3 hks => ?_⟩
      · have := hP.key p.1 (ini p m)
        exact ⟨this.ok, this.ne, this.len⟩
      have gf3 : Fq D0 H1 H3 := f2.trans (Fq.of f3)
      have hd3 : H3 dd = some (.dT kvi) := (Fq.of (D := D0) f3).toDT hd2
      have df3 := df.keep f3.tup
      have srt : ∀ k ∈ (kvi.map (·.1)).mergeSort kle, ∃ v, valV kvi k = some v := fun k m => by
        rw [(List.mergeSort_perm _ _).mem_iff] at m
        cases e : valV kvi k with
        | some v => exact ⟨v, rfl⟩
        | none => exact absurd m (valV_not e)
      have esrt : ((kvi.map (·.1)).mergeSort kle).filter (fun k => !isN (FF k)) = PL.filter (fun k => !isN (FF k)) := sort_filter hP.sk ndi (fun k m => by obtain ⟨kv, mk, rfl⟩ := List.mem_map.mp m; exact ini kv mk) fun k hk => by
        cases e : valV kvi k with
        | some v => exact valV_in e
        | none =>
          rw [df.no k e] at hk
          cases hk
      refine ⟨sp, rfl, ⟨_, .inl (.inl hs3)⟩, fun D hD => lc_list (K := K) (a := sp) (xs := sxs) (fun i H' => ∃ acc, Fq D0 H3 H' ∧ H' D = some (.lst acc) ∧ acc.length ≤ i ∧ Paired (KeyAt H') acc ((((kvi.map (·.1)).mergeSort kle).take i).filter fun k => !isN (FF k))) ⟨[], Fq.new hD, upd_same, Nat.le_refl _, by rw [List.take_zero]; exact .nil⟩ (fun i H' _ ⟨_, f, _⟩ => .inl (.inl (f.toL hs3))) ?_ ?_⟩
      · rintro i x H4 hx ⟨acc, f4, hacc, hal, hp⟩
        obtain ⟨k, ek, bk, rfl, hb⟩ := paired_get hks hx
        have mk' := List.mem_of_getElem? ek
        obtain ⟨v, ev2⟩ := srt k mk'
        have hb4 : H4 bk = some (.tup (k.map kV)) := f4.toT hb
        have hil : i < ((kvi.map (·.1)).mergeSort kle).length := (List.getElem?_eq_some_iff.mp ek).1
        have hsl : ((kvi.map (·.1)).mergeSort kle).length = kvi.length := by rw [(List.mergeSort_perm _ _).length_eq, List.length_map]
        have etk : (((kvi.map (·.1)).mergeSort kle).take (i + 1)).filter (fun k => !isN (FF k)) = (((kvi.map (·.1)).mergeSort kle).take i).filter (fun k => !isN (FF k)) ++ (if (!isN (FF k)) = true then [k] else []) := by
          rw [List.take_add_one, ek, List.filter_append]
          congr 1
          show List.filter _ [k] = _
          rw [List.filter_cons, List.filter_nil]
        have dg : DGet H4 dd (.ref bk) (some v) := by
          have := DGet.t (k := k) (f4.toDT hd3) hb4
          rw [ev2] at this
          exact this
        refine ⟨rfl, _, rfl, _, rfl, dd, v, rfl, dg, rfl, _, rfl, ?_⟩
        rw [td_non (df3.yes k v ev2)]
        refine ite2 (fun hc => ?_) (fun hc => ?_)
        · have t6 : Tk H4 (upd H4 D (.lst (acc ++ [.ref bk]))) := (Fr.put (S := S1 D) hacc (fun z => z) rfl).tup
          refine ⟨_, rfl, acc, hacc, small1000' (by omega), acc ++ [.ref bk], f4.own hD, upd_same, by rw [List.length_append]; exact Nat.succ_le_succ hal, ?_⟩
          rw [etk, if_pos hc]
          exact paired_snoc ⟨bk, rfl, t6 bk _ hb4 trivial⟩ (Paired.mapP hp fun _ _ => KeyAt.keep t6)
        · refine ⟨acc, f4, hacc, Nat.le_succ_of_le hal, ?_⟩
          rw [etk, if_neg hc, List.append_nil]
          exact hp
      rintro H4 ⟨acc, f4, hacc, hal, hp⟩
      have hsl : ((kvi.map (·.1)).mergeSort kle).length = kvi.length := by rw [(List.mergeSort_perm _ _).length_eq, List.length_map]
      have esl : sxs.length = ((kvi.map (·.1)).mergeSort kle).length := paired_len hks
      rw [esl, List.take_length, esrt] at hp
      rw [esl, hsl] at hal
      have gf4 : Fq D0 H1 H4 := gf3.trans f4
      have hd4 : H4 dd = some (.dT kvi) := f4.toDT hd3
      have df4 := df3.keep f4.tk
      -- kept = [(key, entries[key]) for key in keys]
      refine ⟨_, rfl, D, rfl, ⟨_, .inl (.inl hacc)⟩, fun D2 hD2 => lc_list (K := K) (a := D) (xs := acc) (fun i H' => ∃ acc2, Fq D0 H4 H' ∧ H' D2 = some (.lst acc2) ∧ acc2.length = i ∧ Paired (EntAt H') acc2 (((PL.filter fun k => !isN (FF k)).take i).map fun k => (k, FF k))) ⟨[], Fq.new hD2, upd_same, rfl, by rw [List.take_zero]; exact .nil⟩ (fun i H' _ ⟨_, f, _⟩ => .inl (.inl (f.toL hacc))) ?_ ?_⟩
      · rintro i x H5 hx ⟨acc2, f5, hacc2, hal2, hp2⟩
        obtain ⟨k, ek, bk, rfl, hb⟩ := paired_get hp hx
        have mk' := List.mem_filter.mp (List.mem_of_getElem? ek)
        obtain ⟨v, ev2⟩ : ∃ v, valV kvi k = some v := by
          cases e : valV kvi k with
          | some v => exact ⟨v, rfl⟩
          | none =>
            have := mk'.2
            rw [df.no k e] at this
            cases this
        have hb5 : H5 bk = some (.tup (k.map kV)) := f5.toT hb
        have hil : i < acc.length := (List.getElem?_eq_some_iff.mp hx).1
        have dg : DGet H5 dd (.ref bk) (some v) := by
          have := DGet.t (k := k) (f5.toDT hd4) hb5
          rw [ev2] at this
          exact this
        refine ⟨rfl, _, rfl, _, rfl, _, rfl, dd, v, rfl, dg, by show 2 ≤ sizeLine; decide, fun p hp0 => ?_⟩
        have f6 : Fq D0 H5 (upd H5 p (.tup [.ref bk, v])) := Fq.new hp0
        have hacc6 := f6.toL hacc2
        have t6 : Tk (upd H5 p (.tup [.ref bk, v])) (upd (upd H5 p (.tup [.ref bk, v])) D2 (.lst (acc2 ++ [.ref p]))) := (Fr.put (S := S1 D2) hacc6 (fun z => z) rfl).tup
        refine ⟨acc2, hacc6, small1000' (by omega), acc2 ++ [.ref p], (f5.trans f6).own hD2, upd_same, by rw [List.length_append, hal2]; rfl, ?_⟩
        have et : (PL.filter fun k => !isN (FF k)).take (i + 1) = (PL.filter fun k => !isN (FF k)).take i ++ [k] := by rw [List.take_add_one, ek]; rfl
        rw [et, List.map_append]
        refine paired_snoc ⟨p, .ref bk, v, rfl, .of (t6 p _ upd_same trivial), ⟨bk, rfl, t6 bk _ (f6.toT hb5) trivial⟩, Td.keep (f5.tk.trans (f6.tk.trans t6)) _ _ (df4.yes k v ev2)⟩ (Paired.mapP hp2 fun _ _ => EntAt.keep (f6.tk.trans t6))
      rintro H5 ⟨acc2, f5, hacc2, hal2, hp2⟩
      have eal : acc.length = (PL.filter fun k => !isN (FF k)).length := paired_len hp
      rw [eal, List.take_length] at hp2
      have gf5 : Fq D0 H1 H5 := gf4.trans f5
      -- return [..]
      refine ⟨_, rfl, D2, acc2, rfl, hacc2, by omega, fun H6 cp cys f6 hcp hc6 hcy => ?_⟩
      have gf6 : Fq D0 H1 H6 := gf5.trans f6
      have fr6 : Fq (S3 d md vd) H H6 := fr1.trans (gf6.mono fun _ z => z.elim)
      have rs6 := rs1.keep gf6
      have hp6 : Paired (EntAt H6) acc2 (ofF PL FF) := Paired.mapP hp2 fun _ _ => EntAt.keep f6.tk
      have pl : (cutL (ofF PL FF)).length ≤ (ofF PL FF).length := by rw [cut_len]; exact cutN_le _
      have ol := ofF_len PL FF
      have hP100 := hP.len
      obtain ⟨sp1, sp2⟩ := repl_spec hP.sk 0 es0 ch (.inl rfl) ok
      have er : repl PL 0 es0 ch = cutL (ofF PL FF) := by rw [← hFF]; rfl
      have hz := hz
      have es2 : (repl PL 0 es0 ch).flatMap (ents 0) = ofF PL FF := by rw [sp2, ← hFF]; rfl
      rw [es2] at hz
      have pz1 : ts.length + List.length (α := Tn 0) (cutL (ofF PL FF)) ≤ 1000000 := by
        show ts.length + List.length (α := List Ent) (cutL (ofF PL FF)) ≤ 1000000
        omega
      have pz2 : List.length (α := Tn 0) (cutL (ofF PL FF)) ≤ 1000 := by
        show List.length (α := List Ent) (cutL (ofF PL FF)) ≤ 1000
        omega
      refine ⟨cp, rfl, ⟨_, .inl (.inl hc6)⟩, fun D3 hD3 => lay_lc (K := K) (CR := CR) (CT := CT) (l := 0) (ps := 15) (ms := 3) (yss := cutL acc2) (pcs := cutL (ofF PL FF)) (ts := ts) (mk := mk) rfl rfl (by decide) (by decide) (by show 15 < 17; decide) hc6 hcy (fun H' ts' k _ => cut_paired (Paired.mapP hp6 fun _ _ => EntAt.keep k)) hD3
        (let ⟨dx, e⟩ := rs6.tr.ins; ⟨dx, _, pd, vd, e⟩) rs6.rgi rs6.rm rs6.ne.1 pz1 pz2 (fun U m => cut_mem m) (fun U m e me => ?_) (fun U m => trivial) fun H7 acc3 ts' mk' f7 hD7 rm7 gr7 hl7 la7 hh7 => ?_⟩
      · have := ofF_mem.mp (show (e.1, e.2) ∈ ofF PL FF from cut_sub m me)
        exact ⟨hP.key e.1 this.1, by rw [← this.2.1]; exact okv e.1⟩
      · refine q H7 D3 acc3 ts' mk' (fr6.trans (f7.mono fun b z => z.elim (fun z => .inl z) fun z => .inr (.inl z))) (rs6.laid f7 rm7 gr7) gr7 ?_ (rs6.old (fun _ z => z) fr6 hD3) hD7 ?_ ?_
        · rw [es2]
          have hl7' : ts'.length ≤ ts.length + List.length (α := List Ent) (cutL (ofF PL FF)) := hl7
          omega
        · rw [er]
          exact la7
        · rw [er]
          exact hh7
    · obtain ⟨m, rfl⟩ := Nat.exists_eq_succ_of_ne_zero n0
      obtain ⟨cs, e0⟩ : ∃ cs : List (LKey × Tn m), cs = U := ⟨U, rfl⟩
      subst e0
      obtain ⟨a, qa, xs, rfl, h2, h3, h4⟩ := pg1
      refine ⟨_, rfl, a, _, _, _, rfl, rfl, h2.sq, atI_nat (j := 0) rfl, rfl, _, rfl, ?_⟩
      refine ite2 (fun hc => absurd (of_decide_eq_true hc) not_leaf) (fun _ => ?_)
      have gw : good (m + 1) cs := g.resolve_right fun z => Nat.succ_ne_zero m z.1
      obtain ⟨g1, g2, g3⟩ := id gw
      have gc : goodC cs := g3
      have sd : Sd (cents cs) := ok.1
      have es' : okEs (cents cs) := es
      have hpk : Paired (PairK H1) xs (fsT cs) := kidAt_keys h4
      have exl : xs.length = cs.length := by rw [paired_len hpk]; exact List.length_map ..
      obtain ⟨sp1, sp2⟩ := repl_spec hP.sk (m + 1) cs ch (.inr gw) ok
      have er : repl PL (m + 1) cs ch = cutL (kids (repl PL m) cs ch cs.length) := rfl
      have ek : (repl PL (m + 1) cs ch).flatMap (ents (m + 1)) = cents (kids (repl PL m) cs ch cs.length) := by rw [er]; exact cents_cut _
      rw [ek] at hz q sp2
      have gk : goodC (kids (repl PL m) cs ch cs.length) := fun c mc => by
        have mc2 : c ∈ (cutL (kids (repl PL m) cs ch cs.length)).flatten := by rw [cut_flat]; exact mc
        obtain ⟨p, mp, mcp⟩ := List.mem_flatten.mp mc2
        exact (sp1 p mp).2.2 c mcp
      have hcl : ∀ i ≤ cs.length, (cents (kids (repl PL m) cs ch i)).length ≤ (cents (kids (repl PL m) cs ch cs.length)).length := fun i h => cents_pre (kids_pre _ _ _ h)
      have htot : (cents (kids (repl PL m) cs ch cs.length)).length ≤ 100 := by
        rw [sp2]
        exact Nat.le_trans (ofF_len _ _) hP.len
      have klen : ∀ i ≤ cs.length, (kids (repl PL m) cs ch i).length ≤ 100 := fun i h => by
        have p1 := (kids_pre (repl PL m) cs ch h).length_le
        have : (kids (repl PL m) cs ch cs.length).length ≤ (cents (kids (repl PL m) cs ch cs.length)).length := by
          have := good_len (ts := (kids (repl PL m) cs ch cs.length).map (·.2)) fun t mt => by
            obtain ⟨c, mc, rfl⟩ := List.mem_map.mp mt
            exact (gk c mc).1
          rw [List.length_map, List.flatMap_map] at this
          exact this
        omega
      -- children = []
      refine ⟨Nat.zero_le _, fun cp hcp => ?_⟩
      have fw : Fq D0 H1 (upd H1 cp (.lst [])) := Fq.new hcp
      refine ⟨_, rfl, a, _, _, _, rfl, rfl, (h2.keep fw.tk).sq, atI_nat (j := 1) rfl, qa, xs, rfl, (h3.keep fw.tk).tup.sq,
        for_it walkEnumT (fun i σ H2 => ∃ xs2 ts2 mk2 v11 v12 v13 v14, σ = [some (.ref t), some (.int (nm ts (m + 1) cs : Nat)), some (.ref ca), some (.ref md), some (.ref a), none, none, none, none, none, some (.ref cp), v11, v12, v13, v14, none, none] ∧ Fq (S3 d md vd) H1 H2 ∧ RS CR CT H2 t rg pd vd d md x kvs ts2 mk2 ∧ Gro ts mk ts2 mk2 ∧
            ts2.length ≤ ts.length + (m + 1) * (cents (kids (repl PL m) cs ch i)).length ∧ H2 cp = some (.lst xs2) ∧ Paired (KA H2 ts2 m) xs2 (kids (repl PL m) cs ch i) ∧ ∀ c ∈ kids (repl PL m) cs ch i, Has ts2 (In mk2) m c.2)
          ⟨[], ts, mk, none, none, none, none, rfl, fw.mono fun _ z => z.elim, rs1.keep fw, Gro.refl _ _, Nat.le_add_right _ _, upd_same, .nil, fun c mc => by cases mc⟩ (fun i σ H2 _ ⟨_, _, _, _, _, _, _, _, f, _⟩ => (h3.keep f.tk).tup.sq) ?_ ?_⟩
      · rintro i x' σ H2 H3 hi ⟨xs2, ts2, mk2, v11, v12, v13, v14, rfl, f2, rs2, gr2, hl2, hcp2, hp2, hh2⟩ ⟨T', x0, y, rfl, hT, rfl, e1, e2⟩
        cases e1
        obtain ⟨c, hc⟩ : ∃ c, cs[i]? = some c := ⟨_, List.getElem?_eq_getElem (by rw [← exl]; exact hi)⟩
        have hic : i < cs.length := (List.getElem?_eq_some_iff.mp hc).1
        obtain ⟨e, q0, ex, h5, h6⟩ := kidAt_get h4 hc
        have e2 : xs[i]? = some y := e2
        rw [ex] at e2
        cases e2
        have mc := List.mem_of_getElem? hc
        have f3 : Fq D0 H2 (upd H2 T' (.tup [.int (i : Nat), .ref e])) := Fq.new hT
        have f13 : Fq (S3 d md vd) H1 (upd H2 T' (.tup [.int (i : Nat), .ref e])) := f2.snoc hT
        have f03 : Fq (S3 d md vd) H (upd H2 T' (.tup [.int (i : Nat), .ref e])) := fr1.trans f13
        have rs3 := rs2.keep f3
        have hcp3 := f3.toL hcp2
        refine ⟨T', _, rfl, .inl (.inl upd_same), rfl, _, _, rfl, _, _, rfl, e, _, rfl, (h5.keep f13.tk).sq, rfl, _, _, rfl, _, _, rfl, rfl, rfl, ?_⟩
        generalize hH3 : upd H2 T' (.tup [.int (i : Nat), .ref e]) = H3 at f3 f13 f03 rs3 hcp3
        -- own = [..]
        refine ⟨_, rfl, ca, b, cxs, rfl, f03.seqB hca, fun J wJ D hD => lc_it wJ (fun j H' => ∃ acc, Fq D0 H3 H' ∧ H' D = some (.lst acc) ∧ acc.length ≤ j ∧ Paired (EntAt H') acc ((ch.take j).filter fun c' => pl (fsT cs) c'.1 == i))
          ⟨[], Fq.new hD, upd_same, Nat.le_refl _, by rw [List.take_zero]; exact .nil⟩ (fun j H' _ ⟨_, f, _⟩ => f.seqB (f03.seqB hca)) ?_ ?_⟩
        · rintro j x4 H4 H5 hj ⟨acc, f4, hacc, hal, hp⟩ ⟨rfl, hx⟩
          obtain ⟨en, een, e', q1, w1, rfl, t2, t3, t4⟩ := paired_get hch hx
          have tk5 : Tk H H5 := (f03.trans (f4.mono fun _ z => z.elim)).tk
          have tk15 : Tk H1 H5 := (f13.trans (f4.mono fun _ z => z.elim)).tk
          have oken := hP.key en.1 (cho en (List.mem_of_getElem? een)).1
          have etk : (ch.take (j + 1)).filter (fun c' => pl (fsT cs) c'.1 == i) = (ch.take j).filter (fun c' => pl (fsT cs) c'.1 == i) ++ (if (pl (fsT cs) en.1 == i) = true then [en] else []) := by
            rw [List.take_add_one, een, List.filter_append]
            congr 1
            show List.filter _ [en] = _
            rw [List.filter_cons, List.filter_nil]
          refine ⟨rfl, _, rfl, a, _, _, _, rfl, rfl, (h2.keep tk15).sq, atI_nat (j := 1) rfl, _, rfl, e', _, _, q1, rfl, rfl, (t2.keep tk5).sq, atI_nat (j := 0) rfl, qa, q1, xs, _, en.1, rfl, h3.tup.keep tk15, Paired.mapP hpk fun _ _ => PairK.keep tk15, t3.keep tk5, fsT_sorted gc sd, oken, fs_ok gc es', fun H6 f6 => ?_⟩
          have f46 : Fq D0 H3 H6 := f4.trans f6
          have hacc6 := f6.toL hacc
          have hp6 : Paired (EntAt H6) acc ((ch.take j).filter fun c' => pl (fsT cs) c'.1 == i) := Paired.mapP hp fun _ _ => EntAt.keep f6.tk
          refine ⟨_, rfl, rfl, _, rfl, ?_⟩
          refine ite2 (fun hcc => ?_) (fun hcc => ?_)
          · have hcc : (pl (fsT cs) en.1 == i) = true := by
              have := of_decide_eq_true hcc
              injection this with this
              simp
              omega
            have t7 : Tk H6 (upd H6 D (.lst (acc ++ [.ref e']))) := (Fr.put (S := S1 D) hacc6 (fun z => z) rfl).tup
            have tk7 := fun b o h u => t7 b o (f6.tk b o (tk5 b o h u) u) u
            refine ⟨_, rfl, acc, hacc6, Nat.lt_of_le_of_lt hal (Nat.lt_of_lt_of_le hj ?_), acc ++ [.ref e'], f46.own hD, upd_same, by rw [List.length_append]; exact Nat.succ_le_succ hal, ?_⟩
            · rw [paired_len hch]
              exact Nat.le_trans hc1000 (by decide)
            rw [etk, if_pos hcc]
            exact paired_snoc ⟨e', q1, w1, rfl, t2.keep tk7, t3.keep tk7, Td.keep tk7 _ _ t4⟩ (Paired.mapP hp6 fun _ _ => EntAt.keep t7)
          · have hcc : ¬ (pl (fsT cs) en.1 == i) = true := fun z => hcc (decide_eq_true (by
              have : pl (fsT cs) en.1 = i := by simpa using z
              rw [this]))
            refine ⟨acc, f46, hacc6, Nat.le_succ_of_le hal, ?_⟩
            rw [etk, if_neg hcc, List.append_nil]
            exact hp6
        rintro H4 ⟨acc, f4, hacc, hal, hp⟩
        have ecl : cxs.length = ch.length := paired_len hch
        rw [ecl, List.take_length] at hp
        have hp : Paired (EntAt H4) acc (ownT cs ch i) := hp
        have f14 : Fq (S3 d md vd) H1 H4 := f13.trans (f4.mono fun _ z => z.elim)
        have rs4 := rs3.keep f4
        have hcp4 := f4.toL hcp3
        have f24 : Fq D0 H2 H4 := f3.trans f4
        have hp24 : Paired (KA H4 ts2 m) xs2 (kids (repl PL m) cs ch i) := ka_keep f24.tk (List.prefix_refl _) hp2 hh2
        have hxl2 : xs2.length ≤ 100 := by rw [paired_len hp2]; exact klen i (Nat.le_of_lt hic)
        have hck := hcl (i + 1) hic
        rw [kids_succ, cents_app] at hck
        refine ⟨_, rfl, _, .inl ⟨acc, .inl (.inl hacc), rfl⟩, ?_⟩
        have hem : acc.isEmpty = (ownT cs ch i).isEmpty := by
          have := paired_len hp
          cases acc <;> cases ho : ownT cs ch i <;> rw [ho] at this <;> first | rfl | cases this
        rw [hem]
        obtain ⟨dx4, ht4⟩ := rs4.tr.ins
        cases hown : (ownT cs ch i).isEmpty with
        | false =>
          refine iteT ?_
          have ekid : kid (repl PL m) cs ch i = (repl PL m c.2 (ownT cs ch i)).map fun p => (fstT m p, p) := by
            unfold kid
            rw [hc]
            dsimp only
            rw [hown, if_neg Bool.false_ne_true]
          rw [ekid, cents_map] at hck
          refine ⟨_, rfl, .inl ⟨rfl, _, .inl (.inl hcp4)⟩, _, rfl, t, dx4, _, rfl, ht4, flT_no _ _ _ _ (by decide +kernel) (by decide +kernel) (by decide +kernel) (by decide +kernel), _, rfl, _, rfl, _, rfl, ?_⟩
          have hkc := has.kid mc
          refine ⟨t, rg, pd, vd, d, md, x, kvs, ts2, mk2, D, true, acc, ownT cs ch i, c.2, by rw [hkc.nm gr2.pre]; rfl, rs4, hkc.mono gr2.pre fun _ z => z, .inl (gc c mc).1, ⟨sd_kid sd mc, fun e me => ok.2 e (List.mem_flatMap.mpr ⟨c, mc, me⟩)⟩, okEs_kid es' mc, .inl (.inl hacc), hp, fun c' m' => cho c' (List.mem_filter.mp m').1, Nat.le_trans (List.length_filter_le _ _) hc1000, ?_, ?_⟩
          · have := Nat.mul_le_mul_left (m + 1) hck
            rw [Nat.mul_add] at this
            have e9 : (m + 1 + 1) * (cents (kids (repl PL m) cs ch cs.length)).length = (m + 1) * (cents (kids (repl PL m) cs ch cs.length)).length + (cents (kids (repl PL m) cs ch cs.length)).length := Nat.succ_mul _ _
            have hz' : ts.length + (m + 1 + 1) * (cents (kids (repl PL m) cs ch cs.length)).length ≤ 1000000 := hz
            omega
          · intro H5 p xs3 ts3 mk3 f5 rs5 gr5 hl5 hpn hx5 la5 hh5
            have hcp5 : H5 cp = some (.lst xs2) := f5.toL hcp4
            have ncp : cp ≠ p := ne_of_none hcp4 hpn
            have hl3 : xs3.length ≤ 1000 := by
              rw [paired_len la5]
              have h1 := (repl_spec hP.sk m c.2 (ownT cs ch i) (.inr (gc c mc).1) ⟨sd_kid sd mc, fun e me => ok.2 e (List.mem_flatMap.mpr ⟨c, mc, me⟩)⟩).1
              have h2 := good_len h1
              omega
            have t6 : Tk H5 (upd H5 cp (.lst (xs2 ++ xs3))) := (Fr.put (S := S1 cp) hcp5 (fun z => z) rfl).tup
            refine ⟨cp, p, xs2, xs3, rfl, rfl, hcp5, hx5, ?_, xs2 ++ xs3, ts3, mk3, some (.int (i : Nat)), some q0, some (.int (nm ts m c.2 : Nat)), some (.ref D), rfl, (f14.trans f5).own hcp, rs5.list hcp5, gr2.trans gr5, ?_, upd_same, ?_, ?_⟩
            · have : sizeLine = 16777216 := by decide
              omega
            · rw [kids_succ, cents_app, ekid, cents_map, Nat.mul_add]
              omega
            · rw [kids_succ, ekid]
              exact paired_app (ka_keep (fun b o h u => t6 b o (f5.tk b o h u) u) gr5.pre hp24 hh2) (Paired.mapP (ka_laid la5) fun _ _ h => KidAt.keep t6 h)
            · rw [kids_succ, ekid]
              intro c' m'
              rcases List.mem_append.mp m' with m' | m'
              · exact (hh2 c' m').mono gr5.pre gr5.sub
              · obtain ⟨p', mp, rfl⟩ := List.mem_map.mp m'
                exact hh5 p' mp
        | true =>
          refine iteF ?_
          have ekid : kid (repl PL m) cs ch i = [c] := by
            unfold kid
            rw [hc]
            dsimp only
            rw [hown, if_pos rfl]
          refine ⟨_, rfl, .inl ⟨rfl, _, .inl (.inl hcp4)⟩, _, rfl, _, rfl, by show 2 ≤ sizeLine; decide, fun p hp0 => ?_⟩
          have f5 : Fq D0 H4 (upd H4 p (.tup [q0, .int (nm ts m c.2 : Nat)])) := Fq.new hp0
          have hcp5 := f5.toL hcp4
          have t6 : Tk (upd H4 p (.tup [q0, .int (nm ts m c.2 : Nat)])) (upd (upd H4 p (.tup [q0, .int (nm ts m c.2 : Nat)])) cp (.lst (xs2 ++ [.ref p]))) := (Fr.put (S := S1 cp) hcp5 (fun z => z) rfl).tup
          have hkc := has.kid mc
          refine ⟨cp, xs2, _, rfl, rfl, hcp5, small1000' (by omega), xs2 ++ [.ref p], ts2, mk2, some (.int (i : Nat)), some q0, some (.int (nm ts m c.2 : Nat)), some (.ref D), rfl, (f14.snoc hp0).own hcp, (rs4.keep f5).list hcp5, gr2, ?_, upd_same, ?_, ?_⟩
          · rw [kids_succ, cents_app, ekid, Nat.mul_add]
            omega
          · rw [kids_succ, ekid]
            refine paired_app (ka_keep (fun b o h u => t6 b o (f5.tk b o h u) u) (List.prefix_refl _) hp24 hh2) (.cons ?_ .nil)
            refine ⟨p, q0, rfl, ?_, h6.keep fun b o h u => t6 b o (f5.tk b o (f14.tk b o h u) u) u⟩
            rw [hkc.nm gr2.pre]
            exact .of (t6 p _ upd_same trivial)
          · rw [kids_succ, ekid]
            intro c' m'
            rcases List.mem_append.mp m' with m' | m'
            · exact hh2 c' m'
            · rw [List.mem_singleton.mp m']
              exact hkc.mono gr2.pre fun k hk => gr2.sub k (rs.sub k hk)
      rintro σ H2 ⟨xs2, ts2, mk2, v11, v12, v13, v14, rfl, f2, rs2, gr2, hl2, hcp2, hp2, hh2⟩
      rw [exl] at hl2 hp2 hh2
      have hxl2 : xs2.length ≤ 100 := by rw [paired_len hp2]; exact klen _ (Nat.le_refl _)
      refine ⟨_, rfl, cp, xs2, rfl, hcp2, by omega, fun H3 cq cys f3 hcq hc3 hcy => ?_⟩
      have f13 : Fq (S3 d md vd) H1 H3 := f2.trans (f3.mono fun _ z => z.elim)
      have f03 := fr1.trans f13
      have rs3 := rs2.keep f3
      have hp3 : Paired (KA H3 ts2 m) xs2 (kids (repl PL m) cs ch cs.length) := ka_keep f3.tk (List.prefix_refl _) hp2 hh2
      have pz0 : (cutL (kids (repl PL m) cs ch cs.length)).length ≤ (cents (kids (repl PL m) cs ch cs.length)).length := by
        have := good_len (n := m + 1) (ts := cutL (kids (repl PL m) cs ch cs.length)) sp1
        rw [cents_cut] at this
        exact this
      have hz' : ts.length + (m + 1 + 1) * (cents (kids (repl PL m) cs ch cs.length)).length ≤ 1000000 := hz
      have e9 : (m + 1 + 1) * (cents (kids (repl PL m) cs ch cs.length)).length = (m + 1) * (cents (kids (repl PL m) cs ch cs.length)).length + (cents (kids (repl PL m) cs ch cs.length)).length := Nat.succ_mul _ _
      have pz1 : ts2.length + List.length (α := Tn (m + 1)) (cutL (kids (repl PL m) cs ch cs.length)) ≤ 1000000 := by
        show ts2.length + List.length (α := List (LKey × Tn m)) (cutL (kids (repl PL m) cs ch cs.length)) ≤ 1000000
        omega
      have pz2 : List.length (α := Tn (m + 1)) (cutL (kids (repl PL m) cs ch cs.length)) ≤ 1000 := by
        show List.length (α := List (LKey × Tn m)) (cutL (kids (repl PL m) cs ch cs.length)) ≤ 1000
        omega
      have okv : ∀ k, okVal (updsF (look (ents (m + 1) cs)) ch k) := upds_ok (p := okVal) (look_ok okVal_none fun e m => (es e m).2) fun c m => (cho c m).2
      refine ⟨cq, rfl, ⟨_, .inl (.inl hc3)⟩, fun D3 hD3 => lay_lc (K := K) (CR := CR) (CT := CT) (l := m + 1) (ps := 15) (ms := 3) (yss := cutL xs2) (pcs := cutL (kids (repl PL m) cs ch cs.length)) (ts := ts2) (mk := mk2) rfl rfl (by decide) (by decide) (by show 15 < 17; decide) hc3 hcy (fun H' ts' k p => Paired.mapP (cut_paired (ka_keep k p hp3 hh2)) fun _ _ => ka_its) hD3
        (let ⟨dx, e⟩ := rs3.tr.ins; ⟨dx, _, pd, vd, e⟩) rs3.rgi rs3.rm rs3.ne.1 pz1 pz2 (fun U mU => sp1 U mU) (fun U mU e me => ?_) (fun U mU c' mc' => hh2 c' (cut_sub mU mc')) fun H7 acc3 ts' mk' f7 hD7 rm7 gr7 hl7 la7 hh7 => ?_⟩
      · have : (e.1, e.2) ∈ ofF PL (updsF (look (ents (m + 1) cs)) ch) := by
          rw [← sp2, ← ek]
          exact List.mem_flatMap.mpr ⟨U, mU, me⟩
        have := ofF_mem.mp this
        exact ⟨hP.key e.1 this.1, by rw [← this.2.1]; exact okv e.1⟩
      · refine q H7 D3 acc3 ts' mk' (f03.trans (f7.mono fun b z => z.elim (fun z => .inl z) fun z => .inr (.inl z))) (rs3.laid f7 rm7 gr7) (gr2.trans gr7) ?_ (rs3.old (fun _ z => z) f03 hD3) hD7 la7 hh7
        have hl7' : ts'.length ≤ ts2.length + List.length (α := List (LKey × Tn m)) (cutL (kids (repl PL m) cs ch cs.length)) := hl7
        show _ ≤ ts.length + (m + 1 + 1) * _
        omega
end
end G

/-! changed, empty. -/
namespace G
open PySem PySem.Spec PyProof.Rows L2
section
variable {P : Program} {w : World} {K : PySem.W.Frag} {mg : Str → Option Value} {base : Heap} {CR CT : Addr}
theorem fg_false {k : Nat} {f : Addr} {fd : FuncData} {ps : List Str} : Fg P w K mg base CX0 k f fd ps (fun _ _ _ _ => False) := ⟨fun _ _ _ _ h => h.elim, fun _ _ _ _ _ _ _ _ _ _ _ _ _ h => h.elim⟩
theorem ok_repl {PL : List LKey} (hP : PLok PL) {f fp fl fo fpl fc : Addr} {fd fdp fdl fdo fdpl fdc : FuncData} (F : Fun K "_replaced" "Tree._replaced" sRepl f fd) (T : TTx K CT) (B : Bn mg)
    (Up : UseM P w K mg base 1 CT "_page" fp fdp ["self", "name"] (spPage CT)) (Ly : UseM P w K mg base 2 CT "_lay" fl fdl ["self", "page", "made"] (spLay2 CR CT))
    (O : Use P w K mg base 1 "order" fo fdo ["key"] spOrd) (L : Use P w K mg base 2 "place_of" fpl fdpl ["children", "key"] spPlace) (C : Use P w K mg base 1 "cut" fc fdc ["parts"] spCut)
    (M : Meth K CT "_replaced" f) (b : Binds K fd ["self", "name", "changes", "made"] []) : ∀ n, Fg P w K mg base CX0 (n + 4) f fd ["self", "name", "changes", "made"] (spRepl CR CT K PL n)
  | 0 => ok_repl_step hP F T B Up Ly O L C ⟨M, b, fg_false⟩
  | n + 1 => ok_repl_step hP F T B Up Ly O L C ⟨M, b, ok_repl hP F T B Up Ly O L C M b n⟩
def spReplN (CR CT : Addr) (K : PySem.W.Frag) (PL : List LKey) (N : Nat) : Sp := fun vs H Q E => ∃ n, n ≤ N ∧ spRepl CR CT K PL n vs H Q E
theorem fg_repl {PL : List LKey} {N : Nat} {f : Addr} {fd : FuncData} {ps : List Str} (G : ∀ n, Fg P w K mg base CX0 (n + 4) f fd ps (spRepl CR CT K PL n)) : Fg P w K mg base CX0 (N + 4) f fd ps (spReplN CR CT K PL N) :=
  ⟨fun vs H Q E ⟨n, h, q⟩ => (G n).len vs H Q E q, fun A outer s H args us vs Q E hr he hb hv ⟨n, h, q⟩ => ((G n).mono (by omega)).run A outer s H args us vs Q E hr he hb hv q⟩
/-! ### changed -/
def spChg (CR CT : Addr) (K : PySem.W.Frag) (PL : List LKey) (N : Nat) : Sp := fun vs H Q _ => ∃ t rg pd vd d kvs ts T ca b cxs ch, vs = [.ref t, .ref ca] ∧ Tr CT PL H t rg pd vd kvs ts T ∧ T.1 ≤ N ∧ RegI CR H rg d ∧ H d = some (.dK (reg ts)) ∧ d ≠ pd ∧ d ≠ vd ∧
  SqB b K H ca cxs ∧ Paired (EntAt H) cxs ch ∧ ChOk PL ch ∧ ch.length ≤ 1000 ∧ ts.length + (T.1 + 1) * 100 + 400 ≤ 1000000 ∧
  ∀ H' t2 pd2 vd2 kvs2 ts2, Fq (S2 d vd) H H' → H' d = some (.dK (reg ts2)) → ts <+: ts2 → ts2.length ≤ ts.length + (T.1 + 1) * 100 + 400 → Tr CT PL H' t2 rg pd2 vd2 kvs2 ts2 (chg PL T ch) → H t2 = none → d ≠ pd2 → d ≠ vd2 → Q (.ref t2) H'
/-- the state of the loop that grows: m turns left at most -/
def ChI (CR CT : Addr) (H : Hp) (t rg pd vd d md ca : Addr) (x : V) (kvs : List (Key × V)) (ts : List Str) (lim : Nat) (fin : (m : Nat) × List (Tn m)) (E : List Ent) (m : Nat) (σ : L2.St) (H' : Hp) : Prop :=
  ∃ l, ∃ ps : List (Tn l), ∃ pp pxs ts2 mk2, σ = [some (.ref t), some (.ref ca), some (.ref md), some (.ref pp), none, none] ∧ Fq (S3 d md vd) H H' ∧ RS CR CT H' t rg pd vd d md x kvs ts2 mk2 ∧ Gro ts kvs ts2 mk2 ∧ ts2.length ≤ lim + (3 - m) * 100 ∧ m ≤ 3 ∧
    H' pp = some (.lst pxs) ∧ Paired (LaidAt H' ts2 l) pxs ps ∧ (∀ U ∈ ps, Has ts2 (In mk2) l U) ∧ (∀ U ∈ ps, good l U) ∧ ps.flatMap (ents l) = E ∧ ps.length ≤ 6 ^ m ∧ grow m l ps = fin
theorem Fq.less {D E : Addr → Prop} {H H1 : Hp} (x : Fq D H H1) (h : ∀ b, D b → E b ∨ H b = none) : Fq E H H1 := ⟨fun b o e n => x.keep b o e fun kvs q z => (h b z).elim (n kvs q) fun z => by rw [z] at e; cases e⟩
theorem scChg : FnScope ["self", "changes", "made", "parts", "root", "piece"] ["self", "changes"] (defScope sChg) := ⟨rfl, rfl, rfl, by decide +kernel, rfl, by decide +kernel, by decide +kernel⟩
theorem ok_changed {PL : List LKey} (hP : PLok PL) {N : Nat} {f fr fl fn fc fi : Addr} {fd fdr fdl fdn fdc fdi : FuncData} (F : Fun K "changed" "Tree.changed" sChg f fd) (T : TTx K CT) (R : RTx K CR) (B : Bn mg)
    (Rp : UseM P w K mg base (N + 4) CT "_replaced" fr fdr ["self", "name", "changes", "made"] (spReplN CR CT K PL N)) (Ly : UseM P w K mg base 2 CT "_lay" fl fdl ["self", "page", "made"] (spLay2 CR CT))
    (Nm : UseM P w K mg base 1 CR "name" fn fdn ["self", "value"] (spName CR)) (C : Use P w K mg base 1 "cut" fc fdc ["parts"] spCut)
    (Cn : UseC P w K mg base 1 "Tree" CT fi fdi ["self", "registry", "root", "pages"] (spTInit CT)) : Fg P w K mg base CX0 (N + 5) f fd ["self", "changes"] (spChg CR CT K PL N) := by
  refine okG F scChg (fun vs H Q E h => ?_) (fun cdv A outer s H vs Q E hr h => ?_)
  · obtain ⟨t, rg, pd, vd, d, kvs, ts, T0, ca, b, cxs, ch, rfl, _⟩ := h
    rfl
  · obtain ⟨t, rg, pd, vd, d, kvs, ts, ⟨n, T0⟩, ca, b, cxs, ch, rfl, tr, hnN, hrg, hd, hdp, hdv, hca, hch, cho, hc1000, hz, q⟩ := h
    have nd := scChg.nd
    have hr3 : GR 3 (A.deeper (envOfC "Tree.changed" (defScope sChg) s.heap.objs.size f cdv)) := hr.mono (by omega)
    refine ⟨_, pss_cons (ps_set (i := 2) nd rfl (.inr rfl) (pe_callTy call_dictD (by rfl) B.dict boot_dict (pa_cons (pe_fld (pv 0) rfl) pa_nil)))
      (pss_cons (ps_set (i := 3) nd rfl (.inl rfl) (pm T.cl Rp hr (Nat.le_refl _) (pv 0) (pa_cons (pe_fld (pv 0) rfl) (pa_cons (pv 1) (pa_cons (pv 2) pa_nil)))))
      (pss_cons (ps_while PassesOwn.never (pt_cmpR op_gt (pe_callB (r := fun xs H Q => ∃ p ys, xs = [.ref p] ∧ (SqL K H p ys ∨ SqT K H p ys) ∧ Q (.int ys.length) H) call_len_seq (by rfl) B.len boot_len (pa_cons (pv 3) pa_nil)) pe_int (nomark _))
        (pss_one (ps_setLc (i := 3) (own := [("piece", 5)]) (g := gName 5) (tt := tYes) rfl nd rfl rfl (sw_true rfl rfl rfl (by decide +kernel)) (pi_list (pu C hr3 (by decide) (by rfl) (pa_cons (pv 3) pa_nil)))
            (blkOk_by (N := ["self", "changes", "made", "parts", "root", "piece"]) (sc := defScope sChg) (by decide +kernel)) (fun _ _ _ _ _ => pg_name (i := 5) nd rfl (Or.inl rfl)) (fun _ _ _ _ _ => pts_nil) (fun _ _ _ _ _ => pm T.cl Ly hr3 (by decide) (pv 0) (pa_cons (pe_tup (pa_cons pe_str (pa_cons (pv 5) pa_nil))) (pa_cons (pv 2) pa_nil))))))
      (pss_cons (ps_cut (ps_if (pt_truth (pv 3) (by intro _; rfl)) (pss_one (ps_set (i := 4) nd rfl (.inl rfl) (pe_ix ix_tup (pe_ix ix_list (pv 3) pe_int (fun _ _ => rfl)) pe_int (fun _ _ => rfl))))
        (pss_cons (ps_set (i := 4) nd rfl (.inl rfl) (pm R.cl Nm hr3 (by decide) (pe_fld (pv 0) rfl) (pa_cons (pe_tup (pa_cons pe_str (pa_cons (pe_tupF pa_nil) pa_nil))) pa_nil)))
        (pss_one (ps_dput hr3.hu (pv 2) (pv 4) (pe_tup (pa_cons pe_str (pa_cons (pe_tupF pa_nil) pa_nil))) rfl)))))
      (pss_cons (ps_cut (ps_while PassesOwn.never (PW.pt (pw_and (pt_cmp (pc_din hr3.hu (pv 4) (pv 2))) (pw_and (pt_cmpR op_eq (pe_ix ix_tup (pe_dget hr3.hu (pv 2) (pv 4) (fun _ _ => rfl)) pe_int (fun _ _ => rfl)) pe_str (nomark _))
            (pw_and1 (pt_cmpR op_eq (pe_callB call_len_seq (by rfl) B.len boot_len (pa_cons (pe_ix ix_tup (pe_dget hr3.hu (pv 2) (pv 4) (fun _ _ => rfl)) pe_int (fun _ _ => rfl)) pa_nil)) pe_int (nomark _))))))
        (pss_one (ps_set (i := 4) nd rfl (.inl rfl) (pe_ix ix_tup (pe_ix ix_tup (pe_ix ix_tup (pe_dget hr3.hu (pv 2) (pv 4) (fun _ _ => rfl)) pe_int (fun _ _ => rfl)) pe_int (fun _ _ => rfl)) pe_int (fun _ _ => rfl))))))
      (pss_cons (ps_if (pt_cmp (pc_dnotin hr3.hu (pv 4) (pv 2))) (pss_one ps_never) pss_nil)
      (pss_one (ps_ret (pc Cn hr3 (by decide) (by rfl) (pa_cons (pe_fld (pv 0) rfl) (pa_cons (pv 4) (pa_cons (pv 2) pa_nil))))))))))), ?_⟩
    obtain ⟨dx, ht⟩ := tr.at'.ins
    -- made = dict(self._pages)
    refine ⟨_, rfl, t, CT, dx, _, _, rfl, ht, T.cl, T.pages, flT_pages _ _ _ _, pd, kvs, rfl, .inl tr.at'.pg, fun md hmd => ?_⟩
    have f1 : Fq D0 H (upd H md (.dK kvs)) := Fq.new hmd
    obtain ⟨vs0, hvd0, _⟩ := tr.at'.vis
    have nm1 : d ≠ md := ne_of_none hd hmd
    have nm2 : pd ≠ md := ne_of_none tr.at'.pg hmd
    have nm3 : vd ≠ md := ne_of_none hvd0 hmd
    have rs1 : RS CR CT (upd H md (.dK kvs)) t rg pd vd d md (.int (nm ts n T0 : Nat)) kvs ts kvs :=
      ⟨tr.at'.keep f1 (fun z => z) fun z => z, hrg.keep f1, ⟨f1.toDK hd fun z => z, upd_same, tr.po.keep f1.tk⟩, ⟨nm1, hdp, hdv, nm2.symm, nm3.symm⟩, tr.po.keep f1.tk, fun _ z => z⟩
    have fr1 : Fq (S3 d md vd) H (upd H md (.dK kvs)) := f1.mono fun _ z => z.elim
    obtain ⟨dx1, ht1⟩ := rs1.tr.ins
    obtain ⟨c1, c2, c3, c4⟩ := chg_spec hP.sk (Nat.le_trans hP.len (by decide)) (ch := ch) tr.rg tr.ok
    obtain ⟨sp1, sp2⟩ := repl_spec hP.sk n T0 ch (tr.rg.or.elim .inr fun z => .inl z.1) tr.ok
    have htot : ((repl PL n T0 ch).flatMap (ents n)).length ≤ 100 := by
      rw [sp2]
      exact Nat.le_trans (ofF_len _ _) hP.len
    have hzn : (n + 1) * ((repl PL n T0 ch).flatMap (ents n)).length ≤ (n + 1) * 100 := Nat.mul_le_mul_left _ htot
    have hz' : ts.length + (n + 1) * 100 + 400 ≤ 1000000 := hz
    -- parts = self._replaced(self.root, changes, made)
    refine ⟨_, rfl, t, dx1, _, rfl, ht1, flT_no _ _ _ _ (by decide +kernel) (by decide +kernel) (by decide +kernel) (by decide +kernel), _, rfl, t, CT, dx1, _, _, rfl, ht1, T.cl, T.root, flT_root _ _ _ _, _, rfl, _, rfl,
      n, hnN, t, rg, pd, vd, d, md, _, kvs, ts, kvs, ca, b, cxs, ch, T0, rfl, rs1, tr.has, tr.rg.or, tr.ok, tr.es, f1.seqB hca, Paired.mapP hch fun _ _ => EntAt.keep f1.tk, cho, hc1000, by omega, fun H2 pp pxs ts2 mk2 f2 rs2 gr2 hl2 hpp hpx la2 hh2 => ?_⟩
    have fr2 : Fq (S3 d md vd) H H2 := fr1.trans f2
    -- while len(parts) > 1
    have okE : okEs (ofF PL (updsF (look (ents n T0)) ch)) := fun e me => by
      have := ofF_mem.mp (show (e.1, e.2) ∈ _ from me)
      exact ⟨hP.key e.1 this.1, by rw [← this.2.1]; exact upds_ok (p := okVal) (look_ok okVal_none fun e m => (tr.es e m).2) (fun c m => (cho c m).2) e.1⟩
    have lenE : (ofF PL (updsF (look (ents n T0)) ch)).length ≤ 100 := Nat.le_trans (ofF_len _ _) hP.len
    have ec0 : chg PL ⟨n, T0⟩ ch = strip (rootOf (grow 3 n (repl PL n T0 ch))).1 (rootOf (grow 3 n (repl PL n T0 ch))).2 := rfl
    have okF := ofF_ok hP.sk (updsF (look (ents n T0)) ch)
    generalize hE : ofF PL (updsF (look (ents n T0)) ch) = E at okE lenE sp2 okF c2
    generalize hfin : grow 3 n (repl PL n T0 ch) = fin at ec0
    refine ⟨ChI CR CT H t rg pd vd d md ca (.int (nm ts n T0 : Nat)) kvs ts (ts.length + (n + 1) * 100) fin E, ⟨3, n, repl PL n T0 ch, pp, pxs, ts2, mk2, rfl, fr2, rs2, gr2, by omega, Nat.le_refl _, hpx, la2, hh2, sp1, sp2, ?_, hfin⟩, ?_⟩
    · have := good_len sp1
      omega
    rintro m σ H' ⟨l, ps, pp, pxs, ts2, mk2, rfl, fr, rs, gr, hl, hm3, hpx, la, hh, gd, fe, h6, egr⟩
    have hpl : pxs.length = ps.length := paired_len la
    have hp100 : ps.length ≤ 100 := by
      have := good_len gd
      rw [fe] at this
      omega
    refine ⟨_, rfl, pp, pxs, rfl, .inl (.inl (.inl hpx)), _, _, rfl, rfl, _, rfl, ?_⟩
    refine ite2 (fun hc => ?_) (fun hc => ?_)
    · have hc : 1 < ps.length := by
        have := of_decide_eq_true hc
        omega
      obtain ⟨m', rfl⟩ : ∃ m', m = m' + 1 := by
        cases m with
        | zero =>
          rw [Nat.pow_zero] at h6
          omega
        | succ m' => exact ⟨m', rfl⟩
      refine ⟨fun σ2 H2 => ∃ m2, m2 < m' + 1 ∧ ChI CR CT H t rg pd vd d md ca (.int (nm ts n T0 : Nat)) kvs ts (ts.length + (n + 1) * 100) fin E m2 σ2 H2, fun σ2 H2 h => h, ?_⟩
      refine ⟨_, rfl, pp, pxs, rfl, hpx, by omega, fun H3 cp cys f3 hcp hc3 hcy => ?_⟩
      have fr3 : Fq (S3 d md vd) H H3 := fr.trans (f3.mono fun _ z => z.elim)
      have rs3 := rs.keep f3
      obtain ⟨u1, u2, u3⟩ := up_spec gd
      have ka3 : Paired (KA H3 ts2 l) pxs (ps.map fun p => (fstT l p, p)) := Paired.mapP (ka_laid la) fun _ _ h => KidAt.keep f3.tk h
      have hhc : ∀ c ∈ ps.map (fun p => (fstT l p, p)), Has ts2 (In mk2) l c.2 := fun c mc => by
        obtain ⟨p, mp, rfl⟩ := List.mem_map.mp mc
        exact hh p mp
      have ul : (up l ps).length ≤ 100 := by
        rw [u3]
        exact Nat.le_trans (cutN_le _) hp100
      have hlm : ts2.length + 100 ≤ ts.length + (n + 1) * 100 + (3 - m') * 100 := by
        have : 3 - m' = (3 - (m' + 1)) + 1 := by omega
        rw [this, Nat.succ_mul]
        omega
      have h3m : (3 - m') * 100 ≤ 300 := by
        have : 3 - m' ≤ 3 := Nat.sub_le _ _
        exact Nat.mul_le_mul_right 100 this
      refine ⟨cp, rfl, ⟨_, .inl (.inl hc3)⟩, fun D3 hD3 => lay_lc (K := K) (CR := CR) (CT := CT) (l := l + 1) (ps := 5) (ms := 2) (yss := cutL pxs) (pcs := up l ps) (ts := ts2) (mk := mk2) rfl rfl (by decide) (by decide) (by show 5 < 6; decide) hc3 hcy (fun H' ts' k p => Paired.mapP (cut_paired (ka_keep k p ka3 hhc)) fun _ _ => ka_its) hD3
        (let ⟨dx, e⟩ := rs3.tr.ins; ⟨dx, _, pd, vd, e⟩) rs3.rgi rs3.rm rs3.ne.1 (by omega) (by omega) u1 (fun U mU e me => okE e (by rw [← fe, ← u2]; exact List.mem_flatMap.mpr ⟨U, mU, me⟩)) (fun U mU c' mc' => hhc c' (cut_sub mU mc')) fun H7 acc3 ts' mk' f7 hD7 rm7 gr7 hl7 la7 hh7 => ?_⟩
      refine ⟨m', Nat.lt_succ_self _, l + 1, up l ps, D3, acc3, ts', mk', rfl, fr3.trans (f7.mono fun b z => z.elim (fun z => .inl z) fun z => .inr (.inl z)), rs3.laid f7 rm7 gr7, gr.trans gr7, by omega, by omega, hD7, la7, hh7, u1, u2.trans fe, ?_, ?_⟩
      · rw [u3]
        rw [Nat.pow_succ] at h6
        unfold cutN
        omega
      · rw [← grow_more hc]
        exact egr
    have hc : ps.length ≤ 1 := by
      have : ¬ (1 : Int) < ((pxs.length : Nat) : Int) := fun z => hc (decide_eq_true z)
      omega
    rw [grow_stop hc] at egr
    subst egr
    have h3m : (3 - m) * 100 ≤ 300 := Nat.mul_le_mul_right 100 (Nat.sub_le 3 m)
    -- if parts: .. else: ..
    refine ⟨fun σ2 H2 => ∃ R : Nd, ∃ ts3 mk3, σ2 = [some (.ref t), some (.ref ca), some (.ref md), some (.ref pp), some (.int (nm ts3 R.1 R.2 : Nat)), none] ∧ Fq (S3 d md vd) H H2 ∧ RS CR CT H2 t rg pd vd d md (.int (nm ts n T0 : Nat)) kvs ts3 mk3 ∧ Gro ts kvs ts3 mk3 ∧ ts3.length ≤ ts.length + (n + 1) * 100 + 400 ∧ Has ts3 (In mk3) R.1 R.2 ∧ R = rootOf ⟨l, ps⟩ ∧ rgood R ∧ ents R.1 R.2 = E, ?_, ?_⟩
    · refine ⟨_, rfl, _, .inl ⟨pxs, .inl (.inl hpx), rfl⟩, ?_⟩
      match ps, la, hh, gd, fe, hc with
      | [], la, hh, gd, fe, _ =>
        cases la
        refine iteF ?_
        obtain ⟨dxr, ba, bb, hri⟩ := rs.rgi
        obtain ⟨dxt, hti⟩ := rs.tr.ins
        refine ⟨_, rfl, t, CT, dxt, _, _, rfl, hti, T.cl, T.registry, flT_reg _ _ _ _, rg, dxr, _, rfl, hri, flR_no _ _ _ (by decide +kernel) (by decide +kernel) (by decide +kernel), Nat.zero_le _, fun p1 o1 hp1 ho1 => ⟨by show 2 ≤ sizeLine; decide, fun p2 hp2 => ?_⟩⟩
        have f3 : Fq D0 H' (upd (upd H' p1 (.frz o1 (.tup []))) p2 (.tup [.str "leaf", .ref p1])) := (Fq.new hp1).snoc hp2
        have n12 : p1 ≠ p2 := ne_of_none (H := upd H' p1 (.frz o1 (.tup []))) upd_same hp2
        have rs3 := rs.keep f3
        have pg3 : PG (upd (upd H' p1 (.frz o1 (.tup []))) p2 (.tup [.str "leaf", .ref p1])) (.ref p2) (.leaf []) := ⟨p2, p1, [], rfl, .of upd_same, ⟨o1, by rw [upd_ne n12]; exact upd_same, ho1⟩, .nil⟩
        have okp : okPg (.leaf []) := ⟨Nat.zero_le _, fun e me => by cases me⟩
        refine ⟨rg, d, .ref p2, pgD (.leaf []), ts2, rfl, rs3.rgi, rs3.rm.hd, by omega, pg3.td, (pgD_ok okp).2, fun H5 f5 hd5 => ?_⟩
        refine ⟨Nat.zero_le _, fun p3 o3 hp3 ho3 => ⟨by show 2 ≤ sizeLine; decide, fun p4 hp4 => ?_⟩⟩
        have f6 : Fq D0 H5 (upd (upd H5 p3 (.frz o3 (.tup []))) p4 (.tup [.str "leaf", .ref p3])) := (Fq.new hp3).snoc hp4
        have n34 : p3 ≠ p4 := ne_of_none (H := upd H5 p3 (.frz o3 (.tup []))) upd_same hp4
        have f36 : Fq (S1 d) H' (upd (upd H5 p3 (.frz o3 (.tup []))) p4 (.tup [.str "leaf", .ref p3])) := ((f3.mono fun _ z => z.elim).trans f5).trans (f6.mono fun _ z => z.elim)
        have hm6 : (upd (upd H5 p3 (.frz o3 (.tup []))) p4 (.tup [.str "leaf", .ref p3])) md = some (.dK mk2) := f36.toDK rs.rm.hm (fun z => rs.ne.1 z.symm)
        have hd6 : (upd (upd H5 p3 (.frz o3 (.tup []))) p4 (.tup [.str "leaf", .ref p3])) d = some (.dK (reg (named ts2 (pgD (.leaf [])).shown))) := f6.toDK hd5 (fun z => z)
        have pg6 : PG (upd (upd H5 p3 (.frz o3 (.tup []))) p4 (.tup [.str "leaf", .ref p3])) (.ref p4) (.leaf []) := ⟨p4, p3, [], rfl, .of upd_same, ⟨o3, by rw [upd_ne n34]; exact upd_same, ho3⟩, .nil⟩
        have hml : mk2.length < sizeLine := Nat.lt_of_le_of_lt (Nat.le_trans rs.rm.po.len (show ts2.length ≤ 1000000 by omega)) (by decide)
        refine ⟨_, rfl, _, rfl, md, _, rfl, DPut.k (k := Sum.inl (nmOf (named ts2 (txt (.leaf []))) (txt (.leaf [])) : Nat)) hm6 hml, ⟨0, ([] : List Ent)⟩, named ts2 (txt (.leaf [])), putK mk2 (.inl (nmOf (named ts2 (txt (.leaf []))) (txt (.leaf [])) : Nat) : Key) (.ref p4), rfl, ?_, ?_, ?_, ?_, ?_, rfl, .inr rfl, ?_⟩
        · exact (fr.trans (f36.mono fun b z => .inl z)).put hm6 (.inr (.inl rfl))
        · have f7 : Fq (S2 d md) H' (upd (upd (upd H5 p3 (.frz o3 (.tup []))) p4 (.tup [.str "leaf", .ref p3])) md (.dK (putK mk2 (.inl (nmOf (named ts2 (txt (.leaf []))) (txt (.leaf [])) : Nat) : Key) (.ref p4)))) := (f36.mono fun b z => .inl z).put hm6 (.inr rfl)
          refine rs.laid f7 ⟨by rw [upd_ne rs.ne.1]; exact hd6, upd_same, ?_⟩ ⟨named_pre _ _, fun k z => In.put z⟩
          have t8 : Tk (upd (upd H5 p3 (.frz o3 (.tup []))) p4 (.tup [.str "leaf", .ref p3])) (upd (upd (upd H5 p3 (.frz o3 (.tup []))) p4 (.tup [.str "leaf", .ref p3])) md (.dK (putK mk2 (.inl (nmOf (named ts2 (txt (.leaf []))) (txt (.leaf [])) : Nat) : Key) (.ref p4)))) := (Fr.put (S := S1 md) hm6 (fun z => z) rfl).tup
          exact ((rs.rm.po.keep f7.tk).more (named_pre _ _)).put okp (named_mem _ _) (pg6.keep t8)
        · exact gr.trans ⟨named_pre _ _, fun k z => In.put z⟩
        · have := named_len ts2 (txt (.leaf []))
          omega
        · exact has_leaf (es := []) In.self
        · exact fe
      | [p], la, hh, gd, fe, _ =>
        cases la with
        | cons h0 t0 =>
          cases t0
          obtain ⟨e, q0, rfl, h1, h2⟩ := h0
          refine iteT ?_
          refine ⟨_, rfl, pp, _, _, _, rfl, rfl, .inl (.inl hpx), atI_nat (j := 0) rfl, e, _, _, _, rfl, rfl, h1.sq, atI_nat (j := 1) rfl, ⟨l, p⟩, ts2, mk2, rfl, fr, rs, gr, by omega, hh p List.mem_cons_self, rfl, .inl (gd p List.mem_cons_self), ?_⟩
          rw [← fe]
          simp
      | _ :: _ :: _, la, hh, gd, fe, hc => exact absurd hc (by simp)
    rintro _ H3 ⟨R, ts3, mk3, rfl, fr3, rs3, gr3, hl3, hR, eR, rgR, eE⟩
    rw [← eR] at ec0
    -- while root in made and ..
    have okR : okEs (ents R.1 R.2) := by rw [eE]; exact okE
    have hz3 : ts3.length ≤ 1000000 := by omega
    refine ⟨fun σ2 H2 => ∃ m, ∃ U : Tn m, σ2 = [some (.ref t), some (.ref ca), some (.ref md), some (.ref pp), some (.int (nm ts3 m U : Nat)), none] ∧ H2 = H3 ∧ Has ts3 (In mk3) m U ∧ strip R.1 R.2 = ⟨m, U⟩, ?_, ?_⟩
    · refine ⟨fun m σ2 H2 => ∃ U : Tn m, σ2 = [some (.ref t), some (.ref ca), some (.ref md), some (.ref pp), some (.int (nm ts3 m U : Nat)), none] ∧ H2 = H3 ∧ Has ts3 (In mk3) m U ∧ strip m U = strip R.1 R.2 ∧ (good m U ∨ (m = 0 ∧ ents m U = [])) ∧ okEs (ents m U), ⟨R.1, R.2, rfl, rfl, hR, rfl, rgR.or, okR⟩, ?_⟩
      rintro m2 σ2 H2 ⟨U, rfl, rfl, hU, esU, gU, okU⟩
      obtain ⟨v, ev, pgv⟩ := rs3.rm.po.get hU (okPg_at hz3 gU okU hU)
      have dg : DGet H2 md (.int (nm ts3 m2 U : Nat)) (some v) := by
        have := DGet.k (k := Sum.inl (nm ts3 m2 U : Nat)) rs3.rm.hm
        rw [ev] at this
        exact this
      refine ⟨_, rfl, _, rfl, md, _, rfl, dg, _, rfl, iteT ?_⟩
      by_cases m0 : m2 = 0
      · subst m0
        obtain ⟨a, qa, xs, rfl, h2, h3, h4⟩ := pgv
        refine ⟨_, rfl, _, rfl, md, _, rfl, dg, a, _, _, _, rfl, rfl, h2.sq, atI_nat (j := 0) rfl, rfl, _, rfl, ?_⟩
        refine ite2 (fun hc => absurd (of_decide_eq_true hc) not_node) (fun _ => ?_)
        exact iteF ⟨0, U, rfl, rfl, hU, esU.symm⟩
      · obtain ⟨j, rfl⟩ := Nat.exists_eq_succ_of_ne_zero m0
        obtain ⟨cs, e0⟩ : ∃ cs : List (LKey × Tn j), cs = U := ⟨U, rfl⟩
        subst e0
        have gw : good (j + 1) cs := gU.resolve_right fun z => Nat.succ_ne_zero j z.1
        obtain ⟨g1, g2, g3⟩ := id gw
        have gc : goodC cs := g3
        obtain ⟨a, qa, xs, rfl, h2, h3, h4⟩ := pgv
        have hxl : xs.length = cs.length := by rw [paired_len (kidAt_keys h4)]; exact List.length_map ..
        refine ⟨_, rfl, _, rfl, md, _, rfl, dg, a, _, _, _, rfl, rfl, h2.sq, atI_nat (j := 0) rfl, rfl, _, rfl, ?_⟩
        refine ite2 (fun _ => ?_) (fun hc => absurd (decide_eq_true rfl) hc)
        refine ⟨_, rfl, _, rfl, md, _, rfl, dg, a, _, _, _, rfl, rfl, h2.sq, atI_nat (j := 1) rfl, qa, xs, rfl, .inr h3.tup.sq, rfl, _, rfl, ?_⟩
        refine ite2 (fun hc => ?_) (fun hc => ?_)
        · have hc1 : cs.length = 1 := by
            have := of_decide_eq_true hc
            injection this with this
            omega
          obtain ⟨c, ecs⟩ := List.length_eq_one_iff.mp hc1
          subst ecs
          refine ⟨fun σ2 H3 => ∃ m', m' < j + 1 ∧ ∃ U : Tn m', σ2 = [some (.ref t), some (.ref ca), some (.ref md), some (.ref pp), some (.int (nm ts3 m' U : Nat)), none] ∧ H3 = H2 ∧ Has ts3 (In mk3) m' U ∧ strip m' U = strip R.1 R.2 ∧ (good m' U ∨ (m' = 0 ∧ ents m' U = [])) ∧ okEs (ents m' U), fun σ2 H3 h => h, ?_⟩
          obtain ⟨e, q0, ex, h5, h6⟩ := kidAt_get h4 (i := 0) (c := c) rfl
          have es1 : okEs (cents [c]) := okU
          refine ⟨_, rfl, _, rfl, md, _, rfl, dg, a, _, _, _, rfl, rfl, h2.sq, atI_nat (j := 1) rfl, qa, _, _, _, rfl, rfl, h3.tup.sq, atI_nat (j := 0) ex, e, _, _, _, rfl, rfl, h5.sq, atI_nat (j := 1) rfl, j, Nat.lt_succ_self j, c.2, rfl, rfl, hU.kid List.mem_cons_self, ?_, .inl (gc c List.mem_cons_self).1, okEs_kid es1 List.mem_cons_self⟩
          rw [← esU]
          exact (strip_one c).symm
        · refine ⟨j + 1, cs, rfl, rfl, hU, ?_⟩
          rw [← esU]
          refine strip_stop fun z => hc (decide_eq_true ?_)
          show V.int ((xs.length : Nat) : Int) = V.int 1
          rw [hxl, z]
          rfl
    rintro _ H2 ⟨m2, U, rfl, rfl, hU, esU⟩
    rw [esU] at ec0
    rw [ec0] at c1 c2 c3
    have e2 : ents m2 U = E := c2
    obtain ⟨v, ev⟩ := Option.isSome_iff_exists.mp hU.top.2
    have dg : DGet H2 md (.int (nm ts3 m2 U : Nat)) (some v) := by
      have := DGet.k (k := Sum.inl (nm ts3 m2 U : Nat)) rs3.rm.hm
      rw [show valV mk3 (Sum.inl (nm ts3 m2 U : Nat) : Key) = some v from ev] at this
      exact this
    refine ⟨_, rfl, _, rfl, md, _, rfl, dg, _, rfl, iteF ?_⟩
    obtain ⟨dxt, hti⟩ := rs3.tr.ins
    refine ⟨_, rfl, t, CT, dxt, _, _, rfl, hti, T.cl, T.registry, flT_reg _ _ _ _, _, rfl, _, rfl, fun t2 dx2 nt2 ndx2 nex => ?_⟩
    have nmt : md ≠ t2 := ne_of_none rs3.rm.hm nt2
    have nmd : md ≠ dx2 := ne_of_none rs3.rm.hm ndx2
    refine ⟨t2, dx2, rg, _, md, mk3, rfl, upd_same, by rw [upd_ne nmt, upd_ne nmd]; exact rs3.rm.hm, fun H5 pd2 vd2 hpd2 hvd2 hne2 ht2 hp2 hv2 hk2 => ⟨rfl, ?_⟩⟩
    have f5 : Fq D0 H2 H5 := ⟨fun b o e _ => hk2 b o (by rw [upd_ne (ne_of_none e nt2), upd_ne (ne_of_none e ndx2)]; exact e) (ne_of_none e nt2)⟩
    have hd5 : H5 d = some (.dK (reg ts3)) := f5.toDK rs3.rm.hd fun z => z
    have fr5 : Fq (S2 d vd) H H5 := (fr3.trans (f5.mono fun _ z => z.elim)).less fun b z => by
      rcases z with z | z | z
      · exact .inl (.inl z)
      · exact .inr (by rw [z]; exact hmd)
      · exact .inl (.inr z)
    have hd2 : (upd (upd H2 dx2 (.own t2)) t2 (.ins CT dx2 [])) d = some (.dK (reg ts3)) := by rw [upd_ne (ne_of_none rs3.rm.hd nt2), upd_ne (ne_of_none rs3.rm.hd ndx2)]; exact rs3.rm.hd
    refine q H5 t2 pd2 vd2 mk3 ts3 fr5 hd5 gr3.pre hl3 ?_ (rs3.old (fun _ z => z) fr3 nt2) (ne_of_none hd2 hpd2) (ne_of_none hd2 hvd2)
    rw [ec0]
    exact ⟨⟨⟨dx2, ht2⟩, hp2, ⟨[], hv2, List.nodup_nil, fun k m => by cases m⟩, hne2⟩, rs3.rm.po.keep f5.tk, hU, c1, by show Ok PL (ents m2 U); rw [e2]; exact okF, by show okEs (ents m2 U); rw [e2]; exact okE, hz3⟩
end
end G

/-! empty; the law's draw, value, picks. -/
namespace G
open PySem PySem.Spec PyProof.Rows L2
section
variable {P : Program} {w : World} {K : PySem.W.Frag} {mg : Str → Option Value} {base : Heap} {CR CT : Addr}
/-! ### empty -/
def spEmpty (CR CT : Addr) (PL : List LKey) : Sp := fun vs H Q _ => ∃ rg d, vs = [.ref rg] ∧ RegI CR H rg d ∧ H d = some (.dK (reg [])) ∧
  ∀ H' t pd vd kvs ts, Fq (S1 d) H H' → H' d = some (.dK (reg ts)) → ts.length ≤ 1 → Tr CT PL H' t rg pd vd kvs ts ⟨0, ([] : List Ent)⟩ → H t = none → d ≠ pd → d ≠ vd → Q (.ref t) H'
theorem scEmpty : FnScope ["registry", "page", "name"] ["registry"] (defScope sEmpty) := ⟨rfl, rfl, rfl, by decide +kernel, rfl, by decide +kernel, by decide +kernel⟩
theorem ok_empty {PL : List LKey} {f fn fi : Addr} {fd fdn fdi : FuncData} (F : Fun K "empty" "empty" sEmpty f fd) (R : RTx K CR) (Nm : UseM P w K mg base 1 CR "name" fn fdn ["self", "value"] (spName CR))
    (Cn : UseC P w K mg base 1 "Tree" CT fi fdi ["self", "registry", "root", "pages"] (spTInit CT)) : Fg P w K mg base CX0 3 f fd ["registry"] (spEmpty CR CT PL) := by
  refine okG F scEmpty (fun vs H Q E h => ?_) (fun cdv A outer s H vs Q E hr h => ?_)
  · obtain ⟨rg, d, rfl, _⟩ := h
    rfl
  · obtain ⟨rg, d, rfl, hrg, hd, q⟩ := h
    have nd := scEmpty.nd
    refine ⟨_, pss_cons (ps_set (i := 1) nd rfl (.inl rfl) (pe_tup (pa_cons pe_str (pa_cons (pe_tupF pa_nil) pa_nil))))
      (pss_cons (ps_set (i := 2) nd rfl (.inl rfl) (pm R.cl Nm hr (by decide) (pv 0) (pa_cons (pv 1) pa_nil)))
      (pss_one (ps_ret (pc Cn hr (by decide) (by rfl) (pa_cons (pv 0) (pa_cons (pv 2) (pa_cons (pe_disp (pps_cons (pv 2) (pv 1) pps_nil) (by rfl) (by rfl) (fun z => by cases z) (by decide)) pa_nil))))))), ?_⟩
    refine ⟨Nat.zero_le _, fun p1 o1 hp1 ho1 => ⟨by show 2 ≤ sizeLine; decide, fun p2 hp2 => ?_⟩⟩
    have f1 : Fq D0 H (upd (upd H p1 (.frz o1 (.tup []))) p2 (.tup [.str "leaf", .ref p1])) := (Fq.new hp1).snoc hp2
    have n12 : p1 ≠ p2 := ne_of_none (H := upd H p1 (.frz o1 (.tup []))) upd_same hp2
    have pg1 : PG (upd (upd H p1 (.frz o1 (.tup []))) p2 (.tup [.str "leaf", .ref p1])) (.ref p2) (.leaf []) := ⟨p2, p1, [], rfl, .of upd_same, ⟨o1, by rw [upd_ne n12]; exact upd_same, ho1⟩, .nil⟩
    have okp : okPg (.leaf []) := ⟨Nat.zero_le _, fun e me => by cases me⟩
    obtain ⟨dxr, ba, bb, hri⟩ := hrg
    refine ⟨_, rfl, rg, dxr, _, rfl, f1.toI hri, flR_no _ _ _ (by decide +kernel) (by decide +kernel) (by decide +kernel), _, rfl, rg, d, .ref p2, pgD (.leaf []), [], rfl, ⟨dxr, ba, bb, f1.toI hri⟩, f1.toDK hd (fun z => z), Nat.zero_le _, pg1.td, (pgD_ok okp).2, fun H2 f2 hd2 => ?_⟩
    have f02 : Fq (S1 d) H H2 := (f1.mono fun _ z => z.elim).trans f2
    have pg2 := pg1.keep f2.tk
    refine ⟨_, rfl, _, rfl, fun p3 hp3 => ⟨_, rfl, _, rfl, upd_same, [(.inl (nmOf (named [] (txt (.leaf []))) (txt (.leaf [])) : Nat), .ref p2)], rfl, by show 1 ≤ 15; decide, ?_⟩⟩
    have em : mergeK [] [((.inl (nmOf (named [] (txt (.leaf []))) (txt (.leaf [])) : Nat) : Key), V.ref p2)] = [((.inl (nmOf (named [] (txt (.leaf []))) (txt (.leaf [])) : Nat) : Key), V.ref p2)] := by
      show putK [] _ _ = _
      rw [putK_new _ valV_nil]
      rfl
    rw [em, upd_upd]
    intro t2 dx2 nt2 ndx2 nex
    have f3 : Fq D0 H2 (upd H2 p3 (.dK [((.inl (nmOf (named [] (txt (.leaf []))) (txt (.leaf [])) : Nat) : Key), V.ref p2)])) := Fq.new hp3
    have n3t : p3 ≠ t2 := ne_of_none (H := upd H2 p3 (.dK [((.inl (nmOf (named [] (txt (.leaf []))) (txt (.leaf [])) : Nat) : Key), V.ref p2)])) upd_same nt2
    have n3d : p3 ≠ dx2 := ne_of_none (H := upd H2 p3 (.dK [((.inl (nmOf (named [] (txt (.leaf []))) (txt (.leaf [])) : Nat) : Key), V.ref p2)])) upd_same ndx2
    refine ⟨t2, dx2, rg, _, p3, _, rfl, upd_same, by rw [upd_ne n3t, upd_ne n3d]; exact upd_same, fun H5 pd2 vd2 hpd2 hvd2 hne2 ht2 hp5 hv5 hk5 => ⟨rfl, ?_⟩⟩
    have f5 : Fq D0 (upd H2 p3 (.dK [((.inl (nmOf (named [] (txt (.leaf []))) (txt (.leaf [])) : Nat) : Key), V.ref p2)])) H5 := ⟨fun b o e _ => hk5 b o (by rw [upd_ne (ne_of_none e nt2), upd_ne (ne_of_none e ndx2)]; exact e) (ne_of_none e nt2)⟩
    have hd3 : (upd H2 p3 (.dK [((.inl (nmOf (named [] (txt (.leaf []))) (txt (.leaf [])) : Nat) : Key), V.ref p2)])) d = some (.dK (reg (named [] (txt (.leaf []))))) := f3.toDK hd2 fun z => z
    have f05 : Fq (S1 d) H H5 := f02.trans ((f3.trans f5).mono fun _ z => z.elim)
    have nt0 : H t2 = none := by
      refine f02.toN (H1 := H2) ?_ ?_
      · cases e : H2 t2 with
        | none => rfl
        | some o =>
          have := f3.keep t2 o e fun _ _ z => z
          rw [nt2] at this
          cases this
      · intro z
        rw [show t2 = d from z, hd3] at nt2
        cases nt2
    have hd4 : (upd (upd (upd H2 p3 (.dK [((.inl (nmOf (named [] (txt (.leaf []))) (txt (.leaf [])) : Nat) : Key), V.ref p2)])) dx2 (.own t2)) t2 (.ins CT dx2 [])) d = some (.dK (reg (named [] (txt (.leaf []))))) := by
      rw [upd_ne (ne_of_none hd3 nt2), upd_ne (ne_of_none hd3 ndx2)]
      exact hd3
    refine q H5 t2 pd2 vd2 [((.inl (nmOf (named [] (txt (.leaf []))) (txt (.leaf [])) : Nat) : Key), V.ref p2)] (named [] (txt (.leaf []))) f05 (f5.toDK hd3 fun z => z) (named_len _ _) ?_ nt0 (ne_of_none hd4 hpd2) (ne_of_none hd4 hvd2)
    refine ⟨⟨⟨dx2, ht2⟩, hp5, ⟨[], hv5, List.nodup_nil, fun k m => by cases m⟩, hne2⟩, ?_, ?_, .inr rfl, ⟨List.Pairwise.nil, fun e m => by cases m⟩, fun e m => (by cases m), Nat.le_trans (named_len _ _) (by decide)⟩
    · refine ⟨by simp, fun kv m => ?_⟩
      rw [List.mem_singleton.mp m]
      exact ⟨.leaf [], okp, named_mem _ _, rfl, pg2.keep (f3.trans f5).tk⟩
    · refine has_leaf (es := []) ?_
      unfold In
      rw [valV_pos rfl]
      rfl
/-! ### draw -/
def spDraw (K : PySem.W.Frag) : Sp := fun vs H Q _ => ∃ a, ∃ ns : List Int, ∃ k : Nat, vs = [.ref a, .int (k : Nat)] ∧ SqL K H a (ns.map V.int) ∧ ns.length ≤ 63 ∧ (∀ z ∈ ns, Builtin.Int.intBits z ≤ 1048576) ∧ k ≤ 1000 ∧ ∀ i : Int, 0 ≤ i → i < 2147483648 → Q (.int i) H
theorem scDraw : FnScope ["script", "k", "cell", "turn", "step"] ["script", "k"] (defScope sDraw) := ⟨rfl, rfl, rfl, by decide +kernel, rfl, by decide +kernel, by decide +kernel⟩
theorem ok_draw {f : Addr} {fd : FuncData} (F : Fun K "_law_draw" "_law_draw" sDraw f fd) (B : Bn mg) : Fg P w K mg base CX0 1 f fd ["script", "k"] (spDraw K) := by
  refine okG F scDraw (fun vs H Q E h => ?_) (fun cdv A outer s H vs Q E hr h => ?_)
  · obtain ⟨a, ns, k, rfl, _⟩ := h
    rfl
  · obtain ⟨a, ns, k, rfl, hs, hn, hb, hk, q⟩ := h
    have nd := scDraw.nd
    refine ⟨_, pss_cons (ps_if (pt_not (pt_truth (pv 0) (by intro _; rfl))) (pss_one (ps_ret (pe_op op_mod (pe_op op_mul (pv 1) pe_int) pe_int))) pss_nil)
      (pss_cons (ps_set (i := 2) nd rfl (.inl rfl) (pe_callTy call_int1 (by rfl) B.int boot_int (pa_cons (pe_ix ix_list (pv 0) (pe_op op_mod (pv 1) (pe_callB (r := fun xs H Q => ∃ p ys, xs = [.ref p] ∧ (SqL K H p ys ∨ SqT K H p ys) ∧ Q (.int ys.length) H) call_len_seq (by rfl) B.len boot_len (pa_cons (pv 0) pa_nil))) (fun _ _ => rfl)) pa_nil)))
      (pss_cons (ps_set (i := 3) nd rfl (.inl rfl) (pe_op op_fdiv (pv 1) (pe_callB call_len_seq (by rfl) B.len boot_len (pa_cons (pv 0) pa_nil))))
      (pss_cons (ps_if (pt_cmpR op_ge (pv 2) pe_int (nomark _))
        (pss_cons (ps_for PassesOwn.never rfl (pi_range1 (by rfl) B.range (pa_cons (pe_callB (call_min2 rfl) (by rfl) B.min boot_min (pa_cons (pv 3) (pa_cons pe_int pa_nil))) pa_nil)) (pg_name (i := 4) nd rfl (.inl rfl)) (pss_one (ps_set (i := 2) nd rfl (.inl rfl) (pe_op op_fdiv (pv 2) pe_int))))
        (pss_one (ps_ret (pe_op op_mod (pv 2) pe_int)))) pss_nil)
      (pss_one (ps_ret (pe_op op_mod (pe_op op_mul (pe_op op_mod (pe_op op_add (pe_op op_add (pe_op op_mulB (pv 2) pe_int) (pe_op op_mul (pv 1) pe_int)) pe_int) pe_int) pe_int) pe_int)))))), ?_⟩
    refine ⟨_, rfl, _, .inl ⟨_, hs, rfl⟩, ?_⟩
    cases ns with
    | nil =>
      refine iteT ?_
      refine ⟨_, rfl, _, _, rfl, rfl, .inl ⟨?_, ?_⟩, _, _, rfl, rfl, (by show (0 : Int) < 7; decide), q _ ?_ ?_⟩
      · have : (-(2 ^ 64) : Int) = -18446744073709551616 := by decide
        omega
      · have : ((2 ^ 64) : Int) = 18446744073709551616 := by decide
        omega
      · exact Int.emod_nonneg _ (by decide)
      · exact Int.lt_trans (Int.emod_lt_of_pos _ (by decide)) (by decide)
    | cons z0 zr =>
      refine iteF ?_
      have hpos : 0 < (z0 :: zr).length := Nat.succ_pos _
      generalize hns : z0 :: zr = ns at hs hn hb hpos
      have el : (ns.map V.int).length = ns.length := List.length_map ..
      have hml : k % ns.length < ns.length := Nat.mod_lt _ hpos
      obtain ⟨z, hz⟩ : ∃ z, ns[k % ns.length]? = some z := ⟨_, List.getElem?_eq_getElem hml⟩
      have hzb := hb z (List.mem_of_getElem? hz)
      have ei : (k : Int) % (((ns.map V.int).length : Nat) : Int) = ((k % ns.length : Nat) : Int) := by rw [el]; exact (Int.natCast_emod _ _).symm
      have ed : (k : Int) / (((ns.map V.int).length : Nat) : Int) = ((k / ns.length : Nat) : Int) := by rw [el]; exact (Int.natCast_ediv _ _).symm
      have hlp : (0 : Int) < (((ns.map V.int).length : Nat) : Int) := by rw [el]; omega
      have hls : (((ns.map V.int).length : Nat) : Int) < 1073741824 := by rw [el]; omega
      have hget : atI (ns.map V.int) ((k : Int) % (((ns.map V.int).length : Nat) : Int)) = some (.int z) := by
        rw [ei]
        exact atI_nat (by rw [List.getElem?_map, hz]; rfl)
      refine ⟨_, rfl, _, rfl, _, rfl, a, _, rfl, .inl hs, _, _, rfl, rfl, hlp, a, _, _, .int z, rfl, rfl, hs, hget, .inl ⟨z, rfl, ?_⟩⟩
      refine ⟨_, rfl, _, rfl, a, _, rfl, .inl hs, _, _, rfl, rfl, ⟨hlp, hls⟩, ?_⟩
      dsimp only
      rw [ed]
      refine ⟨_, rfl, _, _, rfl, rfl, _, rfl, ?_⟩
      have hkd : k / ns.length ≤ 1000 := Nat.le_trans (Nat.div_le_self _ _) hk
      generalize k / ns.length = qd at hkd
      refine ite2 (fun hc => ?_) (fun hc => ?_)
      · refine ⟨_, rfl, _, _, rfl, _, rfl, ?_, ?_, for_range (fun i σ H2 => H2 = H ∧ ∃ c v4, σ = [some (.ref a), some (.int (k : Nat)), some (.int c), some (.int (qd : Nat)), v4]) ⟨rfl, z, none, rfl⟩ ?_ ?_⟩
        · split <;> omega
        · split <;> omega
        · rintro i σ H2 hi ⟨rfl, c, v4, rfl⟩
          exact ⟨_, rfl, _, _, rfl, rfl, ⟨by decide, by decide⟩, rfl, _, some (.int (0 + i)), rfl⟩
        · rintro σ H2 ⟨rfl, c, v4, rfl⟩
          exact ⟨_, rfl, _, _, rfl, rfl, (by show (0 : Int) < 100003; decide), q _ (Int.emod_nonneg _ (by decide)) (Int.lt_trans (Int.emod_lt_of_pos _ (by decide)) (by decide))⟩
      · refine ⟨_, rfl, _, _, rfl, rfl, ⟨Nat.le_trans hzb (by decide), by decide⟩, _, rfl, _, _, rfl, rfl, .inl ⟨?_, ?_⟩, _, _, rfl, rfl, _, _, rfl, rfl, _, _, rfl, rfl, (by show (0 : Int) < 2147483647; decide), _, _, rfl, rfl, .inl ⟨?_, ?_⟩, _, _, rfl, rfl, (by show (0 : Int) < 2147483629; decide), q _ (Int.emod_nonneg _ (by decide)) (Int.lt_trans (Int.emod_lt_of_pos _ (by decide)) (by decide))⟩
        · have : (-(2 ^ 64) : Int) = -18446744073709551616 := by decide
          omega
        · have : ((2 ^ 64) : Int) = 18446744073709551616 := by decide
          omega
        · exact Int.lt_of_lt_of_le (show (-(2 ^ 64) : Int) < 0 by decide) (Int.emod_nonneg _ (by decide))
        · exact Int.lt_trans (Int.emod_lt_of_pos _ (by decide)) (by decide)
end
end G

/-! The law's pool, values, picks, pairs, cut. -/
namespace G
open PySem PySem.Spec PyProof.Rows L2
/-! ### the pool, plain -/
def m3 : Nat → Str
  | 0 => ""
  | 1 => "m"
  | _ => "z"
def signs : List Str := ["", " ", "a", "a ", "ab", "b", "~"]
def pl1 : List LKey := [[.inl 0, .inr "a"], [.inl 0, .inr "ab"], [.inl 0, .inr "b"]]
def kf1 (k : Nat) : LKey := [.inl 1, .inr "a", .inl ((k : Int) - 9)]
def kf2 (s : Str) : LKey := [.inl 1, .inr "a", .inr s]
def kf3 (k : Nat) : LKey := [.inl 1, .inr "ab", .inl ((k : Int) / 3), .inr (m3 (k % 3))]
def kf4 (k : Nat) : LKey := [.inl 1, .inr "b", .inl ((k : Int) * 100000000000000000000)]
def kf5 (k : Nat) : LKey := [.inl 2, .inl (1000 + 7 * (k : Int))]
def kf6 (k : Nat) : LKey := [.inl 3, .inl (k : Int)]
def poolL : List LKey := ((((pl1 ++ (List.range 18).map kf1) ++ signs.map kf2) ++ (List.range 18).map kf3) ++ ((List.range 6).map kf4) ++ (List.range 14).map kf5) ++ (List.range 10).map kf6
def skB : List LKey → Bool
  | [] => true
  | a :: r => r.all (fun b => klt a b) && skB r
theorem skB_ok : ∀ {l : List LKey}, skB l = true → Sk l
  | [], _ => List.Pairwise.nil
  | a :: r, h => by
    rw [skB, Bool.and_eq_true] at h
    exact List.pairwise_cons.mpr ⟨fun b m => List.all_eq_true.mp h.1 b m, skB_ok h.2⟩
def okKeyB (k : LKey) : Bool := okK k && (!k.isEmpty && (decide (k.length ≤ 1000) && (nice (keyD k) && decide (wd (keyD k) ≤ 100))))
theorem okKeyB_ok {k : LKey} (h : okKeyB k = true) : okKey k := by
  unfold okKeyB at h
  simp only [Bool.and_eq_true, decide_eq_true_eq] at h
  obtain ⟨h1, h2, h3, h4, h5⟩ := h
  exact ⟨h1, fun z => (by rw [z] at h2; cases h2), h3, h4, h5⟩
theorem pool_ok : PLok poolL := ⟨skB_ok (by decide +kernel), fun k m => okKeyB_ok (List.all_eq_true.mp (show poolL.all okKeyB = true by decide +kernel) k m), by decide +kernel⟩
theorem pool_len : poolL.length = 76 := by decide +kernel
section
variable {P : Program} {w : World} {K : PySem.W.Frag} {mg : Str → Option Value} {base : Heap} {CR CT : Addr}
/-- one more key in a comprehension's list -/
theorem key_turn {Hs H' : Hp} {D p : Addr} {acc : List V} {ks : List LKey} {k : LKey} {vs : List V} (fr : Fq D0 Hs H') (hD : Hs D = none) (hacc : H' D = some (.lst acc)) (hp : Paired (KeyAt H') acc ks) (hp0 : H' p = none) (hv : vs = k.map kV) (hl : acc.length ≤ 1000) {ks' : List LKey} {j : Nat} (e1 : ks ++ [k] = ks') (e2 : acc.length + 1 = j) :
    ∃ acc1, (upd H' p (.tup vs)) D = some (.lst acc1) ∧ acc1.length < sizeLine ∧ ∃ acc', Fq D0 Hs (upd (upd H' p (.tup vs)) D (.lst (acc1 ++ [.ref p]))) ∧ (upd (upd H' p (.tup vs)) D (.lst (acc1 ++ [.ref p]))) D = some (.lst acc') ∧ acc'.length = j ∧ Paired (KeyAt (upd (upd H' p (.tup vs)) D (.lst (acc1 ++ [.ref p])))) acc' ks' := by
  subst e1 e2
  have f1 : Fq D0 H' (upd H' p (.tup vs)) := Fq.new hp0
  have h1 := f1.toL hacc
  have t2 : Tk (upd H' p (.tup vs)) (upd (upd H' p (.tup vs)) D (.lst (acc ++ [.ref p]))) := (Fr.put (S := S1 D) h1 (fun z => z) rfl).tup
  refine ⟨acc, h1, small1000' hl, acc ++ [.ref p], (fr.trans f1).own hD, upd_same, by rw [List.length_append]; rfl, paired_snoc ⟨p, rfl, ?_⟩ (Paired.mapP hp fun _ _ h => (h.keep f1.tk).keep t2)⟩
  rw [← hv]
  exact t2 p _ upd_same trivial
def spPool : Sp := fun vs H Q _ => vs = [] ∧ ∀ H' p xs, Fq D0 H H' → H p = none → H' p = some (.lst xs) → Paired (KeyAt H') xs poolL → Q (.ref p) H'
theorem scPool : FnScope ["keys", "k", "sign"] [] (defScope sPool) := ⟨rfl, rfl, rfl, by decide +kernel, rfl, by decide +kernel, by decide +kernel⟩
theorem m3_get {l : Addr} {H : Hp} {i : Nat} (h : H l = some (.lst [.str "", .str "m", .str "z"])) : ∃ v, atI [V.str "", V.str "m", V.str "z"] (((0 : Int) + (i : Nat)) % 3) = some v ∧ v = V.str (m3 (i % 3)) := by
  have e : ((0 : Int) + (i : Nat)) % 3 = ((i % 3 : Nat) : Int) := by omega
  rw [e]
  have h3 : i % 3 < 3 := Nat.mod_lt _ (by decide)
  generalize i % 3 = r at h3
  refine ⟨V.str (m3 r), atI_nat ?_, rfl⟩
  have : r = 0 ∨ r = 1 ∨ r = 2 := by omega
  rcases this with rfl | rfl | rfl <;> rfl
theorem ok_pool {f : Addr} {fd : FuncData} (F : Fun K "_law_pool" "_law_pool" sPool f fd) (B : Bn mg) : Fg P w K mg base CX0 1 f fd [] spPool := by
  refine okG F scPool (fun vs H Q E h => ?_) (fun cdv A outer s H vs Q E hr h => ?_)
  · obtain ⟨rfl, _⟩ := h
    rfl
  · obtain ⟨rfl, q⟩ := h
    have nd := scPool.nd
    refine ⟨_, pss_cons (ps_set (i := 0) nd rfl (.inl rfl) (pe_op op_cat (pe_lst (pa_cons (pe_tup (pa_cons pe_int (pa_cons pe_str pa_nil))) (pa_cons (pe_tup (pa_cons pe_int (pa_cons pe_str pa_nil))) (pa_cons (pe_tup (pa_cons pe_int (pa_cons pe_str pa_nil))) pa_nil))))
        (pe_lc (own := [("k", 1)]) (g := gName 1) (tt := tYes) rfl nd (pi_range1 (by rfl) B.range (pa_cons pe_int pa_nil)) (blkOk_by (N := ["keys", "k", "sign"]) (sc := defScope sPool) (by decide +kernel)) (fun _ _ _ _ _ => pg_name (i := 1) nd rfl (Or.inl rfl)) (fun _ _ _ _ _ => pts_nil)
          (fun _ _ _ _ _ => pe_tup (pa_cons pe_int (pa_cons pe_str (pa_cons (pe_op op_sub (pv 1) pe_int) pa_nil)))))))
      (pss_cons (ps_set (i := 0) nd rfl (.inl rfl) (pe_op op_cat (pv 0) (pe_lc (own := [("sign", 2)]) (g := gName 2) (tt := tYes) rfl nd (pi_list (pe_lst (pa_cons pe_str (pa_cons pe_str (pa_cons pe_str (pa_cons pe_str (pa_cons pe_str (pa_cons pe_str (pa_cons pe_str pa_nil)))))))))
          (blkOk_by (N := ["keys", "k", "sign"]) (sc := defScope sPool) (by decide +kernel)) (fun _ _ _ _ _ => pg_name (i := 2) nd rfl (Or.inl rfl)) (fun _ _ _ _ _ => pts_nil) (fun _ _ _ _ _ => pe_tup (pa_cons pe_int (pa_cons pe_str (pa_cons (pv 2) pa_nil)))))))
      (pss_cons (ps_set (i := 0) nd rfl (.inl rfl) (pe_op op_cat (pv 0) (pe_lc (own := [("k", 1)]) (g := gName 1) (tt := tYes) rfl nd (pi_range1 (by rfl) B.range (pa_cons pe_int pa_nil)) (blkOk_by (N := ["keys", "k", "sign"]) (sc := defScope sPool) (by decide +kernel)) (fun _ _ _ _ _ => pg_name (i := 1) nd rfl (Or.inl rfl)) (fun _ _ _ _ _ => pts_nil)
          (fun _ _ _ _ _ => pe_tup (pa_cons pe_int (pa_cons pe_str (pa_cons (pe_op op_fdiv (pv 1) pe_int) (pa_cons (pe_ix (r := rIxL K) ix_list (pe_lst (pa_cons pe_str (pa_cons pe_str (pa_cons pe_str pa_nil)))) (pe_op op_mod (pv 1) pe_int) (fun _ _ => rfl)) pa_nil))))))))
      (pss_cons (ps_set (i := 0) nd rfl (.inl rfl) (pe_op op_cat (pe_op op_cat (pv 0) (pe_lc (own := [("k", 1)]) (g := gName 1) (tt := tYes) rfl nd (pi_range1 (by rfl) B.range (pa_cons pe_int pa_nil)) (blkOk_by (N := ["keys", "k", "sign"]) (sc := defScope sPool) (by decide +kernel)) (fun _ _ _ _ _ => pg_name (i := 1) nd rfl (Or.inl rfl)) (fun _ _ _ _ _ => pts_nil)
          (fun _ _ _ _ _ => pe_tup (pa_cons pe_int (pa_cons pe_str (pa_cons (pe_op op_mul (pv 1) (pe_op op_pow pe_int pe_int)) pa_nil))))))
          (pe_lc (own := [("k", 1)]) (g := gName 1) (tt := tYes) rfl nd (pi_range1 (by rfl) B.range (pa_cons pe_int pa_nil)) (blkOk_by (N := ["keys", "k", "sign"]) (sc := defScope sPool) (by decide +kernel)) (fun _ _ _ _ _ => pg_name (i := 1) nd rfl (Or.inl rfl)) (fun _ _ _ _ _ => pts_nil)
          (fun _ _ _ _ _ => pe_tup (pa_cons pe_int (pa_cons (pe_op op_add pe_int (pe_op op_mul pe_int (pv 1))) pa_nil))))))
      (pss_one (ps_ret (pe_op op_cat (pv 0) (pe_lc (own := [("k", 1)]) (g := gName 1) (tt := tYes) rfl nd (pi_range1 (by rfl) B.range (pa_cons pe_int pa_nil)) (blkOk_by (N := ["keys", "k", "sign"]) (sc := defScope sPool) (by decide +kernel)) (fun _ _ _ _ _ => pg_name (i := 1) nd rfl (Or.inl rfl)) (fun _ _ _ _ _ => pts_nil)
          (fun _ _ _ _ _ => pe_tup (pa_cons pe_int (pa_cons (pv 1) pa_nil)))))))))), ?_⟩
    refine ⟨by show 2 ≤ sizeLine; decide, fun p1 hp1 => ⟨by show 2 ≤ sizeLine; decide, fun p2 hp2 => ⟨by show 2 ≤ sizeLine; decide, fun p3 hp3 => ⟨by show 3 ≤ sizeLine; decide, fun l0 hl0 => ?_⟩⟩⟩⟩
    have f3 : Fq D0 H (upd (upd (upd H p1 (.tup [.int 0, .str "a"])) p2 (.tup [.int 0, .str "ab"])) p3 (.tup [.int 0, .str "b"])) := ((Fq.new hp1).snoc hp2).snoc hp3
    generalize hH3 : upd (upd (upd H p1 (.tup [.int 0, .str "a"])) p2 (.tup [.int 0, .str "ab"])) p3 (.tup [.int 0, .str "b"]) = H3 at f3 hl0
    have k1 : H3 p1 = some (.tup [.int 0, .str "a"]) := by
      rw [← hH3]
      have a1 : (upd H p1 (.tup [.int 0, .str "a"])) p1 = some (.tup [.int 0, .str "a"]) := upd_same
      have a2 : (upd (upd H p1 (.tup [.int 0, .str "a"])) p2 (.tup [.int 0, .str "ab"])) p1 = some (.tup [.int 0, .str "a"]) := by rw [upd_ne (ne_of_none a1 hp2)]; exact a1
      rw [upd_ne (ne_of_none a2 hp3)]
      exact a2
    have k2 : H3 p2 = some (.tup [.int 0, .str "ab"]) := by
      rw [← hH3]
      have a1 : (upd (upd H p1 (.tup [.int 0, .str "a"])) p2 (.tup [.int 0, .str "ab"])) p2 = some (.tup [.int 0, .str "ab"]) := upd_same
      rw [upd_ne (ne_of_none a1 hp3)]
      exact a1
    have k3 : H3 p3 = some (.tup [.int 0, .str "b"]) := by rw [← hH3]; exact upd_same
    have fl : Fq D0 H3 (upd H3 l0 (.lst [.ref p1, .ref p2, .ref p3])) := Fq.new hl0
    have hp30 : Paired (KeyAt (upd H3 l0 (.lst [.ref p1, .ref p2, .ref p3]))) [.ref p1, .ref p2, .ref p3] pl1 := .cons ⟨p1, rfl, fl.toT k1⟩ (.cons ⟨p2, rfl, fl.toT k2⟩ (.cons ⟨p3, rfl, fl.toT k3⟩ .nil))
    have f4 := f3.trans fl
    have hl1 : (upd H3 l0 (.lst [.ref p1, .ref p2, .ref p3])) l0 = some (.lst [.ref p1, .ref p2, .ref p3]) := upd_same
    generalize upd H3 l0 (.lst [.ref p1, .ref p2, .ref p3]) = H4 at hp30 f4 hl1
    have rs : ∀ (f : Nat → LKey) (i : Nat), (List.range i).map f ++ [f i] = (List.range (i + 1)).map f := fun f i => by rw [List.range_succ, List.map_append]; rfl
    have sz : ∀ {a b : Nat}, a ≤ 1000 → b ≤ 1000 → a + b ≤ sizeLine := fun {a b} h1 h2 => by
      have : sizeLine = 16777216 := by decide
      omega
    -- (1, 'a', k - 9)
    refine ⟨18, rfl, by decide, by decide, fun D hD => lc_range (n := 18) (fun i H' => ∃ acc, Fq D0 H4 H' ∧ H' D = some (.lst acc) ∧ acc.length = i ∧ Paired (KeyAt H') acc ((List.range i).map kf1)) ⟨[], Fq.new hD, upd_same, rfl, .nil⟩ ?_ ?_⟩
    · rintro i H5 hi ⟨acc, fr, hacc, hlen, hp⟩
      exact ⟨rfl, _, rfl, _, _, rfl, rfl, by show 3 ≤ sizeLine; decide, fun p hp0 => key_turn fr hD hacc hp hp0 (by show [V.int 1, V.str "a", V.int ((0 : Int) + (i : Nat) - 9)] = [V.int 1, V.str "a", V.int ((i : Int) - 9)]; rw [Int.zero_add]) (by omega) (rs kf1 i) (by rw [hlen])⟩
    rintro H5 ⟨acc5, f5, hacc5, hlen5, hp5⟩
    have g5 := f4.trans f5
    refine ⟨l0, D, _, _, rfl, rfl, f5.toL hl1, hacc5, sz (by show 3 ≤ 1000; decide) (by omega), fun l1 hl5 => ?_⟩
    have fl5 : Fq D0 H5 (upd H5 l1 (.lst ([.ref p1, .ref p2, .ref p3] ++ acc5))) := Fq.new hl5
    have q5 : Paired (KeyAt (upd H5 l1 (.lst ([.ref p1, .ref p2, .ref p3] ++ acc5)))) ([.ref p1, .ref p2, .ref p3] ++ acc5) (pl1 ++ (List.range 18).map kf1) := paired_app (Paired.mapP hp30 fun _ _ => KeyAt.keep (f5.trans fl5).tk) (Paired.mapP hp5 fun _ _ => KeyAt.keep fl5.tk)
    have g6 := g5.trans fl5
    have hl6 : (upd H5 l1 (.lst ([.ref p1, .ref p2, .ref p3] ++ acc5))) l1 = some (.lst ([.ref p1, .ref p2, .ref p3] ++ acc5)) := upd_same
    generalize hL6 : [V.ref p1, .ref p2, .ref p3] ++ acc5 = L6 at *
    have n6 : L6.length ≤ 1000 := by rw [← hL6, List.length_append]; show 3 + acc5.length ≤ 1000; omega
    generalize upd H5 l1 (.lst L6) = H6 at *
    -- signs
    refine ⟨_, rfl, by show 7 ≤ sizeLine; decide, fun l2 hl2 => ?_⟩
    have fl2 : Fq D0 H6 (upd H6 l2 (.lst [.str "", .str " ", .str "a", .str "a ", .str "ab", .str "b", .str "~"])) := Fq.new hl2
    refine ⟨l2, rfl, ⟨_, .inl (.inl upd_same)⟩, fun D2 hD2 => lc_list (K := K) (a := l2) (xs := [.str "", .str " ", .str "a", .str "a ", .str "ab", .str "b", .str "~"]) (fun i H' => ∃ acc, Fq D0 (upd H6 l2 (.lst [.str "", .str " ", .str "a", .str "a ", .str "ab", .str "b", .str "~"])) H' ∧ H' D2 = some (.lst acc) ∧ acc.length = i ∧ Paired (KeyAt H') acc ((signs.take i).map kf2))
      ⟨[], Fq.new hD2, upd_same, rfl, by rw [List.take_zero]; exact .nil⟩ (fun i H' _ ⟨_, f, _⟩ => .inl (.inl (f.toL upd_same))) ?_ ?_⟩
    · rintro i x H7 hx ⟨acc, fr, hacc, hlen, hp⟩
      obtain ⟨sg, hsg, rfl⟩ : ∃ sg, signs[i]? = some sg ∧ x = V.str sg := by
        have e : [V.str "", .str " ", .str "a", .str "a ", .str "ab", .str "b", .str "~"] = signs.map V.str := rfl
        rw [e, List.getElem?_map] at hx
        cases h : signs[i]? with
        | none => rw [h] at hx; cases hx
        | some sg => rw [h] at hx; cases hx; exact ⟨sg, rfl, rfl⟩
      have hi7 : i < 7 := (List.getElem?_eq_some_iff.mp hsg).1
      exact ⟨rfl, _, rfl, by show 3 ≤ sizeLine; decide, fun p hp0 => key_turn fr hD2 hacc hp hp0 rfl (by omega) (k := kf2 sg) (by rw [List.take_add_one, hsg, List.map_append]; rfl) (by rw [hlen])⟩
    rintro H7 ⟨acc7, f7, hacc7, hlen7, hp7⟩
    have hp7 : Paired (KeyAt H7) acc7 (signs.map kf2) := hp7
    have hlen7 : acc7.length = 7 := hlen7
    have g67 := fl2.trans f7
    refine ⟨l1, D2, L6, acc7, rfl, rfl, g67.toL hl6, hacc7, sz n6 (by omega), fun l3 hl3 => ?_⟩
    have fl7 : Fq D0 H7 (upd H7 l3 (.lst (L6 ++ acc7))) := Fq.new hl3
    have q7 : Paired (KeyAt (upd H7 l3 (.lst (L6 ++ acc7)))) (L6 ++ acc7) ((pl1 ++ (List.range 18).map kf1) ++ signs.map kf2) := paired_app (Paired.mapP q5 fun _ _ => KeyAt.keep (g67.trans fl7).tk) (Paired.mapP hp7 fun _ _ => KeyAt.keep fl7.tk)
    have g8 := g6.trans (g67.trans fl7)
    have hl8 : (upd H7 l3 (.lst (L6 ++ acc7))) l3 = some (.lst (L6 ++ acc7)) := upd_same
    have n8 : (L6 ++ acc7).length ≤ 1000 := by rw [paired_len q7]; decide
    generalize L6 ++ acc7 = L8 at *
    generalize upd H7 l3 (.lst L8) = H8 at *
    -- (1, 'ab', k // 3, ..)
    refine ⟨_, rfl, 18, rfl, by decide, by decide, fun D3 hD3 => lc_range (n := 18) (fun i H' => ∃ acc, Fq D0 H8 H' ∧ H' D3 = some (.lst acc) ∧ acc.length = i ∧ Paired (KeyAt H') acc ((List.range i).map kf3)) ⟨[], Fq.new hD3, upd_same, rfl, .nil⟩ ?_ ?_⟩
    · rintro i H9 hi ⟨acc, fr, hacc, hlen, hp⟩
      refine ⟨rfl, _, rfl, _, _, rfl, rfl, ⟨by decide, by decide⟩, by show 3 ≤ sizeLine; decide, fun lz hlz => ⟨_, rfl, _, _, rfl, rfl, by show (0 : Int) < 3; decide, ?_⟩⟩
      have f9 : Fq D0 H9 (upd H9 lz (.lst [.str "", .str "m", .str "z"])) := Fq.new hlz
      obtain ⟨v, hv, rfl⟩ := m3_get (l := lz) (H := upd H9 lz (.lst [.str "", .str "m", .str "z"])) (i := i) upd_same
      exact ⟨lz, _, _, _, rfl, rfl, .inl (.inl upd_same), hv, by show 4 ≤ sizeLine; decide, fun p hp0 => key_turn (fr.trans f9) hD3 (f9.toL hacc) (Paired.mapP hp fun _ _ => KeyAt.keep f9.tk) hp0 (k := kf3 i) (by show [V.int 1, V.str "ab", V.int (((0 : Int) + (i : Nat)) / 3), V.str (m3 (i % 3))] = [V.int 1, V.str "ab", V.int ((i : Int) / 3), V.str (m3 (i % 3))]; rw [Int.zero_add]) (by omega) (rs kf3 i) (by rw [hlen])⟩
    rintro H9 ⟨acc9, f9, hacc9, hlen9, hp9⟩
    refine ⟨l3, D3, L8, acc9, rfl, rfl, f9.toL hl8, hacc9, sz n8 (by omega), fun l4 hl4 => ?_⟩
    have fl9 : Fq D0 H9 (upd H9 l4 (.lst (L8 ++ acc9))) := Fq.new hl4
    have q9 : Paired (KeyAt (upd H9 l4 (.lst (L8 ++ acc9)))) (L8 ++ acc9) (((pl1 ++ (List.range 18).map kf1) ++ signs.map kf2) ++ (List.range 18).map kf3) := paired_app (Paired.mapP q7 fun _ _ => KeyAt.keep (f9.trans fl9).tk) (Paired.mapP hp9 fun _ _ => KeyAt.keep fl9.tk)
    have g10 := g8.trans (f9.trans fl9)
    have hl10 : (upd H9 l4 (.lst (L8 ++ acc9))) l4 = some (.lst (L8 ++ acc9)) := upd_same
    have n10 : (L8 ++ acc9).length ≤ 1000 := by rw [paired_len q9]; decide
    generalize L8 ++ acc9 = L10 at *
    generalize upd H9 l4 (.lst L10) = H10 at *
    -- (1, 'b', ..)
    refine ⟨_, rfl, 6, rfl, by decide, by decide, fun D4 hD4 => lc_range (n := 6) (fun i H' => ∃ acc, Fq D0 H10 H' ∧ H' D4 = some (.lst acc) ∧ acc.length = i ∧ Paired (KeyAt H') acc ((List.range i).map kf4)) ⟨[], Fq.new hD4, upd_same, rfl, .nil⟩ ?_ ?_⟩
    · rintro i H11 hi ⟨acc, fr, hacc, hlen, hp⟩
      exact ⟨rfl, _, rfl, _, _, rfl, rfl, ⟨by decide, by decide, by decide⟩, _, _, rfl, rfl, .inl ⟨by omega, by omega⟩, by show 3 ≤ sizeLine; decide, fun p hp0 => key_turn fr hD4 hacc hp hp0 (k := kf4 i) (by show [V.int 1, V.str "b", V.int (((0 : Int) + (i : Nat)) * (10 ^ 20))] = [V.int 1, V.str "b", V.int ((i : Int) * 100000000000000000000)]; rw [Int.zero_add]; rfl) (by omega) (rs kf4 i) (by rw [hlen])⟩
    rintro H11 ⟨acc11, f11, hacc11, hlen11, hp11⟩
    refine ⟨l4, D4, L10, acc11, rfl, rfl, f11.toL hl10, hacc11, sz n10 (by omega), fun l5 hl5' => ?_⟩
    have fl11 : Fq D0 H11 (upd H11 l5 (.lst (L10 ++ acc11))) := Fq.new hl5'
    have q11 : Paired (KeyAt (upd H11 l5 (.lst (L10 ++ acc11)))) (L10 ++ acc11) ((((pl1 ++ (List.range 18).map kf1) ++ signs.map kf2) ++ (List.range 18).map kf3) ++ (List.range 6).map kf4) := paired_app (Paired.mapP q9 fun _ _ => KeyAt.keep (f11.trans fl11).tk) (Paired.mapP hp11 fun _ _ => KeyAt.keep fl11.tk)
    have g12 := g10.trans (f11.trans fl11)
    have hl12 : (upd H11 l5 (.lst (L10 ++ acc11))) l5 = some (.lst (L10 ++ acc11)) := upd_same
    have n12 : (L10 ++ acc11).length ≤ 1000 := by rw [paired_len q11]; decide
    generalize L10 ++ acc11 = L12 at *
    generalize upd H11 l5 (.lst L12) = H12 at *
    -- (2, 1000 + 7 * k)
    refine ⟨14, rfl, by decide, by decide, fun D5 hD5 => lc_range (n := 14) (fun i H' => ∃ acc, Fq D0 H12 H' ∧ H' D5 = some (.lst acc) ∧ acc.length = i ∧ Paired (KeyAt H') acc ((List.range i).map kf5)) ⟨[], Fq.new hD5, upd_same, rfl, .nil⟩ ?_ ?_⟩
    · rintro i H13 hi ⟨acc, fr, hacc, hlen, hp⟩
      exact ⟨rfl, _, rfl, _, _, rfl, rfl, .inl ⟨by decide, by decide⟩, _, _, rfl, rfl, by show 2 ≤ sizeLine; decide, fun p hp0 => key_turn fr hD5 hacc hp hp0 (k := kf5 i) (by show [V.int 2, V.int (1000 + 7 * ((0 : Int) + (i : Nat)))] = [V.int 2, V.int (1000 + 7 * (i : Int))]; rw [Int.zero_add]) (by omega) (rs kf5 i) (by rw [hlen])⟩
    rintro H13 ⟨acc13, f13, hacc13, hlen13, hp13⟩
    refine ⟨l5, D5, L12, acc13, rfl, rfl, f13.toL hl12, hacc13, sz n12 (by omega), fun l6 hl6' => ?_⟩
    have fl13 : Fq D0 H13 (upd H13 l6 (.lst (L12 ++ acc13))) := Fq.new hl6'
    have q13 : Paired (KeyAt (upd H13 l6 (.lst (L12 ++ acc13)))) (L12 ++ acc13) (((((pl1 ++ (List.range 18).map kf1) ++ signs.map kf2) ++ (List.range 18).map kf3) ++ (List.range 6).map kf4) ++ (List.range 14).map kf5) := paired_app (Paired.mapP q11 fun _ _ => KeyAt.keep (f13.trans fl13).tk) (Paired.mapP hp13 fun _ _ => KeyAt.keep fl13.tk)
    have g14 := g12.trans (f13.trans fl13)
    have hl14 : (upd H13 l6 (.lst (L12 ++ acc13))) l6 = some (.lst (L12 ++ acc13)) := upd_same
    have n14 : (L12 ++ acc13).length ≤ 1000 := by rw [paired_len q13]; decide
    generalize L12 ++ acc13 = L14 at *
    generalize upd H13 l6 (.lst L14) = H14 at *
    -- (3, k)
    refine ⟨_, rfl, 10, rfl, by decide, by decide, fun D6 hD6 => lc_range (n := 10) (fun i H' => ∃ acc, Fq D0 H14 H' ∧ H' D6 = some (.lst acc) ∧ acc.length = i ∧ Paired (KeyAt H') acc ((List.range i).map kf6)) ⟨[], Fq.new hD6, upd_same, rfl, .nil⟩ ?_ ?_⟩
    · rintro i H15 hi ⟨acc, fr, hacc, hlen, hp⟩
      exact ⟨rfl, _, rfl, by show 2 ≤ sizeLine; decide, fun p hp0 => key_turn fr hD6 hacc hp hp0 (k := kf6 i) (by show [V.int 3, V.int ((0 : Int) + (i : Nat))] = [V.int 3, V.int (i : Int)]; rw [Int.zero_add]) (by omega) (rs kf6 i) (by rw [hlen])⟩
    rintro H15 ⟨acc15, f15, hacc15, hlen15, hp15⟩
    refine ⟨l6, D6, L14, acc15, rfl, rfl, f15.toL hl14, hacc15, sz n14 (by omega), fun l7 hl7 => ?_⟩
    have fl15 : Fq D0 H15 (upd H15 l7 (.lst (L14 ++ acc15))) := Fq.new hl7
    exact q _ l7 _ (g14.trans (f15.trans fl15)) ((g14.trans f15).toN hl7 fun z => z) upd_same (paired_app (Paired.mapP q13 fun _ _ => KeyAt.keep (f15.trans fl15).tk) (Paired.mapP hp15 fun _ _ => KeyAt.keep fl15.tk))
end
end G

/-! The law's values, picks, pairs, cut, first. -/
namespace G
open PySem PySem.Spec PyProof.Rows L2
section
variable {P : Program} {w : World} {K : PySem.W.Frag} {mg : Str → Option Value} {base : Heap} {CR CT : Addr}
/-! ### value -/
def spValue : Sp := fun vs H Q _ => ∃ n : Nat, vs = [.int (n : Nat)] ∧ n ≤ 1000000 ∧ ∀ H' v d, Fq D0 H H' → Td H' v d → okVal d → d ≠ .none → Q v H'
theorem scValue : FnScope ["number", "values"] ["number"] (defScope sValue) := ⟨rfl, rfl, rfl, by decide +kernel, rfl, by decide +kernel, by decide +kernel⟩
theorem okVal_int {i : Int} (h : i.natAbs < 10 ^ 21) : okVal (.int i) := ⟨by rw [nice]; exact decide_eq_true h, by rw [wd]; decide, by rw [PyData.depth]; decide⟩
theorem okVal_bool (b : Bool) : okVal (.bool b) := ⟨by rw [nice], by rw [wd]; decide, by rw [PyData.depth]; decide⟩
theorem okVal_unit : okVal (.tuple []) := ⟨by rw [nice, niceAll], by rw [wd, wdAll]; decide, by rw [PyData.depth, PyData.depthAll]; decide⟩
theorem str0 : nice (.str "") = true ∧ wd (.str "") = 2 := by decide +kernel
theorem strt : nice (.str "t") = true ∧ wd (.str "t") = 3 := by decide +kernel
theorem strx : nice (.str "x") = true ∧ wd (.str "x") = 3 := by decide +kernel
theorem okVal_pair {n : Nat} (h : n ≤ 1000000) : okVal (.tuple [.int (n : Nat), .str "x"]) := by
  obtain ⟨a, b⟩ := two_ok (d := .int (n : Nat)) (e := .str "x") (by rw [nice]; exact decide_eq_true (by rw [Int.natAbs_natCast]; exact Nat.lt_of_le_of_lt h (by decide))) strx.1
  refine ⟨a, ?_, Nat.le_trans (depth_two (b := 0) (by rw [PyData.depth]; decide) (by rw [PyData.depth]; decide)) (by decide)⟩
  rw [b, strx.2, wd]
  decide
theorem ok_value {f : Addr} {fd : FuncData} (F : Fun K "_law_value" "_law_value" sValue f fd) : Fg P w K mg base CX0 1 f fd ["number"] spValue := by
  refine okG F scValue (fun vs H Q E h => ?_) (fun cdv A outer s H vs Q E hr h => ?_)
  · obtain ⟨n, rfl, _⟩ := h
    rfl
  · obtain ⟨n, rfl, hn, q⟩ := h
    have nd := scValue.nd
    refine ⟨_, pss_cons (ps_set (i := 1) nd rfl (.inl rfl) (pe_lst (pa_cons (pe_tup pa_nil) (pa_cons pe_int (pa_cons pe_str (pa_cons pe_bl (pa_cons (pe_tup (pa_cons (pv 0) (pa_cons pe_str pa_nil))) (pa_cons (pe_op op_sub (pv 0) pe_int) (pa_cons pe_bl (pa_cons pe_str pa_nil))))))))))
      (pss_one (ps_ret (pe_ix ix_list (pv 1) (pe_op op_mod (pv 0) pe_int) (fun _ _ => rfl)))), ?_⟩
    refine ⟨Nat.zero_le _, fun p1 hp1 => ⟨_, rfl, by show 2 ≤ sizeLine; decide, fun p2 hp2 => ⟨_, rfl, _, _, rfl, rfl, by show 8 ≤ sizeLine; decide, fun l hl => ?_⟩⟩⟩
    have e : (n : Int) % 8 = ((n % 8 : Nat) : Int) := by omega
    have h8 : n % 8 < 8 := Nat.mod_lt _ (by decide)
    generalize hr8 : n % 8 = r at h8 e
    have f1 : Fq D0 H (upd (upd (upd H p1 (.tup [])) p2 (.tup [.int (n : Nat), .str "x"])) l (.lst [.ref p1, .int 0, .str "", .bl false, .ref p2, .int ((n : Int) - 40), .bl true, .str "t"])) := ((Fq.new hp1).snoc hp2).snoc hl
    have a1 : (upd (upd H p1 (.tup [])) p2 (.tup [.int (n : Nat), .str "x"])) p1 = some (.tup []) := by rw [upd_ne (ne_of_none (H := upd H p1 (.tup [])) upd_same hp2)]; exact upd_same
    have a2 : (upd (upd (upd H p1 (.tup [])) p2 (.tup [.int (n : Nat), .str "x"])) l (.lst [.ref p1, .int 0, .str "", .bl false, .ref p2, .int ((n : Int) - 40), .bl true, .str "t"])) p1 = some (.tup []) := by rw [upd_ne (ne_of_none a1 hl)]; exact a1
    have b1 : (upd (upd H p1 (.tup [])) p2 (.tup [.int (n : Nat), .str "x"])) p2 = some (.tup [.int (n : Nat), .str "x"]) := upd_same
    have b2 : (upd (upd (upd H p1 (.tup [])) p2 (.tup [.int (n : Nat), .str "x"])) l (.lst [.ref p1, .int 0, .str "", .bl false, .ref p2, .int ((n : Int) - 40), .bl true, .str "t"])) p2 = some (.tup [.int (n : Nat), .str "x"]) := by rw [upd_ne (ne_of_none b1 hl)]; exact b1
    have fin : ∃ v d, [V.ref p1, .int 0, .str "", .bl false, .ref p2, .int ((n : Int) - 40), .bl true, .str "t"][r]? = some v ∧ Td (upd (upd (upd H p1 (.tup [])) p2 (.tup [.int (n : Nat), .str "x"])) l (.lst [.ref p1, .int 0, .str "", .bl false, .ref p2, .int ((n : Int) - 40), .bl true, .str "t"])) v d ∧ okVal d ∧ d ≠ .none := by
      have : r = 0 ∨ r = 1 ∨ r = 2 ∨ r = 3 ∨ r = 4 ∨ r = 5 ∨ r = 6 ∨ r = 7 := by omega
      rcases this with rfl | rfl | rfl | rfl | rfl | rfl | rfl | rfl
      · exact ⟨_, .tuple [], rfl, Td.tup'.mpr ⟨p1, [], rfl, .of a2, TdAll.nil'.mpr rfl⟩, okVal_unit, by intro z; cases z⟩
      · exact ⟨_, .int 0, rfl, Td.int'.mpr rfl, okVal_int (by decide), by intro z; cases z⟩
      · exact ⟨_, .str "", rfl, Td.str'.mpr rfl, ⟨str0.1, by rw [str0.2]; decide, by rw [PyData.depth]; decide⟩, by intro z; cases z⟩
      · exact ⟨_, .bool false, rfl, Td.bool'.mpr rfl, okVal_bool _, by intro z; cases z⟩
      · exact ⟨_, .tuple [.int (n : Nat), .str "x"], rfl, Td.mk2 (.of b2) (Td.int'.mpr rfl) (Td.str'.mpr rfl), okVal_pair hn, by intro z; cases z⟩
      · exact ⟨_, .int ((n : Int) - 40), rfl, Td.int'.mpr rfl, okVal_int (by omega), by intro z; cases z⟩
      · exact ⟨_, .bool true, rfl, Td.bool'.mpr rfl, okVal_bool _, by intro z; cases z⟩
      · exact ⟨_, .str "t", rfl, Td.str'.mpr rfl, ⟨strt.1, by rw [strt.2]; decide, by rw [PyData.depth]; decide⟩, by intro z; cases z⟩
    obtain ⟨v, d, e1, e2, e3, e4⟩ := fin
    refine ⟨_, rfl, _, rfl, _, _, rfl, rfl, by show (0 : Int) < 8; decide, l, _, _, v, rfl, rfl, .inl (.inl upd_same), ?_, q _ v d f1 e2 e3 e4⟩
    show atI _ ((n : Int) % 8) = _
    rw [e]
    exact atI_nat e1
/-! ### picks -/
def PickAt (H : Hp) (x : V) (p : Nat × PyData) : Prop := ∃ a w, x = .ref a ∧ TupAt H a [.int (p.1 : Nat), w] ∧ Td H w p.2
theorem PickAt.keep {H H' : Hp} (k : Tk H H') {x : V} {p : Nat × PyData} (h : PickAt H x p) : PickAt H' x p := let ⟨a, w, h1, h2, h3⟩ := h; ⟨a, w, h1, h2.keep k, Td.keep k _ _ h3⟩
structure PickOk (many : Nat) (pk : List (Nat × PyData)) : Prop where
  up : pk.Pairwise fun a b => a.1 < b.1
  lt : ∀ p ∈ pk, p.1 < many
  ok : ∀ p ∈ pk, okVal p.2
def spPicks (K : PySem.W.Frag) : Sp := fun vs H Q _ => ∃ a, ∃ ns : List Int, ∃ st many : Nat, vs = [.ref a, .int (st : Nat), .int (many : Nat)] ∧ SqL K H a (ns.map V.int) ∧ ns.length ≤ 63 ∧ (∀ z ∈ ns, Builtin.Int.intBits z ≤ 1048576) ∧ st ≤ 900 ∧ many ≤ 900 ∧
  ∀ H' p xs pk, Fq D0 H H' → H p = none → H' p = some (.lst xs) → Paired (PickAt H') xs pk → PickOk many pk → Q (.ref p) H'
theorem scPicks : FnScope ["script", "start", "many", "step", "shift", "share", "gone", "picks", "index", "number"] ["script", "start", "many"] (defScope sPicks) := ⟨rfl, rfl, rfl, by decide +kernel, rfl, by decide +kernel, by decide +kernel⟩
theorem ok_picks {f fw fv : Addr} {fd fdw fdv : FuncData} (F : Fun K "_law_picks" "_law_picks" sPicks f fd) (B : Bn mg) (W : Use P w K mg base 1 "_law_draw" fw fdw ["script", "k"] (spDraw K)) (Vu : Use P w K mg base 1 "_law_value" fv fdv ["number"] spValue) :
    Fg P w K mg base CX0 2 f fd ["script", "start", "many"] (spPicks K) := by
  refine okG F scPicks (fun vs H Q E h => ?_) (fun cdv A outer s H vs Q E hr h => ?_)
  · obtain ⟨a, ns, st, many, rfl, _⟩ := h
    rfl
  · obtain ⟨a, ns, st, many, rfl, hs, hn, hb, hst, hmany, q⟩ := h
    have nd := scPicks.nd
    refine ⟨_, pss_cons (ps_set (i := 3) nd rfl (.inl rfl) (pe_op op_add pe_int (pe_op op_mod (pu W hr (by decide) (by rfl) (pa_cons (pv 0) (pa_cons (pv 1) pa_nil))) pe_int)))
      (pss_cons (ps_set (i := 4) nd rfl (.inl rfl) (pe_op op_mod (pu W hr (by decide) (by rfl) (pa_cons (pv 0) (pa_cons (pe_op op_add (pv 1) pe_int) pa_nil))) pe_int))
      (pss_cons (ps_set (i := 5) nd rfl (.inl rfl) (pe_ix ix_list (pe_lst (pa_cons pe_int (pa_cons pe_int (pa_cons pe_int (pa_cons pe_int pa_nil))))) (pe_op op_mod (pu W hr (by decide) (by rfl) (pa_cons (pv 0) (pa_cons (pe_op op_add (pv 1) pe_int) pa_nil))) pe_int) (fun _ _ => rfl)))
      (pss_cons (ps_set (i := 6) nd rfl (.inl rfl) (pe_op op_mod (pu W hr (by decide) (by rfl) (pa_cons (pv 0) (pa_cons (pe_op op_add (pv 1) pe_int) pa_nil))) pe_int))
      (pss_cons (ps_set (i := 7) nd rfl (.inl rfl) (pe_lst pa_nil))
      (pss_cons (ps_for PassesOwn.never rfl (pi_range1 (by rfl) B.range (pa_cons (pv 2) pa_nil)) (pg_name (i := 8) nd rfl (.inl rfl))
        (pss_cons (ps_set (i := 9) nd rfl (.inl rfl) (pe_op op_mod (pe_op op_add (pe_op op_add (pe_op op_mul (pe_op op_mul (pv 8) (pv 3)) pe_int) (pe_op op_mul (pe_op op_mul (pv 8) (pv 8)) pe_int)) (pv 4)) pe_int))
        (pss_one (ps_if (pt_cmpR op_lt (pv 9) (pv 5) (nomark _))
          (pss_one (ps_if (PW.pt (pw_and (pt_cmpR op_gt (pv 6) pe_int (nomark _)) (pw_and1 (pt_cmpR op_eq (pe_op op_mod (pe_op op_add (pv 8) (pv 4)) (pv 6)) pe_int (nomark _)))))
            (pss_one (ps_expr (pe_bm PySem.F.plainAttrs_list PySem.F.slot_list_append PySem.F.type_list_append mt_append (pv 7) (pa_cons (pe_tup (pa_cons (pv 8) (pa_cons pe_non pa_nil))) pa_nil))))
            (pss_one (ps_expr (pe_bm PySem.F.plainAttrs_list PySem.F.slot_list_append PySem.F.type_list_append mt_append (pv 7) (pa_cons (pe_tup (pa_cons (pv 8) (pa_cons (pu Vu hr (by decide) (by rfl) (pa_cons (pe_op op_add (pv 9) (pv 4)) pa_nil)) pa_nil))) pa_nil))))))
          pss_nil))))
      (pss_one (ps_ret (pv 7)))))))), ?_⟩
    have nn : ∀ {i m : Int}, 0 < m → 0 ≤ i % m ∧ i % m < m := fun {i m} h => ⟨Int.emod_nonneg _ (by omega), Int.emod_lt_of_pos _ h⟩
    -- step
    refine ⟨_, rfl, _, rfl, a, ns, st, rfl, hs, hn, hb, by omega, fun i1 h1 h1' => ⟨_, _, rfl, rfl, by show (0 : Int) < 60; decide, _, _, rfl, rfl, ?_⟩⟩
    obtain ⟨s1, s1'⟩ := nn (i := i1) (m := 60) (by decide)
    -- shift
    refine ⟨_, rfl, _, rfl, _, _, rfl, rfl, a, ns, st + 1, rfl, hs, hn, hb, by omega, fun i2 h2 h2' => ⟨_, _, rfl, rfl, by show (0 : Int) < 977; decide, ?_⟩⟩
    obtain ⟨s2, s2'⟩ := nn (i := i2) (m := 977) (by decide)
    -- share
    refine ⟨by show 4 ≤ sizeLine; decide, fun l hl => ?_⟩
    have fl : Fq D0 H (upd H l (.lst [.int 4, .int 25, .int 60, .int 97])) := Fq.new hl
    refine ⟨_, rfl, _, rfl, _, _, rfl, rfl, a, ns, st + 2, rfl, fl.seqL hs, hn, hb, by omega, fun i3 h3 h3' => ⟨_, _, rfl, rfl, by show (0 : Int) < 4; decide, ?_⟩⟩
    obtain ⟨s3, s3'⟩ := nn (i := i3) (m := 4) (by decide)
    obtain ⟨r3, hr3⟩ := Int.eq_ofNat_of_zero_le s3
    have hshare : ∃ z : Int, [V.int 4, V.int 25, V.int 60, V.int 97][r3]? = some (.int z) := by
      have : r3 = 0 ∨ r3 = 1 ∨ r3 = 2 ∨ r3 = 3 := by omega
      rcases this with rfl | rfl | rfl | rfl <;> exact ⟨_, rfl⟩
    obtain ⟨z3, hz3⟩ := hshare
    refine ⟨l, _, _, .int z3, rfl, rfl, .inl (.inl upd_same), by show atI _ (i3 % 4) = _; rw [hr3]; exact atI_nat hz3, ?_⟩
    -- gone
    refine ⟨_, rfl, _, rfl, _, _, rfl, rfl, a, ns, st + 3, rfl, fl.seqL hs, hn, hb, by omega, fun i4 h4 h4' => ⟨_, _, rfl, rfl, by show (0 : Int) < 5; decide, ?_⟩⟩
    obtain ⟨s4, s4'⟩ := nn (i := i4) (m := 5) (by decide)
    refine ⟨Nat.zero_le _, fun p0 hp0 => ?_⟩
    have fp : Fq D0 H (upd (upd H l (.lst [.int 4, .int 25, .int 60, .int 97])) p0 (.lst [])) := fl.snoc hp0
    have hp00 : H p0 = none := fl.toN hp0 fun z => z
    generalize hstep : (1 : Int) + i1 % 60 = step
    have hst1 : 1 ≤ step ∧ step ≤ 60 := by omega
    generalize hshift : i2 % 977 = shift at s2 s2'
    generalize hgone : i4 % 5 = gone at s4 s4'
    refine ⟨_, rfl, _, rfl, ?_, ?_, for_range (n := many) (fun i σ H' => ∃ xs pk v8 v9, σ = [some (.ref a), some (.int (st : Nat)), some (.int (many : Nat)), some (.int step), some (.int shift), some (.int z3), some (.int gone), some (.ref p0), v8, v9] ∧ Fq D0 H H' ∧ H' p0 = some (.lst xs) ∧ Paired (PickAt H') xs pk ∧ PickOk i pk ∧ pk.length ≤ i)
      ⟨[], [], none, none, by rw [← hstep, ← hshift, ← hgone]; rfl, fp, upd_same, .nil, ⟨.nil, fun p m => (by cases m), fun p m => (by cases m)⟩, Nat.le_refl _⟩ ?_ ?_⟩
    · omega
    · omega
    · rintro i σ H' hi ⟨xs, pk, v8, v9, rfl, fr, hxs, hpk, pok, hlen⟩
      have hb1 : (0 : Int) ≤ (0 + (i : Int)) ∧ (0 : Int) + (i : Int) ≤ 1000 := by omega
      have hm1 : -(2 ^ 64 : Int) < 0 + (i : Int) ∧ 0 + (i : Int) < 2 ^ 64 := by
        have : (2 ^ 64 : Int) = 18446744073709551616 := by decide
        omega
      refine ⟨_, rfl, _, rfl, _, _, rfl, rfl, .inl hm1, _, _, rfl, rfl, .inr ⟨by decide, by decide⟩, _, rfl, _, rfl, _, _, rfl, rfl, .inl hm1, _, _, rfl, rfl, .inr ⟨by decide, by decide⟩, _, _, rfl, rfl, _, rfl, _, _, rfl, rfl, _, _, rfl, rfl, by show (0 : Int) < 97; decide, ?_⟩
      dsimp only
      generalize hnum : ((0 + (i : Int)) * step * 13 + (0 + (i : Int)) * (0 + (i : Int)) * 7 + shift) = num0
      obtain ⟨s5, s5'⟩ := nn (i := num0) (m := 97) (by decide)
      generalize num0 % 97 = num at s5 s5'
      refine ⟨_, rfl, _, rfl, _, _, rfl, rfl, _, rfl, ?_⟩
      have pokU : PickOk (i + 1) pk := ⟨pok.up, fun p m => Nat.lt_succ_of_lt (pok.lt p m), pok.ok⟩
      have fin : ∀ (p : Addr) (H2 : Hp) (wv : V) (d : PyData), Fq D0 H' H2 → H2 p = none → Td H2 wv d → okVal d → ∃ xs1, (upd H2 p (.tup [.int (0 + (i : Int)), wv])) p0 = some (.lst xs1) ∧ xs1.length < sizeLine ∧ ∃ xs pk v8 v9,
          [some (V.ref a), some (.int (st : Nat)), some (.int (many : Nat)), some (.int step), some (.int shift), some (.int z3), some (.int gone), some (.ref p0), some (.int (0 + (i : Int))), some (.int num)] = [some (.ref a), some (.int (st : Nat)), some (.int (many : Nat)), some (.int step), some (.int shift), some (.int z3), some (.int gone), some (.ref p0), v8, v9] ∧
          Fq D0 H (upd (upd H2 p (.tup [.int (0 + (i : Int)), wv])) p0 (.lst (xs1 ++ [.ref p]))) ∧ (upd (upd H2 p (.tup [.int (0 + (i : Int)), wv])) p0 (.lst (xs1 ++ [.ref p]))) p0 = some (.lst xs) ∧ Paired (PickAt (upd (upd H2 p (.tup [.int (0 + (i : Int)), wv])) p0 (.lst (xs1 ++ [.ref p])))) xs pk ∧ PickOk (i + 1) pk ∧ pk.length ≤ i + 1 := by
        intro p H2 wv d f2 hp td okd
        have f3 : Fq D0 H2 (upd H2 p (.tup [.int (0 + (i : Int)), wv])) := Fq.new hp
        have hx3 := f3.toL (f2.toL hxs)
        have t4 : Tk (upd H2 p (.tup [.int (0 + (i : Int)), wv])) (upd (upd H2 p (.tup [.int (0 + (i : Int)), wv])) p0 (.lst (xs ++ [.ref p]))) := (Fr.put (S := S1 p0) hx3 (fun z => z) rfl).tup
        refine ⟨xs, hx3, small1000' (by rw [paired_len hpk]; omega), xs ++ [.ref p], pk ++ [(i, d)], _, _, rfl, ((fr.trans f2).trans f3).own hp00, upd_same, paired_snoc ⟨p, wv, rfl, .of (t4 p _ (by rw [Int.zero_add]; exact upd_same) trivial), Td.keep (f3.tk.trans t4) _ _ td⟩ (Paired.mapP hpk fun _ _ => PickAt.keep (f2.tk.trans (f3.tk.trans t4))), ⟨?_, ?_, ?_⟩, by rw [List.length_append]; exact Nat.succ_le_succ hlen⟩
        · rw [List.pairwise_append]
          exact ⟨pok.up, List.pairwise_singleton _ _, fun x mx y my => by rw [List.mem_singleton.mp my]; exact pok.lt x mx⟩
        · intro x mx
          rcases List.mem_append.mp mx with mx | mx
          · exact Nat.lt_succ_of_lt (pok.lt x mx)
          · rw [List.mem_singleton.mp mx]
            exact Nat.lt_succ_self i
        · intro x mx
          rcases List.mem_append.mp mx with mx | mx
          · exact pok.ok x mx
          · rw [List.mem_singleton.mp mx]
            exact okd
      refine ite2 (fun hc => ?_) (fun hc => ?_)
      · refine ⟨_, rfl, _, _, rfl, rfl, _, rfl, ?_⟩
        have app : ∀ (H2 : Hp), Fq D0 H' H2 → tyV K "list" (.ref p0) H2 := fun H2 f => .inl ⟨rfl, _, .inl (.inl (f.toL hxs))⟩
        have none_way : ∀ (p : Addr), H' p = none → _ := fun p hp => fin p H' .non .none (Fq.refl _ _) hp (Td.none'.mpr rfl) okVal_none
        have val_way : ∃ m : Nat, num + shift = (m : Nat) ∧ m ≤ 1000000 := by
          obtain ⟨m, hm⟩ := Int.eq_ofNat_of_zero_le (show 0 ≤ num + shift by omega)
          exact ⟨m, hm, by omega⟩
        obtain ⟨m, hm, hm2⟩ := val_way
        refine ite2 (fun hg => ?_) (fun hg => ?_)
        · have hg0 : 0 < gone := of_decide_eq_true hg
          refine ⟨_, rfl, _, rfl, _, _, rfl, rfl, _, rfl, _, _, rfl, rfl, hg0, rfl, _, rfl, ?_⟩
          refine ite2 (fun he => ?_) (fun he => ?_)
          · refine ⟨_, rfl, app H' (Fq.refl _ _), _, rfl, by show 2 ≤ sizeLine; decide, fun p hp => ?_⟩
            obtain ⟨xs1, e1, e2, e3⟩ := none_way p hp
            exact ⟨p0, xs1, _, rfl, rfl, e1, e2, e3⟩
          · refine ⟨_, rfl, app H' (Fq.refl _ _), _, rfl, _, rfl, _, rfl, _, _, rfl, rfl, m, congrArg (fun z => [V.int z]) hm, hm2, fun H2 v d f2 td okd nd' => ⟨by show 2 ≤ sizeLine; decide, fun p hp => ?_⟩⟩
            obtain ⟨xs1, e1, e2, e3⟩ := fin p H2 v d f2 hp td okd
            exact ⟨p0, xs1, _, rfl, rfl, e1, e2, e3⟩
        · refine iteF ?_
          refine ⟨_, rfl, app H' (Fq.refl _ _), _, rfl, _, rfl, _, rfl, _, _, rfl, rfl, m, congrArg (fun z => [V.int z]) hm, hm2, fun H2 v d f2 td okd nd' => ⟨by show 2 ≤ sizeLine; decide, fun p hp => ?_⟩⟩
          obtain ⟨xs1, e1, e2, e3⟩ := fin p H2 v d f2 hp td okd
          exact ⟨p0, xs1, _, rfl, rfl, e1, e2, e3⟩
      · exact ⟨xs, pk, some (.int (0 + (i : Int))), some (.int num), rfl, fr, hxs, hpk, pokU, Nat.le_succ_of_le hlen⟩
    · rintro σ H' ⟨xs, pk, v8, v9, rfl, fr, hxs, hpk, pok, hlen⟩
      exact ⟨_, rfl, q H' p0 xs pk fr hp00 hxs hpk pok⟩
end
end G

/-! The law's pairs, cut, first; places among the keys; the law's own trees. -/
namespace G
open PySem PySem.Spec PyProof.Rows L2
/-! ### places among the keys -/
def ixK : List LKey → LKey → Nat
  | [], _ => 0
  | t :: r, x => if t = x then 0 else ixK r x + 1
theorem ixK_get : ∀ {ts : List LKey} {x : LKey}, x ∈ ts → ts[ixK ts x]? = some x
  | t :: r, x, h => by
    unfold ixK
    split
    · rename_i e
      rw [e]
      rfl
    · rename_i n
      have := ixK_get (ts := r) (x := x) ((List.mem_cons.mp h).resolve_left fun z => n z.symm)
      simpa using this
theorem ixK_lt {ts : List LKey} {x : LKey} (hx : x ∈ ts) : ixK ts x < ts.length := (List.getElem?_eq_some_iff.mp (ixK_get hx)).1
theorem ixK_ahead : ∀ {ts : List LKey} {x : LKey} {m : Nat} {z : LKey}, m < ixK ts x → ts[m]? = some z → z ≠ x
  | [], _, _, _, _, h => by simp at h
  | t :: r, x, m, z, hm, h => by
    unfold ixK at hm
    split at hm
    · exact absurd hm (Nat.not_lt_zero m)
    · rename_i n
      cases m with
      | zero => cases h; exact n
      | succ m => exact ixK_ahead (ts := r) (m := m) (by omega) h
theorem ixK_at {ts : List LKey} (s : Sk ts) {i : Nat} {x : LKey} (h : ts[i]? = some x) : ixK ts x = i := by
  have hx := List.mem_of_getElem? h
  have h1 := ixK_get hx
  rcases Nat.lt_trichotomy (ixK ts x) i with l | e | l
  · have := (List.pairwise_iff_getElem.mp s) _ _ (ixK_lt hx) (List.getElem?_eq_some_iff.mp h).1 l
    rw [(List.getElem?_eq_some_iff.mp h1).2, (List.getElem?_eq_some_iff.mp h).2, klt_irr] at this
    cases this
  · exact e
  · have := (List.pairwise_iff_getElem.mp s) _ _ (List.getElem?_eq_some_iff.mp h).1 (ixK_lt hx) l
    rw [(List.getElem?_eq_some_iff.mp h1).2, (List.getElem?_eq_some_iff.mp h).2, klt_irr] at this
    cases this
theorem ixK_mono {ts : List LKey} (s : Sk ts) {a b : LKey} (ha : a ∈ ts) (hb : b ∈ ts) : ixK ts a < ixK ts b ↔ klt a b = true := by
  have h1 := List.getElem?_eq_some_iff.mp (ixK_get ha)
  have h2 := List.getElem?_eq_some_iff.mp (ixK_get hb)
  constructor
  · intro l
    have := (List.pairwise_iff_getElem.mp s) _ _ h1.1 h2.1 l
    rw [h1.2, h2.2] at this
    exact this
  · intro l
    rcases Nat.lt_trichotomy (ixK ts a) (ixK ts b) with q | e | q
    · exact q
    · have e1 := ixK_get ha
      rw [e, ixK_get hb] at e1
      cases e1
      rw [klt_irr] at l
      cases l
    · have := (List.pairwise_iff_getElem.mp s) _ _ h2.1 h1.1 q
      rw [h1.2, h2.2, klt_asym l] at this
      cases this
theorem ixK_le {ts : List LKey} (s : Sk ts) {a b : LKey} (ha : a ∈ ts) (hb : b ∈ ts) : ixK ts a ≤ ixK ts b ↔ kle a b = true := by
  rw [← Nat.not_lt, ixK_mono s hb ha]
  unfold kle
  cases klt b a <;> simp
/-- the place by its two bounds -/
theorem pl_iff : ∀ {fs : List LKey} {k : LKey} {i : Nat} {f : LKey}, Sk fs → fs[i]? = some f → (pl fs k = i ↔ (i = 0 ∨ kle f k = true) ∧ (∀ g, fs[i + 1]? = some g → klt k g = true))
  | [], _, _, _, _, h => by simp at h
  | [a], k, i, f, _, h => by
    cases i with
    | zero => exact ⟨fun _ => ⟨.inl rfl, fun g hg => by simp at hg⟩, fun _ => rfl⟩
    | succ i => simp at h
  | a :: b :: r, k, i, f, s, h => by
    have s' := List.pairwise_cons.mp s
    show (if kle b k = true then pl (b :: r) k + 1 else 0) = i ↔ _
    cases i with
    | zero =>
      constructor
      · intro e
        refine ⟨.inl rfl, fun g hg => ?_⟩
        cases hg
        split at e
        · cases e
        · rename_i n
          exact kle_not.mp (by simpa using n)
      · rintro ⟨_, h2⟩
        rw [if_neg]
        rw [kle_not.mpr (h2 b rfl)]
        exact Bool.false_ne_true
    | succ i =>
      have ih := pl_iff (k := k) (i := i) (f := f) s'.2 h
      constructor
      · intro e
        split at e
        · rename_i hb
          have e' : pl (b :: r) k = i := by omega
          obtain ⟨h1, h2⟩ := ih.mp e'
          refine ⟨.inr ?_, h2⟩
          rcases h1 with h1 | h1
          · subst h1
            cases h
            exact hb
          · exact h1
        · cases e
      · rintro ⟨h1, h2⟩
        have hf : kle f k = true := h1.resolve_left (Nat.succ_ne_zero i)
        have hb : kle b k = true := by
          cases i with
          | zero => cases h; exact hf
          | succ i =>
            have := (List.pairwise_cons.mp s'.2).1 f (List.mem_of_getElem? (show r[i]? = some f from h))
            exact kle_trans (kle_iff.mpr (.inl this)) hf
        rw [if_pos hb, ih.mpr ⟨.inr hf, h2⟩]
theorem GR.hu65 {k : Nat} {A : Around} (r : GR k A) : A.units + 65 < cLine := by
  have := r.rm.un
  omega
theorem depthAll_keys {PL : List LKey} : (PyData.list (PL.map keyD)).depth ≤ 2 := by
  rw [PyData.depth]
  exact Nat.succ_le_succ (depthAll_le fun d m => by
    obtain ⟨k, _, rfl⟩ := List.mem_map.mp m
    rw [keyD_depth]
    exact Nat.le_refl _)
theorem canLay_keys : ∀ {PL : List LKey}, (∀ k ∈ PL, okKey k) → PyData.canLayAll0 (PL.map keyD) = true
  | [], _ => by simp [PyData.canLayAll0]
  | k :: r, h => by
    rw [List.map_cons, PyData.canLayAll0, keyD_lay (h k List.mem_cons_self).ok, canLay_keys fun k m => h k (List.mem_cons_of_mem _ m)]
    rfl
theorem keys_shaped {PL : List LKey} (h : ∀ k ∈ PL, okKey k) : SeqAt.shaped (.list (PL.map keyD)) = true := by
  unfold SeqAt.shaped
  have e : (PyData.list (PL.map keyD)).canLay0 = true := by rw [PyData.canLay0]; exact canLay_keys h
  rw [e, Bool.true_and]
  exact decide_eq_true (Nat.le_trans depthAll_keys (by decide))
theorem keys_dp {K : PySem.W.Frag} {H : Hp} : ∀ {xs : List V} {PL : List LKey}, Paired (KeyAt H) xs PL → DpAll K H xs (PL.map keyD)
  | _, _, .nil => .nil
  | _, _, .cons h t => .cons (Td.dp _ _ h.td) (keys_dp t)
theorem idx_ok {K : PySem.W.Frag} {H : Hp} {Q : VK} {ka : Addr} {kxs : List V} {PL : List LKey} {v : V} {k : LKey} (hP : PLok PL) (h1 : H ka = some (.lst kxs)) (h2 : Paired (KeyAt H) kxs PL) (h3 : KeyAt H v k) (h4 : k ∈ PL) (q : Q (.int (ixK PL k : Nat)) H) : rIndexD K (.ref ka) [v] H Q :=
  ⟨ka, v, keyD k, PL.map keyD, ixK PL k, keyD k, rfl, rfl, .lst (.inl (.inl h1)) (keys_dp h2), Td.dp _ _ h3.td, keys_shaped hP.key, keyD_shaped (hP.key k h4).ok, by rw [List.getElem?_map, ixK_get h4]; rfl, by rw [keyD_eqv]; exact decide_eq_true rfl, fun m z' hm hz => by
    rw [List.getElem?_map] at hz
    cases e : PL[m]? with
    | none => rw [e] at hz; cases hz
    | some z =>
      rw [e] at hz
      cases hz
      rw [keyD_eqv]
      exact decide_eq_false (ixK_ahead hm e), q⟩
section
variable {X : Cx}
/-- a subscript of a list or a tuple -/
def rIxA (K : PySem.W.Frag) : R2 := fun x y H Q => rIxL K x y H Q ∨ rIxT K x y H Q
theorem ix_any : IxR X (rIxA X.K) := by
  intro value slice pins s σ H x y v u Q I rx ry h e
  rcases h with h | h
  · exact ix_list value slice pins s σ H x y v u Q I rx ry h e
  · exact ix_tup value slice pins s σ H x y v u Q I rx ry h e
theorem SqB.ix {K : PySem.W.Frag} {H : Hp} {Q : VK} {b : Bool} {a : Addr} {xs : List V} {i : Nat} {v : V} (h : SqB b K H a xs) (e : xs[i]? = some v) (q : Q v H) : rIxA K (.ref a) (.int (i : Nat)) H Q := by
  cases b with
  | true => exact .inl ⟨a, xs, _, v, rfl, rfl, (show SqL K H a xs from h), atI_nat e, q⟩
  | false => exact .inr ⟨a, xs, _, v, rfl, rfl, (show SqT K H a xs from h), atI_nat e, q⟩
theorem SqB.any {K : PySem.W.Frag} {H : Hp} {b : Bool} {a : Addr} {xs : List V} (h : SqB b K H a xs) : SqL K H a xs ∨ SqT K H a xs := by
  cases b with
  | true => exact .inl h
  | false => exact .inr h
end
/-! ### the law's own trees -/
def LP : (n : Nat) → Hp → V → Tn n → Prop
  | 0, H, v, es => ∃ a l xs, v = .ref a ∧ TupAt H a [.str "leaf", .ref l] ∧ H l = some (.lst xs) ∧ Paired (EntAt H) xs es
  | n + 1, H, v, cs => ∃ a l xs, v = .ref a ∧ TupAt H a [.str "node", .ref l] ∧ H l = some (.lst xs) ∧ Paired (fun x (c : LKey × Tn n) => ∃ e q w, x = .ref e ∧ TupAt H e [q, w] ∧ KeyAt H q c.1 ∧ LP n H w c.2) xs cs
def LK (n : Nat) (H : Hp) (x : V) (c : LKey × Tn n) : Prop := ∃ e q w, x = .ref e ∧ TupAt H e [q, w] ∧ KeyAt H q c.1 ∧ LP n H w c.2
theorem LP.keep {D : Addr → Prop} {H H' : Hp} (f : Fq D H H') : ∀ {n : Nat} {v : V} {t : Tn n}, LP n H v t → LP n H' v t
  | 0, _, _, ⟨a, l, xs, h1, h2, h3, h4⟩ => ⟨a, l, xs, h1, h2.keep f.tk, f.toL h3, Paired.mapP h4 fun _ _ => EntAt.keep f.tk⟩
  | n + 1, _, _, ⟨a, l, xs, h1, h2, h3, h4⟩ => ⟨a, l, xs, h1, h2.keep f.tk, f.toL h3, Paired.mapP h4 fun _ _ ⟨e, q, w, e1, e2, e3, e4⟩ => ⟨e, q, w, e1, e2.keep f.tk, e3.keep f.tk, LP.keep f e4⟩⟩
theorem LK.keep {D : Addr → Prop} {H H' : Hp} (f : Fq D H H') {n : Nat} {x : V} {c : LKey × Tn n} (h : LK n H x c) : LK n H' x c := let ⟨e, q, w, e1, e2, e3, e4⟩ := h; ⟨e, q, w, e1, e2.keep f.tk, e3.keep f.tk, e4.keep f⟩
/-- a list is changed that is none of it -/
theorem LP.op {H : Hp} {v : V} : ∀ {n : Nat} {t : Tn n}, LP n H v t → good n t → ∃ a k l x xs, v = .ref a ∧ TupAt H a [.str k, .ref l] ∧ H l = some (.lst (x :: xs)) ∧ PairK H x (fstT n t)
  | 0, t, ⟨a, l, xs, h1, h2, h3, h4⟩, g => by
    obtain ⟨es0, e0⟩ : ∃ es0 : List Ent, es0 = t := ⟨t, rfl⟩
    subst e0
    cases h4 with
    | nil => exact absurd rfl g.1
    | cons h t =>
      obtain ⟨e, q, w, e1, e2, e3, _⟩ := h
      exact ⟨a, _, l, _, _, h1, h2, h3, e, q, w, e1, e2, e3⟩
  | n + 1, t, ⟨a, l, xs, h1, h2, h3, h4⟩, g => by
    obtain ⟨cs, e0⟩ : ∃ cs : List (LKey × Tn n), cs = t := ⟨t, rfl⟩
    subst e0
    cases h4 with
    | nil => exact absurd rfl g.1
    | cons h t =>
      obtain ⟨e, q, w, e1, e2, e3, _⟩ := h
      exact ⟨a, _, l, _, _, h1, h2, h3, e, q, w, e1, e2, e3⟩
section
variable {P : Program} {w : World} {K : PySem.W.Frag} {mg : Str → Option Value} {base : Heap} {CR CT : Addr}
/-! ### pairs -/
def pairsOf (PL : List LKey) (pk : List (Nat × PyData)) : List Ent := pk.map fun p => (PL.getD p.1 [], p.2)
def spPairs (K : PySem.W.Frag) (PL : List LKey) : Sp := fun vs H Q _ => ∃ ka pa kxs pxs pk, vs = [.ref ka, .ref pa] ∧ H ka = some (.lst kxs) ∧ Paired (KeyAt H) kxs PL ∧ H pa = some (.lst pxs) ∧ Paired (PickAt H) pxs pk ∧ (∀ p ∈ pk, p.1 < PL.length) ∧ pk.length ≤ 1000 ∧
  ∀ H' p xs, Fq D0 H H' → SqT K H' p xs → Paired (EntAt H') xs (pairsOf PL pk) → Q (.ref p) H'
theorem scPairs : FnScope ["keys", "picks", "pick"] ["keys", "picks"] (defScope sPairs) := ⟨rfl, rfl, rfl, by decide +kernel, rfl, by decide +kernel, by decide +kernel⟩
theorem ok_pairs {PL : List LKey} {f : Addr} {fd : FuncData} (F : Fun K "_law_pairs" "_law_pairs" sPairs f fd) (B : Bn mg) : Fg P w K mg base CX0 1 f fd ["keys", "picks"] (spPairs K PL) := by
  refine okG F scPairs (fun vs H Q E h => ?_) (fun cdv A outer s H vs Q E hr h => ?_)
  · obtain ⟨ka, pa, kxs, pxs, pk, rfl, _⟩ := h
    rfl
  · obtain ⟨ka, pa, kxs, pxs, pk, rfl, hka, hkx, hpa, hpx, hlt, hlen, q⟩ := h
    have nd := scPairs.nd
    refine ⟨_, pss_one (ps_ret (pe_callTy call_tuple_of (by rfl) B.tuple boot_tuple (pa_cons (pe_lc (own := [("pick", 2)]) (g := gName 2) (tt := tYes) rfl nd (pi_list (pv 1)) (blkOk_by (N := ["keys", "picks", "pick"]) (sc := defScope sPairs) (by decide +kernel)) (fun _ _ _ _ _ => pg_name (i := 2) nd rfl (Or.inl rfl)) (fun _ _ _ _ _ => pts_nil)
      (fun _ _ _ _ _ => pe_tup (pa_cons (pe_ix (r := rIxL K) ix_list (pv 0) (pe_ix (r := rIxT K) ix_tup (pv 2) pe_int (fun _ _ => rfl)) (fun _ _ => rfl)) (pa_cons (pe_ix (r := rIxT K) ix_tup (pv 2) pe_int (fun _ _ => rfl)) pa_nil)))) pa_nil))), ?_⟩
    refine ⟨_, rfl, pa, rfl, ⟨_, .inl (.inl hpa)⟩, fun D hD => lc_list (K := K) (a := pa) (xs := pxs) (fun i H' => ∃ acc, Fq D0 H H' ∧ H' D = some (.lst acc) ∧ acc.length = i ∧ Paired (EntAt H') acc (pairsOf PL (pk.take i))) ⟨[], Fq.new hD, upd_same, rfl, by rw [List.take_zero]; exact .nil⟩ (fun i H' _ ⟨_, f, _⟩ => .inl (.inl (f.toL hpa))) ?_ ?_⟩
    · rintro i x H' hx ⟨acc, fr, hacc, hal, hp⟩
      obtain ⟨pc, epc, a, wv, rfl, h1, h2⟩ := paired_get hpx hx
      have hpl := hlt pc (List.mem_of_getElem? epc)
      have ek : PL[pc.1]? = some (PL.getD pc.1 []) := by simp [List.getD, hpl]
      obtain ⟨kv, ekv, bk, rfl, hb⟩ := paired_getR hkx ek
      have hil : i < pk.length := (List.getElem?_eq_some_iff.mp epc).1
      refine ⟨rfl, _, rfl, _, rfl, a, _, _, _, rfl, rfl, (h1.keep fr.tk).sq, atI_nat (j := 0) rfl, ka, kxs, _, _, rfl, rfl, .inl (.inl (fr.toL hka)), atI_nat ekv, _, rfl, a, _, _, _, rfl, rfl, (h1.keep fr.tk).sq, atI_nat (j := 1) rfl, by show 2 ≤ sizeLine; decide, fun p hp0 => ?_⟩
      have f1 : Fq D0 H' (upd H' p (.tup [.ref bk, wv])) := Fq.new hp0
      have hacc1 := f1.toL hacc
      have t2 : Tk (upd H' p (.tup [.ref bk, wv])) (upd (upd H' p (.tup [.ref bk, wv])) D (.lst (acc ++ [.ref p]))) := (Fr.put (S := S1 D) hacc1 (fun z => z) rfl).tup
      have tkA : Tk H (upd (upd H' p (.tup [.ref bk, wv])) D (.lst (acc ++ [.ref p]))) := fr.tk.trans (f1.tk.trans t2)
      refine ⟨acc, hacc1, small1000' (by omega), acc ++ [.ref p], (fr.trans f1).own hD, upd_same, by rw [List.length_append, hal]; rfl, ?_⟩
      have et : pairsOf PL (pk.take (i + 1)) = pairsOf PL (pk.take i) ++ [(PL.getD pc.1 [], pc.2)] := by
        unfold pairsOf
        rw [List.take_add_one, epc, List.map_append]
        rfl
      rw [et]
      exact paired_snoc ⟨p, .ref bk, wv, rfl, .of (t2 p _ upd_same trivial), ⟨bk, rfl, tkA bk _ hb trivial⟩, Td.keep tkA _ _ h2⟩ (Paired.mapP hp fun _ _ => EntAt.keep (f1.tk.trans t2))
    · rintro H' ⟨acc, fr, hacc, hal, hp⟩
      rw [paired_len hpx, List.take_length] at hp
      refine ⟨D, acc, rfl, .inl ⟨.inl (.inl hacc), fun p hp0 => q _ p acc (fr.snoc hp0) (.inl (.inl upd_same)) (Paired.mapP hp fun _ _ => EntAt.keep (Fq.new (D := D0) hp0).tk)⟩⟩
/-! ### the law's cut -/
def LCut (H : Hp) (y : V) (c : List V) : Prop := ∃ q, y = .ref q ∧ H q = some (.lst c)
theorem LCut.keep {D : Addr → Prop} {H H' : Hp} (f : Fq D H H') {y : V} {c : List V} (h : LCut H y c) : LCut H' y c := let ⟨q, e, h⟩ := h; ⟨q, e, f.toL h⟩
def spLCut : Sp := fun vs H Q _ => ∃ a xs, vs = [.ref a] ∧ H a = some (.lst xs) ∧ xs.length ≤ 1000 ∧ ∀ H' p ys, Fq D0 H H' → H p = none → H' p = some (.lst ys) → Paired (LCut H') ys (cutL xs) → Q (.ref p) H'
theorem scLCut : FnScope ["parts", "count", "found", "at", "k", "size"] ["parts"] (defScope sLCut) := ⟨rfl, rfl, rfl, by decide +kernel, rfl, by decide +kernel, by decide +kernel⟩
theorem ok_lcut {f : Addr} {fd : FuncData} (F : Fun K "_law_cut" "_law_cut" sLCut f fd) (T : Bn mg) : Fg P w K mg base CX0 1 f fd ["parts"] spLCut := by
  refine okG F scLCut (fun vs H Q E h => ?_) (fun cdv A outer s H vs Q E hr h => ?_)
  · obtain ⟨a, xs, rfl, _⟩ := h
    rfl
  · obtain ⟨a, xs, rfl, ha, hz, q⟩ := h
    have nd := scLCut.nd
    refine ⟨_, pss_cons (ps_if (pt_cmpR op_eq (pe_callB (r := fun xs H Q => ∃ p ys, xs = [.ref p] ∧ (SqL K H p ys ∨ SqT K H p ys) ∧ Q (.int ys.length) H) call_len_seq (by rfl) T.len boot_len (pa_cons (pv 0) pa_nil)) pe_int (nomark _)) (pss_one (ps_ret (pe_lst pa_nil))) pss_nil)
      (pss_cons (ps_set (i := 1) nd rfl (.inl rfl) (pe_op op_fdiv (pe_op op_add (pe_callB call_len_seq (by rfl) T.len boot_len (pa_cons (pv 0) pa_nil)) pe_int) pe_int))
      (pss_cons (ps_set (i := 2) nd rfl (.inl rfl) (pe_lst pa_nil))
      (pss_cons (ps_set (i := 3) nd rfl (.inl rfl) pe_int)
      (pss_cons (ps_for PassesOwn.never rfl (pi_range1 (by rfl) T.range (pa_cons (pv 1) pa_nil)) (pg_name (i := 4) nd rfl (.inl rfl))
        (pss_cons (ps_set (i := 5) nd rfl (.inl rfl) (pe_op op_add (pe_op op_fdiv (pe_callB call_len_seq (by rfl) T.len boot_len (pa_cons (pv 0) pa_nil)) (pv 1))
          (pe_callTy call_int1 (by rfl) T.int boot_int (pa_cons (pe_cmpR op_lt (pv 4) (pe_op op_mod (pe_callB call_len_seq (by rfl) T.len boot_len (pa_cons (pv 0) pa_nil)) (pv 1)) (nomark _)) pa_nil))))
        (pss_cons (ps_expr (pe_bm PySem.F.plainAttrs_list PySem.F.slot_list_append PySem.F.type_list_append mt_append (pv 2) (pa_cons (pe_slice sl_list (pv 0) (po_some (pv 3)) (po_some (pe_op op_add (pv 3) (pv 5)))) pa_nil)))
        (pss_one (ps_aug (i := 3) nd rfl (.inl rfl) (pv 5) ip_add)))))
      (pss_one (ps_ret (pv 2))))))), ?_⟩
    have hl : ∀ H', H' a = some (.lst xs) → SqL K H' a xs := fun H' h => .inl (.inl h)
    refine ⟨_, rfl, a, xs, rfl, .inl (hl _ ha), rfl, _, rfl, ?_⟩
    refine ite2 (fun hc => ?_) (fun hc => ?_)
    · have hc : xs.length = 0 := by
        have := of_decide_eq_true hc
        simpa using this
      refine ⟨Nat.zero_le _, fun p hp => q _ p [] (Fq.new hp) hp upd_same ?_⟩
      rw [List.eq_nil_of_length_eq_zero hc, cut_nil]
      exact .nil
    · have hc : xs.length ≠ 0 := by
        intro z
        rw [z] at hc
        exact hc (by decide)
      have hN0 : 0 < cutN xs.length := Nat.pos_of_ne_zero (fun z => hc (cutN_zero.mp z))
      have hNle : cutN xs.length ≤ xs.length := cutN_le _
      have ecount : ((xs.length : Int) + 5) / 6 = ((cutN xs.length : Nat) : Int) := by unfold cutN; omega
      refine ⟨_, rfl, a, xs, rfl, .inl (hl _ ha), _, _, rfl, rfl, _, _, rfl, rfl, ⟨by decide, by decide⟩, ?_⟩
      dsimp only
      rw [ecount]
      refine ⟨Nat.zero_le _, fun p hp => ⟨_, rfl, _, rfl, ?_, ?_, for_range (n := cutN xs.length) (fun i σ H' => ∃ ys v4 v5, σ = [some (.ref a), some (.int (cutN xs.length : Nat)), some (.ref p), some (.int (cutSt xs.length i : Nat)), v4, v5] ∧ Fq D0 H H' ∧ H' p = some (.lst ys) ∧ Paired (LCut H') ys ((cutL xs).take i) ∧ ∀ y ∈ ys, y ≠ .ref p) ?_ ?_ ?_⟩⟩
      · omega
      · omega
      · refine ⟨[], none, none, ?_, Fq.new hp, upd_same, ?_, fun y m => by cases m⟩
        · rw [cutSt_zero]
          rfl
        · rw [List.take_zero]
          exact .nil
      · rintro i σ H' hi ⟨ys, v4, v5, rfl, fr, hy, hpr, hnp⟩
        have esz : (xs.length : Int) / ((cutN xs.length : Nat) : Int) + (if decide ((0 : Int) + i < (xs.length : Int) % ((cutN xs.length : Nat) : Int)) = true then (1 : Int) else 0) = ((cutSz xs.length i : Nat) : Int) := by
          unfold cutSz
          rw [← Int.natCast_ediv, ← Int.natCast_emod]
          by_cases z : i < xs.length % cutN xs.length
          · rw [if_pos (decide_eq_true (by omega)), if_pos z]
            omega
          · rw [if_neg (by rw [decide_eq_true_eq]; omega), if_neg z]
            omega
        have hya : ys.length ≤ 1000 := by
          have z := paired_len hpr
          rw [List.length_take] at z
          omega
        refine ⟨_, rfl, a, xs, rfl, .inl (hl _ (fr.toL ha)), _, rfl, _, _, rfl, rfl, ⟨by omega, by omega⟩, _, rfl, _, rfl, a, xs, rfl, .inl (hl _ (fr.toL ha)), _, rfl, _, _, rfl, rfl, by omega, _, _, rfl, rfl, .inr ⟨_, rfl, _, _, rfl, rfl, ?_⟩⟩
        dsimp only
        rw [esz]
        refine ⟨_, rfl, .inl ⟨rfl, _, .inl (.inl hy)⟩, _, rfl, _, rfl, _, rfl, _, rfl, _, rfl, _, _, rfl, rfl, _, rfl, a, xs, rfl, hl _ (fr.toL ha), fun p2 hp2 => ?_⟩
        rw [piece_cutV hi]
        have np : p ≠ p2 := ne_of_none hy hp2
        have hy2 : (upd H' p2 (.lst (piece xs i))) p = some (.lst ys) := by rw [upd_ne np]; exact hy
        have f1 : Fq D0 H' (upd H' p2 (.lst (piece xs i))) := Fq.new hp2
        refine ⟨p, ys, _, rfl, rfl, hy2, small1000' hya, ?_⟩
        refine ⟨_, rfl, _, rfl, _, _, rfl, rfl, ?_⟩
        have hkeep : ∀ {y : V} {c : List V}, y ≠ .ref p → LCut (upd H' p2 (.lst (piece xs i))) y c → LCut (upd (upd H' p2 (.lst (piece xs i))) p (.lst (ys ++ [.ref p2]))) y c := fun {y c} hne ⟨q, e, h⟩ => ⟨q, e, by rw [upd_ne (fun z => hne (by rw [e, z]))]; exact h⟩
        have hpk : ∀ {as : List V} {cs : List (List V)}, Paired (LCut H') as cs → (∀ y ∈ as, y ≠ .ref p) → Paired (LCut (upd (upd H' p2 (.lst (piece xs i))) p (.lst (ys ++ [.ref p2])))) as cs := by
          intro as cs h
          induction h with
          | nil => exact fun _ => .nil
          | cons h t ih => exact fun hb => .cons (hkeep (hb _ List.mem_cons_self) (h.keep f1)) (ih fun y m => hb y (List.mem_cons_of_mem _ m))
        refine ⟨_, some (.int (0 + i)), some (.int (cutSz xs.length i : Nat)), ?_, (fr.trans f1).own hp, upd_same, ?_, ?_⟩
        · rw [cutSt_succ]
          rfl
        · rw [List.take_add_one, cut_get hi]
          refine paired_snoc ⟨p2, rfl, ?_⟩ (hpk hpr hnp)
          rw [upd_ne np.symm]
          exact upd_same
        · intro y m
          rcases List.mem_append.mp m with m | m
          · exact hnp y m
          · rw [List.mem_singleton.mp m]
            intro z
            injection z with z
            exact np z.symm
      · rintro σ H' ⟨ys, v4, v5, rfl, fr, hy, hpr, hnp⟩
        refine ⟨_, rfl, q _ p ys fr hp hy ?_⟩
        have e : (cutL xs).take (cutN xs.length) = cutL xs := by rw [← cut_len, List.take_length]
        rw [e] at hpr
        exact hpr
/-! ### first -/
def spFirst : Sp := fun vs H Q _ => ∃ a k l x xs f, vs = [.ref a] ∧ TupAt H a [.str k, .ref l] ∧ H l = some (.lst (x :: xs)) ∧ PairK H x f ∧ ∀ v, KeyAt H v f → Q v H
theorem scFirst : FnScope ["page"] ["page"] (defScope sFirst) := ⟨rfl, rfl, rfl, by decide +kernel, rfl, by decide +kernel, by decide +kernel⟩
theorem ok_first {f : Addr} {fd : FuncData} (F : Fun K "_law_first" "_law_first" sFirst f fd) : Fg P w K mg base CX0 1 f fd ["page"] spFirst := by
  refine okG F scFirst (fun vs H Q E h => ?_) (fun cdv A outer s H vs Q E hr h => ?_)
  · obtain ⟨a, k, l, x, xs, f, rfl, _⟩ := h
    rfl
  · obtain ⟨a, k, l, x, xs, f, rfl, h1, h2, ⟨e, q0, w0, rfl, h3, h4⟩, q⟩ := h
    refine ⟨_, pss_one (ps_ret (pe_ix ix_tup (pe_ix ix_list (pe_ix ix_tup (pv 0) pe_int (fun _ _ => rfl)) pe_int (fun _ _ => rfl)) pe_int (fun _ _ => rfl))), ?_⟩
    exact ⟨_, rfl, a, _, _, _, rfl, rfl, h1.sq, atI_nat (j := 1) rfl, l, _, _, _, rfl, rfl, .inl (.inl h2), atI_nat (j := 0) rfl, e, _, _, _, rfl, rfl, h3.sq, atI_nat (j := 0) rfl, q q0 h4⟩
end
end G

/-! _law_replaced. -/
namespace G
open PySem PySem.Spec PyProof.Rows L2
/-! ### a heap without one object -/
def hid (H : Hp) (z : Addr) : Hp := fun b => if b = z then none else H b
theorem hid_ne {H : Hp} {z b : Addr} (h : b ≠ z) : hid H z b = H b := if_neg h
theorem hid_le {D : Addr → Prop} {H : Hp} {z : Addr} : Fq D (hid H z) H := ⟨fun b o h _ => by
  by_cases e : b = z
  · rw [e] at h
    unfold hid at h
    rw [if_pos rfl] at h
    cases h
  · rw [hid_ne e] at h
    exact h⟩
theorem hid_upd {H : Hp} {z : Addr} {o : HO} : hid (upd H z o) z = hid H z := by
  funext b
  by_cases e : b = z
  · unfold hid
    rw [if_pos e, if_pos e]
  · rw [hid_ne e, hid_ne e, upd_ne e]
theorem hid_new {D : Addr → Prop} {H H' : Hp} {z : Addr} (h : H z = none) (f : Fq D H H') : Fq D H (hid H' z) := ⟨fun b o e n => by
  rw [hid_ne (ne_of_none e h)]
  exact f.keep b o e n⟩
theorem hid_fq {D : Addr → Prop} {H H' : Hp} {z : Addr} (f : Fq D H H') : Fq D (hid H z) (hid H' z) := ⟨fun b o e n => by
  by_cases q : b = z
  · rw [q] at e
    unfold hid at e
    rw [if_pos rfl] at e
    cases e
  · rw [hid_ne q] at e ⊢
    exact f.keep b o e n⟩
def LIts : (n : Nat) → Hp → List V → Tn n → Prop
  | 0, H, ys, t => Paired (EntAt H) ys t
  | n + 1, H, ys, t => Paired (LK n H) ys t
theorem LP.mk' {H : Hp} {a l : Addr} {ys : List V} : ∀ {n : Nat} {t : Tn n}, TupAt H a [.str (kindT n), .ref l] → H l = some (.lst ys) → LIts n H ys t → LP n H (.ref a) t
  | 0, _, h1, h2, h3 => ⟨a, l, ys, rfl, h1, h2, h3⟩
  | _ + 1, _, h1, h2, h3 => ⟨a, l, ys, rfl, h1, h2, h3⟩
theorem LIts.keep {D : Addr → Prop} {H H' : Hp} (f : Fq D H H') : ∀ {n : Nat} {ys : List V} {t : Tn n}, LIts n H ys t → LIts n H' ys t
  | 0, _, _, h => Paired.mapP h fun _ _ => EntAt.keep f.tk
  | _ + 1, _, _, h => Paired.mapP h fun _ _ => LK.keep f
section
variable {X : Cx} {K : PySem.W.Frag} {e o : Expr} {es : List Expr} {apos cpos : Pos} {name : Str} {T id : String} {r : V → List V → Hp → VK → Prop} {to : TE} {t : TA}
/-- pe_bm, the written part named -/
theorem pe_bmK (hK : X.K = K) (pa : PlainAttrs T) (slot : Slot T name id) (hty : typeOf (.builtin id) = pure (.type "method_descriptor")) (hm : MtR X id r) (ho : PE X o to) (ha : PA X (e :: es) t)
    (hbase : attributeBase o name X.env (eval o X.env) = eval o X.env := by rfl)
    (hfew : ((backTo cpos (starEach (e :: es) X.env)).all (fun x => !x.1) && (backToKw cpos (keywordEach [] X.env)).all (fun x => x.1.isSome)
      && decide ((e :: es).length + ([] : List Keyword).length + (if ([] : List Keyword).isEmpty then 0 else 1) < 30)) = true := by rfl)
    (hline : (apos.endLine == cpos.line) = true := by rfl) (hs : starEach (e :: es) X.env = (false, eval e X.env) :: starEach es X.env := by rfl) (hplain : (backTo cpos (starEach es X.env)).any (·.1) = false := by rfl) :
    PE X (.Call (.Attribute o name apos) (e :: es) [] cpos) (tBM K T r to t) := by
  subst hK
  exact pe_bm pa slot hty hm ho ha hbase hfew hline hs hplain
end
section
variable {P : Program} {w : World} {K : PySem.W.Frag} {mg : Str → Option Value} {base : Heap} {CR CT : Addr}
/-- [(kind, part) for part in pieces] -/
theorem lcut_lc {n : Nat} {σ : L2.St} {H1 : Hp} {D a : Addr} {xs : List V} {ps : Nat} {yss : List (List V)} {pcs : List (Tn n)} {Qd : Hp → Prop} (hps : ps < σ.length)
    (ha : H1 a = some (.lst xs)) (hx : Paired (LCut H1) xs yss) (hy : Paired (LIts n H1) yss pcs) (hD : H1 D = none) (hpl : pcs.length ≤ 1000)
    (hd : ∀ H' acc, Fq D0 H1 H' → H' D = some (.lst acc) → Paired (LP n (hid H' D)) acc pcs → Qd H') :
    ∃ W : Nat → Nat → Hp → Prop, (∃ m, W 0 m (upd H1 D (.lst []))) ∧ ∀ i m H, W i m H →
      ((Itl K a).stop i H ∧ Qd H) ∨ ((Itl K a).go i H ∧ ∃ Nx : Hp → Prop, (∀ H', Nx H' → ∃ m', m' < m ∧ W (i + 1) m' H') ∧ ∀ x H', (Itl K a).yld i H x H' → gName ps x (wipe σ [ps]) H' fun σ2 H2 => wipe σ2 [ps] = wipe σ [ps] ∧ tYes σ2 H2 fun b H3 =>
        if b = true then tTup (tCons (tC (.str (kindT n))) (tCons (tVar ps) tNil)) σ2 H3 fun y H4 => ∃ acc, H4 D = some (.lst acc) ∧ acc.length < sizeLine ∧ Nx (upd H4 D (.lst (acc ++ [y]))) else Nx H3) := by
  have hxl : xs.length = pcs.length := (paired_len hx).trans (paired_len hy)
  refine lc_list (K := K) (a := a) (xs := xs) (fun i H' => ∃ acc, Fq D0 H1 H' ∧ H' D = some (.lst acc) ∧ Paired (LP n (hid H' D)) acc (pcs.take i)) ⟨[], Fq.new hD, upd_same, by rw [List.take_zero]; exact .nil⟩ (fun i H' _ ⟨_, f, _⟩ => .inl (.inl (f.toL ha))) ?_ ?_
  · rintro i x H' hxi ⟨acc, f, hacc, hp⟩
    obtain ⟨ys, eys, l, rfl, hl⟩ := paired_get hx hxi
    obtain ⟨U, eU, hits⟩ := paired_get hy eys
    have hil : i < pcs.length := (List.getElem?_eq_some_iff.mp eU).1
    have hwl : ps < (wipe σ [ps]).length := by rw [wipe_length]; exact hps
    refine ⟨?_, ?_⟩
    · show (((wipe σ []).set ps none).set ps (some (.ref l))).set ps none = (wipe σ []).set ps none
      rw [List.set_set, List.set_set]
    refine ⟨.ref l, ?_, by show 2 ≤ sizeLine; decide, fun p hp0 => ?_⟩
    · rw [List.getElem?_set_self hwl]
    have f1 : Fq D0 H' (upd H' p (.tup [.str (kindT n), .ref l])) := Fq.new hp0
    have hacc1 := f1.toL hacc
    have npD : p ≠ D := fun z => by rw [z, hacc] at hp0; cases hp0
    have fh : Fq D0 H1 (hid (upd H' p (.tup [.str (kindT n), .ref l])) D) := hid_new hD (f.trans f1)
    refine ⟨acc, hacc1, small1000' (by rw [paired_len hp, List.length_take]; omega), acc ++ [.ref p], (f.trans f1).own hD, upd_same, ?_⟩
    have et : pcs.take (i + 1) = pcs.take i ++ [U] := by rw [List.take_add_one, eU]; rfl
    rw [et, hid_upd]
    refine paired_snoc (LP.mk' (l := l) (.of ?_) (fh.toL hl) (hits.keep fh)) (Paired.mapP hp fun _ _ => LP.keep (hid_fq f1))
    rw [hid_ne npD]
    exact upd_same
  · rintro H' ⟨acc, f, hacc, hp⟩
    rw [hxl, List.take_length] at hp
    exact hd H' acc f hacc hp
def spLRepl (K : PySem.W.Frag) (PL : List LKey) (n : Nat) : Sp := fun vs H Q _ => ∃ v ca ka b cxs kxs ch, ∃ U : Tn n, vs = [v, .ref ca, .ref ka] ∧ LP n H v U ∧ (good n U ∨ (n = 0 ∧ ents n U = [])) ∧ Ok PL (ents n U) ∧
  SqB b K H ca cxs ∧ Paired (EntAt H) cxs ch ∧ ChOk PL ch ∧ ch.length ≤ 1000 ∧ H ka = some (.lst kxs) ∧ Paired (KeyAt H) kxs PL ∧
  ∀ H' p xs, Fq D0 H H' → H p = none → H' p = some (.lst xs) → Paired (LP n H') xs (repl PL n U ch) → Q (.ref p) H'
structure IdxF (K : PySem.W.Frag) (H : Hp) (ka : Addr) (PL : List LKey) (v : V) (k : LKey) : Prop where
  a : Dp K H (.ref ka) (.list (PL.map keyD))
  b : Dp K H v (keyD k)
  c : SeqAt.shaped (.list (PL.map keyD)) = true
  d : SeqAt.shaped (keyD k) = true
  e : (PL.map keyD)[ixK PL k]? = some (keyD k)
  f : PyData.eqv (keyD k) (keyD k) = true
  g : ∀ (m : Nat) (z' : PyData), m < ixK PL k → (PL.map keyD)[m]? = some z' → PyData.eqv z' (keyD k) = false
theorem idx_f {K : PySem.W.Frag} {H : Hp} {ka : Addr} {kxs : List V} {PL : List LKey} {v : V} {k : LKey} (hP : PLok PL) (h1 : H ka = some (.lst kxs)) (h2 : Paired (KeyAt H) kxs PL) (h3 : KeyAt H v k) (h4 : k ∈ PL) : IdxF K H ka PL v k :=
  ⟨.lst (.inl (.inl h1)) (keys_dp h2), Td.dp _ _ h3.td, keys_shaped hP.key, keyD_shaped (hP.key k h4).ok, by rw [List.getElem?_map, ixK_get h4]; rfl, by rw [keyD_eqv]; exact decide_eq_true rfl, fun m z' hm hz => by
    rw [List.getElem?_map] at hz
    cases e : PL[m]? with
    | none => rw [e] at hz; cases hz
    | some z =>
      rw [e] at hz
      cases hz
      rw [keyD_eqv]
      exact decide_eq_false (ixK_ahead hm e)⟩
theorem SqB.ix0 {K : PySem.W.Frag} {H : Hp} {Q : VK} {b : Bool} {a : Addr} {xs : List V} {i : Nat} {v : V} (h : SqB b K H a xs) (e : xs[i]? = some v) (q : Q v H) : rIxA K (.ref a) (.int (0 + (i : Int))) H Q := by
  rw [Int.zero_add]
  exact h.ix e q
theorem at0 {xs : List V} {i : Nat} {v : V} (e : xs[i]? = some v) : atI xs (0 + (i : Int)) = some v := by
  rw [Int.zero_add]
  exact atI_nat e
theorem at1 {xs : List V} {i : Nat} {v : V} (e : xs[i + 1]? = some v) : atI xs (0 + (i : Int) + 1) = some v := by
  rw [Int.zero_add]
  exact atI_nat e
theorem pl_own {PL : List LKey} (hP : PLok PL) {fs : List LKey} (hs : Sk fs) (hm : ∀ f ∈ fs, f ∈ PL) {k : LKey} (hk : k ∈ PL) {i : Nat} {f : LKey} (hf : fs[i]? = some f) :
    ((if i = 0 then 0 else ixK PL f) ≤ ixK PL k ∧ ixK PL k < (match fs[i + 1]? with | some g => ixK PL g | none => PL.length)) ↔ pl fs k = i := by
  rw [pl_iff hs hf]
  refine and_congr ?_ ?_
  · by_cases z : i = 0
    · rw [if_pos z]
      exact ⟨fun _ => .inl z, fun _ => Nat.zero_le _⟩
    · rw [if_neg z, ixK_le hP.sk (hm f (List.mem_of_getElem? hf)) hk]
      exact ⟨.inr, fun h => h.resolve_left z⟩
  · cases e : fs[i + 1]? with
    | none => exact ⟨fun _ g hg => (by cases hg), fun _ => ixK_lt hk⟩
    | some g =>
      show ixK PL k < ixK PL g ↔ _
      rw [ixK_mono hP.sk hk (hm g (List.mem_of_getElem? e))]
      exact ⟨fun h g' hg => (by cases hg; exact h), fun h => h g rfl⟩
def spLPrev (K : PySem.W.Frag) (PL : List LKey) : Nat → Sp
  | 0 => fun _ _ _ _ => False
  | m + 1 => spLRepl K PL m
theorem scLRepl : FnScope ["page", "changes", "keys", "key", "value", "left", "entries", "children", "k", "first", "child", "places", "low", "high", "own", "part", "j", "made"] ["page", "changes", "keys"] (defScope sLRepl) := ⟨rfl, rfl, rfl, by decide +kernel, rfl, by decide +kernel, by decide +kernel⟩
theorem ok_lrepl_step {PL : List LKey} (hP : PLok PL) {n : Nat} {f fc ff : Addr} {fd fdc fdf : FuncData} (F : Fun K "_law_replaced" "_law_replaced" sLRepl f fd) (B : Bn mg)
    (C : Use P w K mg base 1 "_law_cut" fc fdc ["parts"] spLCut) (Fi : Use P w K mg base 1 "_law_first" ff fdf ["page"] spFirst)
    (Rc : Use P w K mg base (n + 2) "_law_replaced" f fd ["page", "changes", "keys"] (spLPrev K PL n)) : Fg P w K mg base CX0 (n + 3) f fd ["page", "changes", "keys"] (spLRepl K PL n) := by
  refine okG F scLRepl (fun vs H Q E h => ?_) (fun cdv A outer s H vs Q E hr h => ?_)
  · obtain ⟨v, ca, ka, b, cxs, kxs, ch, U, rfl, _⟩ := h
    rfl
  · obtain ⟨v, ca, ka, b, cxs, kxs, ch, U, rfl, lp, g, ok, hca, hch, cho, hc1000, hka, hkx, q⟩ := h
    have nd := scLRepl.nd
    have hr2 : GR 2 (A.deeper (envOfC "_law_replaced" (defScope sLRepl) s.heap.objs.size f cdv)) := hr.mono (by omega)
    refine ⟨_, pss_cons (ps_if (pt_cmpR op_eq (pe_ix ix_tup (pv 0) pe_int (fun _ _ => rfl)) pe_str (nomark _))
        (pss_cons (ps_set (i := 5) nd rfl (.inr rfl) (pe_callTy (r := rDictTP K) (call_dictTP rfl hr2.hu8) (by rfl) B.dict boot_dict (pa_cons (pe_lc (own := [("key", 3), ("value", 4)]) (g := gTup K 2 (gCons (gName 3) (gCons (gName 4) gNil))) (tt := tYes) rfl nd (pi_list (pe_ix ix_tup (pv 0) pe_int (fun _ _ => rfl)))
            (blkOk_by (N := ["page", "changes", "keys", "key", "value", "left", "entries", "children", "k", "first", "child", "places", "low", "high", "own", "part", "j", "made"]) (sc := defScope sLRepl) (by decide +kernel)) (fun _ _ _ _ _ => pg_tup rfl (pgs_cons (pg_name (i := 3) nd rfl (Or.inl rfl)) (pgs_cons (pg_name (i := 4) nd rfl (Or.inl rfl)) pgs_nil))) (fun _ _ _ _ _ => pts_nil) (fun _ _ _ _ _ => pe_tup (pa_cons (pv 3) (pa_cons (pv 4) pa_nil)))) pa_nil)))
        (pss_cons (ps_for PassesOwn.never rfl (pi_sq (pv 1)) (pg_tup rfl (pgs_cons (pg_name (i := 3) nd rfl (.inl rfl)) (pgs_cons (pg_name (i := 4) nd rfl (.inl rfl)) pgs_nil))) (pss_one (ps_dput hr2.hu (pv 5) (pv 3) (pv 4) rfl)))
        (pss_cons (ps_setLc (i := 6) (own := [("key", 3)]) (g := gName 3) rfl nd rfl rfl (sw_true rfl rfl rfl (by decide +kernel)) (pi_list (pv 2))
            (blkOk_by (N := ["page", "changes", "keys", "key", "value", "left", "entries", "children", "k", "first", "child", "places", "low", "high", "own", "part", "j", "made"]) (sc := defScope sLRepl) (by decide +kernel)) (fun _ _ _ _ _ => pg_name (i := 3) nd rfl (Or.inl rfl)) (fun _ _ _ _ _ => pts_one (pt_cmpR op_notN (pe_dget1 hr2.hu (pv 5) (pv 3) ⟨rfl, rfl, rfl, rfl⟩) pe_non (nomark _))) (fun _ _ _ _ _ => pe_tup (pa_cons (pv 3) (pa_cons (pe_dget hr2.hu (pv 5) (pv 3) (fun _ _ => rfl)) pa_nil))))
        (pss_one (ps_ret (pe_lc (own := [("part", 15)]) (g := gName 15) (tt := tYes) rfl nd (pi_list (pu C hr2 (by decide) (by rfl) (pa_cons (pv 6) pa_nil)))
            (blkOk_by (N := ["page", "changes", "keys", "key", "value", "left", "entries", "children", "k", "first", "child", "places", "low", "high", "own", "part", "j", "made"]) (sc := defScope sLRepl) (by decide +kernel)) (fun _ _ _ _ _ => pg_name (i := 15) nd rfl (Or.inl rfl)) (fun _ _ _ _ _ => pts_nil) (fun _ _ _ _ _ => pe_tup (pa_cons pe_str (pa_cons (pv 15) pa_nil)))))))))
        pss_nil)
      (pss_cons (ps_set (i := 7) nd rfl (.inl rfl) (pe_lst pa_nil))
      (pss_cons (ps_for PassesOwn.never rfl (pi_range1 (by rfl) B.range (pa_cons (pe_callB (r := fun xs H Q => ∃ p ys, xs = [.ref p] ∧ (SqL K H p ys ∨ SqT K H p ys) ∧ Q (.int ys.length) H) call_len_seq (by rfl) B.len boot_len (pa_cons (pe_ix ix_tup (pv 0) pe_int (fun _ _ => rfl)) pa_nil)) pa_nil)) (pg_name (i := 8) nd rfl (.inl rfl))
        (pss_cons (ps_asg (pe_ix ix_list (pe_ix ix_tup (pv 0) pe_int (fun _ _ => rfl)) (pv 8) (fun _ _ => rfl)) (pg_tup (by rfl) (pgs_cons (pg_name (i := 9) nd rfl (.inl rfl)) (pgs_cons (pg_name (i := 10) nd rfl (.inl rfl)) pgs_nil))))
        (pss_cons (ps_set (i := 11) nd rfl (.inr rfl) (pe_lc (own := [("key", 3), ("value", 4)]) (g := gTup K 2 (gCons (gName 3) (gCons (gName 4) gNil))) (tt := tYes) rfl nd (pi_sq (pv 1))
            (blkOk_by (N := ["page", "changes", "keys", "key", "value", "left", "entries", "children", "k", "first", "child", "places", "low", "high", "own", "part", "j", "made"]) (sc := defScope sLRepl) (by decide +kernel)) (fun _ _ _ _ _ => pg_tup rfl (pgs_cons (pg_name (i := 3) nd rfl (Or.inl rfl)) (pgs_cons (pg_name (i := 4) nd rfl (Or.inl rfl)) pgs_nil))) (fun _ _ _ _ _ => pts_nil) (fun _ _ _ _ _ => pe_bmK (K := K) (r := rIndexD K) rfl PySem.F.plainAttrs_list PySem.F.slot_list_index PySem.F.type_list_index (mt_indexD hr2.hu65) (pv 2) (pa_cons (pv 3) pa_nil))))
        (pss_cons (ps_set (i := 12) nd rfl (.inr rfl) (pe_cut (pe_ifExp (pt_cmpR op_eq (pv 8) pe_int (nomark _)) pe_int (pe_bm PySem.F.plainAttrs_list PySem.F.slot_list_index PySem.F.type_list_index (mt_indexD hr2.hu65) (pv 2) (pa_cons (pv 9) pa_nil)))))
        (pss_cons (ps_set (i := 13) nd rfl (.inr rfl) (pe_cut (pe_ifExp (pt_cmpR op_lt (pe_op op_add (pv 8) pe_int) (pe_callB call_len_seq (by rfl) B.len boot_len (pa_cons (pe_ix ix_tup (pv 0) pe_int (fun _ _ => rfl)) pa_nil)) (nomark _))
            (pe_bm PySem.F.plainAttrs_list PySem.F.slot_list_index PySem.F.type_list_index (mt_indexD hr2.hu65) (pv 2) (pa_cons (pe_ix ix_tup (pe_ix ix_list (pe_ix ix_tup (pv 0) pe_int (fun _ _ => rfl)) (pe_op op_add (pv 8) pe_int) (fun _ _ => rfl)) pe_int (fun _ _ => rfl)) pa_nil)) (pe_callB call_len_seq (by rfl) B.len boot_len (pa_cons (pv 2) pa_nil)))))
        (pss_cons (ps_setLc (i := 14) (own := [("j", 16)]) (g := gName 16) rfl nd rfl rfl (sw_true rfl rfl rfl (by decide +kernel)) (pi_range1 (by rfl) B.range (pa_cons (pe_callB call_len_seq (by rfl) B.len boot_len (pa_cons (pv 1) pa_nil)) pa_nil))
            (blkOk_by (N := ["page", "changes", "keys", "key", "value", "left", "entries", "children", "k", "first", "child", "places", "low", "high", "own", "part", "j", "made"]) (sc := defScope sLRepl) (by decide +kernel)) (fun _ _ _ _ _ => pg_name (i := 16) nd rfl (Or.inl rfl)) (fun _ _ _ _ _ => pts_one (pt_chain op_le op_lt (pv 12) (pe_ix (r := rIxL K) ix_list (pv 11) (pv 16) (fun _ _ => rfl)) (pv 13))) (fun _ _ _ _ _ => pe_ix (r := rIxA K) ix_any (pv 1) (pv 16) (fun _ _ => rfl)))
        (pss_one (ps_if (pt_cmpR (op_eqNil hr2.hu8) (pv 14) (pe_lst pa_nil) (nomark _))
          (pss_one (ps_expr (pe_bm PySem.F.plainAttrs_list PySem.F.slot_list_append PySem.F.type_list_append mt_append (pv 7) (pa_cons (pe_tup (pa_cons (pv 9) (pa_cons (pv 10) pa_nil))) pa_nil))))
          (pss_one (ps_set (i := 7) nd rfl (.inl rfl) (pe_op op_cat (pv 7) (pe_lc (own := [("made", 17)]) (g := gName 17) (tt := tYes) rfl nd (pi_list (pu Rc hr (Nat.le_refl _) (by rfl) (pa_cons (pv 10) (pa_cons (pv 14) (pa_cons (pv 2) pa_nil)))))
            (blkOk_by (N := ["page", "changes", "keys", "key", "value", "left", "entries", "children", "k", "first", "child", "places", "low", "high", "own", "part", "j", "made"]) (sc := defScope sLRepl) (by decide +kernel)) (fun _ _ _ _ _ => pg_name (i := 17) nd rfl (Or.inl rfl)) (fun _ _ _ _ _ => pts_nil) (fun _ _ _ _ _ => pe_tup (pa_cons (pu Fi hr2 (by decide) (by rfl) (pa_cons (pv 17) pa_nil)) (pa_cons (pv 17) pa_nil)))))))))))))))
      (pss_one (ps_ret (pe_lc (own := [("part", 15)]) (g := gName 15) (tt := tYes) rfl nd (pi_list (pu C hr2 (by decide) (by rfl) (pa_cons (pv 7) pa_nil)))
            (blkOk_by (N := ["page", "changes", "keys", "key", "value", "left", "entries", "children", "k", "first", "child", "places", "low", "high", "own", "part", "j", "made"]) (sc := defScope sLRepl) (by decide +kernel)) (fun _ _ _ _ _ => pg_name (i := 15) nd rfl (Or.inl rfl)) (fun _ _ _ _ _ => pts_nil) (fun _ _ _ _ _ => pe_tup (pa_cons pe_str (pa_cons (pv 15) pa_nil)))))))), ?_⟩
    by_cases n0 : n = 0
    · subst n0
      obtain ⟨es0, e0⟩ : ∃ es0 : List Ent, es0 = U := ⟨U, rfl⟩
      subst e0
      obtain ⟨a, l, xs, rfl, h2, h3, h4⟩ := lp
      refine ⟨_, rfl, a, _, _, _, rfl, rfl, h2.sq, atI_nat (j := 0) rfl, rfl, _, rfl, ?_⟩
      refine ite2 (fun _ => ?_) (fun hc => absurd (decide_eq_true rfl) hc)
      have sd : Sd es0 := ok.1
      have len_of : ∀ {kvi : List (LKey × V)}, (kvi.map (·.1)).Nodup → (∀ kv ∈ kvi, kv.1 ∈ PL) → kvi.length ≤ 100 := fun {kvi} h1 h2 => by
        have := nodup_len (m := PL) h1 fun k m => by
          obtain ⟨kv, mk, rfl⟩ := List.mem_map.mp m
          exact h2 kv mk
        rw [List.length_map] at this
        exact Nat.le_trans this hP.len
      have es100 : es0.length ≤ 100 := by
        have e := ofF_look hP.sk ok.1 ok.2
        have := ofF_len PL (look es0)
        rw [show ofF PL (look es0) = es0 from e] at this
        exact Nat.le_trans this hP.len
      -- left = dict([..])
      refine ⟨_, rfl, a, _, _, _, rfl, rfl, h2.sq, atI_nat (j := 1) rfl, l, rfl, ⟨xs, .inl (.inl h3)⟩, fun D hD => lc_list (K := K) (a := l) (xs := xs) (fun i H' => ∃ acc, Fq D0 H H' ∧ H' D = some (.lst acc) ∧ acc.length = i ∧ Paired (EntAt H') acc (es0.take i)) ⟨[], Fq.new hD, upd_same, rfl, by rw [List.take_zero]; exact .nil⟩ (fun i H' _ ⟨_, f, _⟩ => .inl (.inl (f.toL h3))) ?_ ?_⟩
      · rintro i x H' hx ⟨acc, fr, hacc, hal, hp⟩
        obtain ⟨en, een, e, q0, w0, rfl, t2, t3, t4⟩ := paired_get h4 hx
        have hil : i < es0.length := (List.getElem?_eq_some_iff.mp een).1
        refine ⟨e, _, rfl, (t2.keep fr.tk).sq, rfl, _, _, rfl, _, _, rfl, rfl, rfl, _, rfl, _, rfl, by show 2 ≤ sizeLine; decide, fun p hp0 => ?_⟩
        have f1 : Fq D0 H' (upd H' p (.tup [q0, w0])) := Fq.new hp0
        have hacc1 := f1.toL hacc
        have tk2 : Tk (upd H' p (.tup [q0, w0])) (upd (upd H' p (.tup [q0, w0])) D (.lst (acc ++ [.ref p]))) := (Fr.put (S := S1 D) hacc1 (fun z => z) rfl).tup
        have tkA : Tk H (upd (upd H' p (.tup [q0, w0])) D (.lst (acc ++ [.ref p]))) := fr.tk.trans (f1.tk.trans tk2)
        refine ⟨acc, hacc1, small1000' (by omega), acc ++ [.ref p], (fr.trans f1).own hD, upd_same, by rw [List.length_append, hal]; rfl, ?_⟩
        have et : es0.take (i + 1) = es0.take i ++ [en] := by rw [List.take_add_one, een]; rfl
        rw [et]
        exact paired_snoc ⟨p, q0, w0, rfl, .of (tk2 p _ upd_same trivial), t3.keep tkA, Td.keep tkA _ _ t4⟩ (Paired.mapP hp fun _ _ => EntAt.keep (f1.tk.trans tk2))
      rintro H1 ⟨acc0, f1, hacc0, hal0, hp0⟩
      rw [paired_len h4, List.take_length] at hp0
      obtain ⟨kv0, hk1, hk2, hk3⟩ := ents_kv hp0
      have nd0 : (kv0.map (·.1)).Nodup := by
        rw [hk2]
        unfold List.Nodup
        rw [List.pairwise_map]
        exact List.Pairwise.imp (fun h => klt_ne h) sd
      have in0 : ∀ kv ∈ kv0, kv.1 ∈ PL := fun kv m => by
        have : kv.1 ∈ es0.map (·.1) := by rw [← hk2]; exact List.mem_map.mpr ⟨kv, m, rfl⟩
        obtain ⟨e, me, ee⟩ := List.mem_map.mp this
        rw [← ee]
        exact (ok.2 e me).1
      refine ⟨D, acc0, kv0, rfl, .inr (.inl (.inl hacc0)), hk1, nd0, fun dd hdd => ?_⟩
      have g1 : Fq D0 H (upd H1 dd (.dT kv0)) := f1.snoc hdd
      have hdd0 : H dd = none := f1.toN hdd fun z => z
      -- for key, value in changes
      refine ⟨_, rfl, ca, b, cxs, rfl, g1.seqB hca, fun J wJ => for_it wJ (fun i σ H2 => ∃ kvi v3 v4, σ = [some (.ref a), some (.ref ca), some (.ref ka), v3, v4, some (.ref dd), none, none, none, none, none, none, none, none, none, none, none, none] ∧ Fq D0 H H2 ∧ H2 dd = some (.dT kvi) ∧ DF H2 kvi (updsF (look es0) (ch.take i)) ∧ (kvi.map (·.1)).Nodup ∧ ∀ kv ∈ kvi, kv.1 ∈ PL)
        ⟨kv0, none, none, rfl, g1, upd_same, by rw [List.take_zero]; exact hk3.keep (Fq.new (D := D0) hdd).tk, nd0, in0⟩ (fun i σ H2 _ ⟨_, _, _, _, f, _⟩ => f.seqB hca) ?_ ?_⟩
      · rintro i x σ H2 H3 hi ⟨kvi, v6, v7, rfl, f2, hd2, df, ndi, ini⟩ ⟨rfl, hx⟩
        obtain ⟨en, een, e, q0, w0, rfl, t2, ⟨bk, rfl, hb⟩, tdv⟩ := paired_get hch hx
        have hl := len_of ndi ini
        refine ⟨e, _, rfl, (t2.keep f2.tk).sq, rfl, _, _, rfl, _, _, rfl, rfl, _, rfl, _, rfl, _, rfl, dd, _, rfl, DPut.t hd2 (f2.toT hb) (small1000' (by omega)), ?_⟩
        have t5 : Tk H3 (upd H3 dd (.dT (putK kvi en.1 w0))) := (Fr.put (S := S1 dd) hd2 (fun z => z) rfl).tup
        have et : ch.take (i + 1) = ch.take i ++ [en] := by rw [List.take_add_one, een]; rfl
        refine ⟨_, some (.ref bk), some w0, rfl, f2.own hdd0, upd_same, ?_, nd_put ndi, fun kv m => (putK_mem m).elim (fun e => ?_) (ini kv)⟩
        · refine ((df.put (Td.keep f2.tk _ _ tdv)).keep t5).congr fun k => ?_
          rw [et, upds_snoc]
        · rw [e]
          exact (cho en (List.mem_of_getElem? een)).1
      rintro σ H2 ⟨kvi, v6, v7, rfl, f2, hd2, df, ndi, ini⟩
      rw [paired_len hch, List.take_length] at df
      have hl := len_of ndi ini
      generalize hFF : updsF (look es0) ch = FF at df
      have hvd : ∀ {H' : Hp}, DF H' kvi FF → ∀ k, Td H' ((valV kvi k).getD .non) (FF k) := fun {H'} d k => by
        cases e : valV kvi k with
        | some v => exact d.yes k v e
        | none => rw [d.no k e]; exact Td.none'.mpr rfl
      -- entries = [..]
      refine ⟨_, rfl, ka, rfl, ⟨_, .inl (.inl (f2.toL hka))⟩, fun D2 hD2 => lc_list (K := K) (a := ka) (xs := kxs) (fun i H' => ∃ acc, Fq D0 H2 H' ∧ H' D2 = some (.lst acc) ∧ acc.length ≤ i ∧ Paired (EntAt H') acc (((PL.take i).filter fun k => !isN (FF k)).map fun k => (k, FF k))) ⟨[], Fq.new hD2, upd_same, Nat.le_refl _, by rw [List.take_zero]; exact .nil⟩ (fun i H' _ ⟨_, f, _⟩ => .inl (.inl (f.toL (f2.toL hka)))) ?_ ?_⟩
      · rintro i x H3 hx ⟨acc, f3, hacc, hal, hp⟩
        obtain ⟨k, ek, bk, rfl, hb⟩ := paired_get hkx hx
        have hb3 : H3 bk = some (.tup (k.map kV)) := f3.toT (f2.toT hb)
        have hd3 := f3.toDT hd2
        have hil : i < PL.length := (List.getElem?_eq_some_iff.mp ek).1
        have hP100 := hP.len
        have dg0 : DGet H3 dd (.ref bk) (valV kvi k) := DGet.t (k := k) hd3 hb3
        have df3 := df.keep f3.tk
        have etk : ((PL.take (i + 1)).filter fun k => !isN (FF k)).map (fun k => (k, FF k)) = ((PL.take i).filter fun k => !isN (FF k)).map (fun k => (k, FF k)) ++ (if (!isN (FF k)) = true then [(k, FF k)] else []) := by
          rw [List.take_add_one, ek, List.filter_append, List.map_append]
          congr 1
          show List.map _ (List.filter _ [k]) = _
          rw [List.filter_cons, List.filter_nil]
          split <;> rfl
        refine ⟨rfl, _, rfl, dd, rfl, .inr ⟨kvi, .inl hd3⟩, _, rfl, _, dg0, rfl, _, rfl, ?_⟩
        rw [td_non (hvd df3 k)]
        refine ite2 (fun hc => ?_) (fun hc => ?_)
        · obtain ⟨v, ev⟩ : ∃ v, valV kvi k = some v := by
            cases e : valV kvi k with
            | some v => exact ⟨v, rfl⟩
            | none => rw [df.no k e] at hc; cases hc
          rw [ev] at dg0
          refine ⟨_, rfl, _, rfl, _, rfl, dd, v, rfl, dg0, by show 2 ≤ sizeLine; decide, fun p hp0 => ?_⟩
          have f4 : Fq D0 H3 (upd H3 p (.tup [.ref bk, v])) := Fq.new hp0
          have hacc4 := f4.toL hacc
          have t6 : Tk (upd H3 p (.tup [.ref bk, v])) (upd (upd H3 p (.tup [.ref bk, v])) D2 (.lst (acc ++ [.ref p]))) := (Fr.put (S := S1 D2) hacc4 (fun z => z) rfl).tup
          refine ⟨acc, hacc4, small1000' (by omega), acc ++ [.ref p], (f3.trans f4).own hD2, upd_same, by rw [List.length_append]; exact Nat.succ_le_succ hal, ?_⟩
          rw [etk, if_pos hc]
          exact paired_snoc ⟨p, .ref bk, v, rfl, .of (t6 p _ upd_same trivial), ⟨bk, rfl, t6 bk _ (f4.toT hb3) trivial⟩, Td.keep (f4.tk.trans t6) _ _ (df3.yes k v ev)⟩ (Paired.mapP hp fun _ _ => EntAt.keep (f4.tk.trans t6))
        · refine ⟨acc, f3, hacc, Nat.le_succ_of_le hal, ?_⟩
          rw [etk, if_neg hc, List.append_nil]
          exact hp
      rintro H3 ⟨acc, f3, hacc, hal, hp⟩
      rw [paired_len hkx, List.take_length] at hp
      rw [paired_len hkx] at hal
      have hP100 := hP.len
      have hp : Paired (EntAt H3) acc (ofF PL FF) := hp
      -- return [..]
      refine ⟨_, rfl, D2, acc, rfl, hacc, by omega, fun H6 cp cys f6 hcp hc6 hcy => ?_⟩
      have hp6 : Paired (EntAt H6) acc (ofF PL FF) := Paired.mapP hp fun _ _ => EntAt.keep f6.tk
      have er : repl PL 0 es0 ch = cutL (ofF PL FF) := by rw [← hFF]; rfl
      have fr6 := (f2.trans f3).trans f6
      have pz2 : List.length (α := Tn 0) (cutL (ofF PL FF)) ≤ 1000 := by
        show List.length (α := List Ent) (cutL (ofF PL FF)) ≤ 1000
        have pl : (cutL (ofF PL FF)).length ≤ (ofF PL FF).length := by rw [cut_len]; exact cutN_le _
        have ol := ofF_len PL FF
        omega
      refine ⟨cp, rfl, ⟨_, .inl (.inl hc6)⟩, fun D3 hD3 => lcut_lc (K := K) (n := 0) (ps := 15) (yss := cutL acc) (pcs := cutL (ofF PL FF)) (by show 15 < 18; decide) hc6 hcy (cut_paired hp6) hD3 pz2 fun H7 acc3 f7 hD7 lp7 => ?_⟩
      refine q H7 D3 acc3 (fr6.trans f7) (fr6.toN hD3 fun z => z) hD7 ?_
      rw [er]
      exact Paired.mapP lp7 fun _ _ => LP.keep (hid_le (D := D0))
    · obtain ⟨m, rfl⟩ := Nat.exists_eq_succ_of_ne_zero n0
      obtain ⟨cs, e0⟩ : ∃ cs : List (LKey × Tn m), cs = U := ⟨U, rfl⟩
      subst e0
      obtain ⟨a, l, xs, rfl, h2, h3, h4⟩ := lp
      refine ⟨_, rfl, a, _, _, _, rfl, rfl, h2.sq, atI_nat (j := 0) rfl, rfl, _, rfl, ?_⟩
      refine ite2 (fun hc => absurd (of_decide_eq_true hc) not_leaf) (fun _ => ?_)
      have gw : good (m + 1) cs := g.resolve_right fun z => Nat.succ_ne_zero m z.1
      obtain ⟨g1, g2, g3⟩ := id gw
      have gc : goodC cs := g3
      have sd : Sd (cents cs) := ok.1
      have exl : xs.length = cs.length := paired_len h4
      have okc : ∀ c ∈ cs, Ok PL (ents m c.2) := fun c mc => ⟨sd_kid sd mc, fun e me => ok.2 e (List.mem_flatMap.mpr ⟨c, mc, me⟩)⟩
      have inP : ∀ f ∈ fsT cs, f ∈ PL := fun f mf => by
        obtain ⟨c, mc, rfl⟩ := List.mem_map.mp mf
        obtain ⟨d, r, e⟩ := head_ents (gc c mc).1
        rw [(gc c mc).2]
        exact ((okc c mc).2 (fstT m c.2, d) (by rw [e]; exact List.mem_cons_self)).1
      obtain ⟨sp1, sp2⟩ := repl_spec hP.sk (m + 1) cs ch (.inr gw) ok
      have er : repl PL (m + 1) cs ch = cutL (kids (repl PL m) cs ch cs.length) := rfl
      have ek : (repl PL (m + 1) cs ch).flatMap (ents (m + 1)) = cents (kids (repl PL m) cs ch cs.length) := by rw [er]; exact cents_cut _
      rw [ek] at sp2
      have gk : goodC (kids (repl PL m) cs ch cs.length) := fun c mc => by
        have mc2 : c ∈ (cutL (kids (repl PL m) cs ch cs.length)).flatten := by rw [cut_flat]; exact mc
        obtain ⟨p, mp, mcp⟩ := List.mem_flatten.mp mc2
        exact (sp1 p mp).2.2 c mcp
      have htot : (cents (kids (repl PL m) cs ch cs.length)).length ≤ 100 := by
        rw [sp2]
        exact Nat.le_trans (ofF_len _ _) hP.len
      have klen : ∀ i ≤ cs.length, (kids (repl PL m) cs ch i).length ≤ 100 := fun i h => by
        have p1 := (kids_pre (repl PL m) cs ch h).length_le
        have : (kids (repl PL m) cs ch cs.length).length ≤ (cents (kids (repl PL m) cs ch cs.length)).length := by
          have := good_len (ts := (kids (repl PL m) cs ch cs.length).map (·.2)) fun t mt => by
            obtain ⟨c, mc, rfl⟩ := List.mem_map.mp mt
            exact (gk c mc).1
          rw [List.length_map, List.flatMap_map] at this
          exact this
        omega
      have hP100 := hP.len
      -- children = []
      refine ⟨Nat.zero_le _, fun cp0 hcp0 => ?_⟩
      have fw : Fq D0 H (upd H cp0 (.lst [])) := Fq.new hcp0
      refine ⟨_, rfl, a, _, _, _, rfl, rfl, (h2.keep fw.tk).sq, atI_nat (j := 1) rfl, l, xs, rfl, .inl (.inl (.inl (fw.toL h3))), _, rfl, by omega, by omega, for_range (n := xs.length) (fun i σ H2 => ∃ cp xs2 v3 v4 v8 v9 v10 v11 v12 v13 v14, σ = [some (.ref a), some (.ref ca), some (.ref ka), v3, v4, none, none, some (.ref cp), v8, v9, v10, v11, v12, v13, v14, none, none, none] ∧ Fq D0 H H2 ∧ H cp = none ∧ H2 cp = some (.lst xs2) ∧ Paired (LK m (hid H2 cp)) xs2 (kids (repl PL m) cs ch i))
        ⟨cp0, [], none, none, none, none, none, none, none, none, none, rfl, fw, hcp0, upd_same, .nil⟩ ?_ ?_⟩
      · rintro i σ H2 hi ⟨cp, xs2, v3, v4, v8, v9, v10, v11, v12, v13, v14, rfl, f2, hcpn, hcp2, hp2⟩
        have hic : i < cs.length := by rw [← exl]; exact hi
        obtain ⟨c, hc⟩ : ∃ c, cs[i]? = some c := ⟨_, List.getElem?_eq_getElem hic⟩
        have mc := List.mem_of_getElem? hc
        obtain ⟨_, ex, e, q0, w0, rfl, h5, h6, h7⟩ := paired_getR h4 hc
        have hfi : (fsT cs)[i]? = some c.1 := by unfold fsT; rw [List.getElem?_map, hc]; rfl
        have hcP : c.1 ∈ PL := inP _ (List.mem_of_getElem? hfi)
        have efl : (fsT cs).length = cs.length := List.length_map ..
        -- first, child = page[1][k]
        refine ⟨_, rfl, a, _, _, _, rfl, rfl, (h2.keep f2.tk).sq, atI_nat (j := 1) rfl, _, rfl, l, xs, _, .ref e, rfl, rfl, .inl (.inl (f2.toL h3)), at0 ex, e, _, rfl, (h5.keep f2.tk).sq, rfl, _, _, rfl, _, _, rfl, rfl, ?_⟩
        -- places = [..]
        refine ⟨_, rfl, ca, b, cxs, rfl, f2.seqB hca, fun J wJ D hD => lc_it wJ (fun j H' => ∃ acc, Fq D0 H2 H' ∧ H' D = some (.lst acc) ∧ acc = (ch.take j).map fun c' => V.int (ixK PL c'.1 : Nat))
          ⟨[], Fq.new hD, upd_same, by rw [List.take_zero]; rfl⟩ (fun j H' _ ⟨_, f, _⟩ => f.seqB (f2.seqB hca)) ?_ ?_⟩
        · rintro j x4 H3 H4 hj ⟨acc, f3, hacc, eacc⟩ ⟨rfl, hx⟩
          obtain ⟨en, een, e', q1, w1, rfl, t2, t3, t4⟩ := paired_get hch hx
          have f24 := f2.trans f3
          refine ⟨e', _, rfl, (t2.keep f24.tk).sq, rfl, _, _, rfl, _, _, rfl, rfl, rfl, _, rfl, .inl ⟨rfl, _, .inl (.inl (f24.toL hka))⟩, _, rfl, ?_⟩
          have ix := idx_f (K := K) hP (f24.toL hka) (Paired.mapP hkx fun _ _ => KeyAt.keep f24.tk) (t3.keep f24.tk) (cho en (List.mem_of_getElem? een)).1
          refine ⟨ka, q1, keyD en.1, PL.map keyD, ixK PL en.1, keyD en.1, rfl, rfl, ix.a, ix.b, ix.c, ix.d, ix.e, ix.f, ix.g, acc, hacc, ?_, acc ++ [.int (ixK PL en.1 : Nat)], f3.own hD, upd_same, ?_⟩
          · rw [eacc, List.length_map, List.length_take]
            exact small1000' (Nat.le_trans (Nat.min_le_right _ _) hc1000)
          · have et : ch.take (j + 1) = ch.take j ++ [en] := by rw [List.take_add_one, een]; rfl
            rw [et, List.map_append, eacc]
            rfl
        rintro H3 ⟨acc, f3, hacc, eacc⟩
        rw [paired_len hch, List.take_length] at eacc
        have f23 := f2.trans f3
        -- low
        refine ⟨fun v H5 => v = .int ((if i = 0 then 0 else ixK PL c.1 : Nat) : Int) ∧ H5 = H3, ?_, ?_⟩
        · refine ⟨_, rfl, rfl, _, rfl, ?_⟩
          refine ite2 (fun hz => ?_) (fun hz => ?_)
          · have hz : i = 0 := by
              have := of_decide_eq_true hz
              injection this with this
              omega
            exact ⟨by rw [if_pos hz]; rfl, rfl⟩
          · have hz : ¬ i = 0 := fun z => hz (decide_eq_true (by rw [z]; rfl))
            refine ⟨_, rfl, .inl ⟨rfl, _, .inl (.inl (f23.toL hka))⟩, _, rfl, ?_⟩
            have ix := idx_f (K := K) hP (f23.toL hka) (Paired.mapP hkx fun _ _ => KeyAt.keep f23.tk) (h6.keep f23.tk) hcP
            exact ⟨ka, q0, keyD c.1, PL.map keyD, ixK PL c.1, keyD c.1, rfl, rfl, ix.a, ix.b, ix.c, ix.d, ix.e, ix.f, ix.g, by rw [if_neg hz], rfl⟩
        rintro _ H5 ⟨rfl, e5⟩
        have e5 := e5.symm
        subst e5
        -- high
        refine ⟨fun v H5 => v = .int ((match (fsT cs)[i + 1]? with | some g => ixK PL g | none => PL.length : Nat) : Int) ∧ H5 = H3, ?_, ?_⟩
        · refine ⟨_, rfl, _, _, rfl, rfl, _, rfl, a, _, _, _, rfl, rfl, (h2.keep f23.tk).sq, atI_nat (j := 1) rfl, l, xs, rfl, .inl (.inl (.inl (f23.toL h3))), _, _, rfl, rfl, _, rfl, ?_⟩
          refine ite2 (fun hz => ?_) (fun hz => ?_)
          · have hz : i + 1 < cs.length := by
              have := of_decide_eq_true hz
              rw [exl] at this
              omega
            obtain ⟨c', hc'⟩ : ∃ c', cs[i + 1]? = some c' := ⟨_, List.getElem?_eq_getElem hz⟩
            obtain ⟨_, ex', e', q0', w0', rfl, h5', h6', h7'⟩ := paired_getR h4 hc'
            have hfi' : (fsT cs)[i + 1]? = some c'.1 := by unfold fsT; rw [List.getElem?_map, hc']; rfl
            refine ⟨_, rfl, .inl ⟨rfl, _, .inl (.inl (f23.toL hka))⟩, _, rfl, a, _, _, _, rfl, rfl, (h2.keep f23.tk).sq, atI_nat (j := 1) rfl, _, rfl, _, _, rfl, rfl, l, xs, _, .ref e', rfl, rfl, .inl (.inl (f23.toL h3)), at1 ex', e', _, _, q0', rfl, rfl, (h5'.keep f23.tk).sq, atI_nat (j := 0) rfl, ?_⟩
            have ix := idx_f (K := K) hP (f23.toL hka) (Paired.mapP hkx fun _ _ => KeyAt.keep f23.tk) (h6'.keep f23.tk) (inP _ (List.mem_of_getElem? hfi'))
            exact ⟨ka, q0', keyD c'.1, PL.map keyD, ixK PL c'.1, keyD c'.1, rfl, rfl, ix.a, ix.b, ix.c, ix.d, ix.e, ix.f, ix.g, by rw [hfi'], rfl⟩
          · have hz : ¬ i + 1 < cs.length := fun z => hz (decide_eq_true (by rw [exl]; omega))
            have hfi' : (fsT cs)[i + 1]? = none := List.getElem?_eq_none (by rw [efl]; omega)
            exact ⟨_, rfl, ka, kxs, rfl, .inl (.inl (.inl (f23.toL hka))), by rw [hfi', paired_len hkx], rfl⟩
        rintro _ H5 ⟨rfl, e5⟩
        have e5 := e5.symm
        subst e5
        -- own = [..]
        have ecl : cxs.length = ch.length := paired_len hch
        refine ⟨_, rfl, ca, cxs, rfl, (f23.seqB hca).any, _, rfl, by omega, by omega, fun D2 hD2 => lc_range (n := cxs.length) (fun j H' => ∃ acc2, Fq D0 H3 H' ∧ H' D2 = some (.lst acc2) ∧ acc2.length ≤ j ∧ Paired (EntAt H') acc2 ((ch.take j).filter fun c' => pl (fsT cs) c'.1 == i)) ⟨[], Fq.new hD2, upd_same, Nat.le_refl _, by rw [List.take_zero]; exact .nil⟩ ?_ ?_⟩
        · rintro j H4 hj ⟨acc2, f4, hacc2, hal2, hp⟩
          obtain ⟨en, een⟩ : ∃ en, ch[j]? = some en := ⟨_, List.getElem?_eq_getElem (by rw [← ecl]; exact hj)⟩
          obtain ⟨xv, exv, hent⟩ := paired_getR hch een
          have f234 := f23.trans f4
          have hacc4 : H4 D = some (.lst acc) := f4.toL hacc
          have eplace : acc[j]? = some (.int (ixK PL en.1 : Nat)) := by rw [eacc, List.getElem?_map, een]; rfl
          have hown := pl_own hP (fsT_sorted gc sd) inP (cho en (List.mem_of_getElem? een)).1 hfi
          have etk : (ch.take (j + 1)).filter (fun c' => pl (fsT cs) c'.1 == i) = (ch.take j).filter (fun c' => pl (fsT cs) c'.1 == i) ++ (if (pl (fsT cs) en.1 == i) = true then [en] else []) := by
            rw [List.take_add_one, een, List.filter_append]
            congr 1
            show List.filter _ [en] = _
            rw [List.filter_cons, List.filter_nil]
          have no : ¬ pl (fsT cs) en.1 = i → ∃ acc2, Fq D0 H3 H4 ∧ H4 D2 = some (.lst acc2) ∧ acc2.length ≤ j + 1 ∧ Paired (EntAt H4) acc2 ((ch.take (j + 1)).filter fun c' => pl (fsT cs) c'.1 == i) := fun z => by
            refine ⟨acc2, f4, hacc2, Nat.le_succ_of_le hal2, ?_⟩
            rw [etk, if_neg (by simpa using z), List.append_nil]
            exact hp
          refine ⟨rfl, _, rfl, _, rfl, _, rfl, D, acc, _, _, rfl, rfl, .inl (.inl hacc4), at0 eplace, _, _, rfl, rfl, _, rfl, ?_⟩
          refine ite2 (fun h1c => ?_) (fun h1c => ?_)
          · have h1c := of_decide_eq_true h1c
            refine ⟨_, rfl, _, _, rfl, rfl, _, rfl, ?_⟩
            refine ite2 (fun h2c => ?_) (fun h2c => ?_)
            · have h2c := of_decide_eq_true h2c
              have hpl : pl (fsT cs) en.1 = i := hown.mp ⟨by omega, by omega⟩
              refine ⟨_, rfl, _, rfl, (f234.seqB hca).ix0 exv ?_⟩
              have t6 : Tk H4 (upd H4 D2 (.lst (acc2 ++ [xv]))) := (Fr.put (S := S1 D2) hacc2 (fun z => z) rfl).tup
              refine ⟨acc2, hacc2, small1000' (by omega), acc2 ++ [xv], f4.own hD2, upd_same, by rw [List.length_append]; exact Nat.succ_le_succ hal2, ?_⟩
              rw [etk, if_pos (by simpa using hpl)]
              exact paired_snoc (hent.keep (f234.tk.trans t6)) (Paired.mapP hp fun _ _ => EntAt.keep t6)
            · exact no fun z => h2c (decide_eq_true (by have := (hown.mpr z).2; omega))
          · exact ⟨false, rfl, iteF (no fun z => h1c (decide_eq_true (by have := (hown.mpr z).1; omega)))⟩
        rintro H4 ⟨acc2, f4, hacc2, hal2, hp⟩
        rw [ecl, List.take_length] at hp
        have hp : Paired (EntAt H4) acc2 (ownT cs ch i) := hp
        have f24 : Fq D0 H2 H4 := f3.trans f4
        have f04 := f2.trans f24
        have hcp4 := f24.toL hcp2
        have hp24 : Paired (LK m (hid H4 cp)) xs2 (kids (repl PL m) cs ch i) := Paired.mapP hp2 fun _ _ => LK.keep (hid_fq f24)
        have hxl2 : xs2.length ≤ 100 := by rw [paired_len hp2]; exact klen i (Nat.le_of_lt hic)
        have hem : acc2.isEmpty = (ownT cs ch i).isEmpty := by
          have := paired_len hp
          cases acc2 <;> cases ho : ownT cs ch i <;> rw [ho] at this <;> first | rfl | cases this
        -- if own == []
        refine ⟨_, rfl, Nat.zero_le _, fun pe hpe => ?_⟩
        have f5 : Fq D0 H4 (upd H4 pe (.lst [])) := Fq.new hpe
        have f05 := f04.trans f5
        refine ⟨D2, pe, acc2, rfl, rfl, ne_of_none hacc2 hpe, .inl (.inl (f5.toL hacc2)), .inl (.inl upd_same), _, rfl, ?_⟩
        have hcp5 := f5.toL hcp4
        have hp25 : Paired (LK m (hid (upd H4 pe (.lst [])) cp)) xs2 (kids (repl PL m) cs ch i) := Paired.mapP hp24 fun _ _ => LK.keep (hid_fq f5)
        have hacc5 := f5.toL hacc2
        have hp5 : Paired (EntAt (upd H4 pe (.lst []))) acc2 (ownT cs ch i) := Paired.mapP hp fun _ _ => EntAt.keep f5.tk
        generalize upd H4 pe (.lst []) = H5 at *
        rw [hem]
        cases hown : (ownT cs ch i).isEmpty with
        | true =>
          refine iteT ?_
          have ekid : kid (repl PL m) cs ch i = [c] := by
            unfold kid
            rw [hc]
            dsimp only
            rw [hown, if_pos rfl]
          refine ⟨_, rfl, .inl ⟨rfl, _, .inl (.inl hcp5)⟩, _, rfl, _, rfl, by show 2 ≤ sizeLine; decide, fun p hp0 => ?_⟩
          have f6 : Fq D0 H5 (upd H5 p (.tup [q0, w0])) := Fq.new hp0
          have hcp6 := f6.toL hcp5
          have npc : p ≠ cp := fun z => by rw [z, hcp5] at hp0; cases hp0
          have fh : Fq D0 H (hid (upd H5 p (.tup [q0, w0])) cp) := hid_new hcpn (f05.trans f6)
          refine ⟨cp, xs2, _, rfl, rfl, hcp6, small1000' (by omega), cp, xs2 ++ [.ref p], v3, v4, some (.int (0 + (i : Int))), some q0, some w0, some (.ref D), _, _, some (.ref D2), rfl, (f05.trans f6).own hcpn, hcpn, upd_same, ?_⟩
          rw [kids_succ, ekid, hid_upd]
          refine paired_app (Paired.mapP hp25 fun _ _ => LK.keep (hid_fq f6)) (.cons ⟨p, q0, w0, rfl, .of ?_, h6.keep fh.tk, h7.keep fh⟩ .nil)
          rw [hid_ne npc]
          exact upd_same
        | false =>
          refine iteF ?_
          have ekid : kid (repl PL m) cs ch i = (repl PL m c.2 (ownT cs ch i)).map fun p => (fstT m p, p) := by
            unfold kid
            rw [hc]
            dsimp only
            rw [hown, if_neg Bool.false_ne_true]
          obtain ⟨r1, r2⟩ := repl_spec hP.sk m c.2 (ownT cs ch i) (.inr (gc c mc).1) (okc c mc)
          have rl : (repl PL m c.2 (ownT cs ch i)).length ≤ 100 := by
            have := good_len r1
            rw [r2] at this
            have := ofF_len PL (updsF (look (ents m c.2)) (ownT cs ch i))
            omega
          refine ⟨_, rfl, _, rfl, _, rfl, _, rfl, w0, D2, ka, true, acc2, kxs, ownT cs ch i, c.2, rfl, h7.keep f05, .inl (gc c mc).1, okc c mc, .inl (.inl hacc5), hp5, fun c' m' => cho c' (List.mem_filter.mp m').1, Nat.le_trans (List.length_filter_le _ _) hc1000, f05.toL hka, Paired.mapP hkx fun _ _ => KeyAt.keep f05.tk, fun H6 p6 xs6 f6 hp6 hx6 lp6 => ?_⟩
          refine ⟨p6, rfl, ⟨_, .inl (.inl hx6)⟩, fun D3 hD3 => lc_list (K := K) (a := p6) (xs := xs6) (fun j H' => ∃ acc3, Fq D0 H6 H' ∧ H' D3 = some (.lst acc3) ∧ acc3.length = j ∧ Paired (LK m (hid H' D3)) acc3 (((repl PL m c.2 (ownT cs ch i)).take j).map fun p => (fstT m p, p))) ⟨[], Fq.new hD3, upd_same, rfl, by rw [List.take_zero]; exact .nil⟩ (fun j H' _ ⟨_, f, _⟩ => .inl (.inl (f.toL hx6))) ?_ ?_⟩
          · rintro j x7 H7 hx ⟨acc3, f7, hacc3, hal3, hp3⟩
            obtain ⟨U7, eU, lp7⟩ := paired_get lp6 hx
            have hjl : j < (repl PL m c.2 (ownT cs ch i)).length := (List.getElem?_eq_some_iff.mp eU).1
            obtain ⟨a7, k7, l7, x8, xs8, e8, t8, hl8, pk8⟩ := (lp7.keep f7).op (r1 U7 (List.mem_of_getElem? eU))
            refine ⟨rfl, _, rfl, a7, k7, l7, x8, xs8, fstT m U7, by rw [e8]; rfl, t8, hl8, pk8, fun kv hkv => ?_⟩
            obtain ⟨bk, rfl, hbk⟩ := hkv
            refine ⟨_, rfl, by show 2 ≤ sizeLine; decide, fun p hp0 => ?_⟩
            have f8 : Fq D0 H7 (upd H7 p (.tup [.ref bk, x7])) := Fq.new hp0
            have hacc8 := f8.toL hacc3
            have npD : p ≠ D3 := fun z => by rw [z, hacc3] at hp0; cases hp0
            have fh : Fq D0 H6 (hid (upd H7 p (.tup [.ref bk, x7])) D3) := hid_new hD3 (f7.trans f8)
            refine ⟨acc3, hacc8, small1000' (by omega), acc3 ++ [.ref p], (f7.trans f8).own hD3, upd_same, by rw [List.length_append, hal3]; rfl, ?_⟩
            have et : (repl PL m c.2 (ownT cs ch i)).take (j + 1) = (repl PL m c.2 (ownT cs ch i)).take j ++ [U7] := by rw [List.take_add_one, eU]; rfl
            rw [et, List.map_append, hid_upd]
            refine paired_app (Paired.mapP hp3 fun _ _ => LK.keep (hid_fq f8)) (.cons ⟨p, .ref bk, x7, rfl, .of ?_, ⟨bk, rfl, ?_⟩, lp7.keep fh⟩ .nil)
            · rw [hid_ne npD]
              exact upd_same
            · rw [hid_ne (fun z => by rw [z, hacc3] at hbk; cases hbk)]
              exact f8.toT hbk
          rintro H7 ⟨acc3, f7, hacc3, hal3, hp3⟩
          rw [paired_len lp6, List.take_length] at hp3
          have hal3 : acc3.length ≤ 100 := by
            rw [hal3, paired_len lp6]
            exact rl
          have f57 := f6.trans f7
          have f07 := f05.trans f57
          refine ⟨cp, D3, xs2, acc3, rfl, rfl, f57.toL hcp5, hacc3, ?_, fun cq hcq => ?_⟩
          · have : sizeLine = 16777216 := by decide
            omega
          have f8 : Fq D0 H7 (upd H7 cq (.lst (xs2 ++ acc3))) := Fq.new hcq
          have fhq : Fq D0 H7 (hid (upd H7 cq (.lst (xs2 ++ acc3))) cq) := hid_new hcq f8
          refine ⟨cq, xs2 ++ acc3, v3, v4, some (.int (0 + (i : Int))), some q0, some w0, some (.ref D), _, _, some (.ref D2), rfl, f07.trans f8, f07.toN hcq fun z => z, upd_same, ?_⟩
          rw [kids_succ, ekid]
          exact paired_app (Paired.mapP hp25 fun _ _ h => ((h.keep (hid_le (D := D0))).keep f57).keep fhq) (Paired.mapP hp3 fun _ _ h => (h.keep (hid_le (D := D0))).keep fhq)
      rintro σ H2 ⟨cp, xs2, v3, v4, v8, v9, v10, v11, v12, v13, v14, rfl, f2, hcpn, hcp2, hp2⟩
      rw [exl] at hp2
      have hxl2 : xs2.length ≤ 100 := by rw [paired_len hp2]; exact klen _ (Nat.le_refl _)
      have hp3 : Paired (LK m H2) xs2 (kids (repl PL m) cs ch cs.length) := Paired.mapP hp2 fun _ _ => LK.keep (hid_le (D := D0))
      refine ⟨_, rfl, cp, xs2, rfl, hcp2, by omega, fun H3 cq cys f3 hcq hc3 hcy => ?_⟩
      have f03 := f2.trans f3
      have hp4 : Paired (LK m H3) xs2 (kids (repl PL m) cs ch cs.length) := Paired.mapP hp3 fun _ _ => LK.keep f3
      have pz2 : List.length (α := Tn (m + 1)) (cutL (kids (repl PL m) cs ch cs.length)) ≤ 1000 := by
        show List.length (α := List (LKey × Tn m)) (cutL (kids (repl PL m) cs ch cs.length)) ≤ 1000
        rw [cut_len]
        have := cutN_le (kids (repl PL m) cs ch cs.length).length
        have := klen _ (Nat.le_refl _)
        omega
      refine ⟨cq, rfl, ⟨_, .inl (.inl hc3)⟩, fun D3 hD3 => lcut_lc (K := K) (n := m + 1) (ps := 15) (yss := cutL xs2) (pcs := cutL (kids (repl PL m) cs ch cs.length)) (by show 15 < 18; decide) hc3 hcy (cut_paired hp4) hD3 pz2 fun H7 acc3 f7 hD7 lp7 => ?_⟩
      refine q H7 D3 acc3 (f03.trans f7) (f03.toN hD3 fun z => z) hD7 ?_
      rw [er]
      exact Paired.mapP lp7 fun _ _ => LP.keep (hid_le (D := D0))
end
end G

/-! _law_changed. -/
namespace G
open PySem PySem.Spec PyProof.Rows L2
section
variable {P : Program} {w : World} {K : PySem.W.Frag} {mg : Str → Option Value} {base : Heap} {CR CT : Addr}
theorem ok_lrepl {PL : List LKey} (hP : PLok PL) {f fc ff : Addr} {fd fdc fdf : FuncData} (F : Fun K "_law_replaced" "_law_replaced" sLRepl f fd) (B : Bn mg)
    (C : Use P w K mg base 1 "_law_cut" fc fdc ["parts"] spLCut) (Fi : Use P w K mg base 1 "_law_first" ff fdf ["page"] spFirst)
    (mgf : mg "_law_replaced" = some (.ref f)) (kp : PySem.W.keepIn K (.ref f) = true) (b : Binds K fd ["page", "changes", "keys"] []) : ∀ n, Fg P w K mg base CX0 (n + 3) f fd ["page", "changes", "keys"] (spLRepl K PL n)
  | 0 => ok_lrepl_step hP F B C Fi ⟨mgf, kp, b, fg_false⟩
  | n + 1 => ok_lrepl_step hP F B C Fi ⟨mgf, kp, b, ok_lrepl hP F B C Fi mgf kp b n⟩
def spLReplN (K : PySem.W.Frag) (PL : List LKey) (N : Nat) : Sp := fun vs H Q E => ∃ n, n ≤ N ∧ spLRepl K PL n vs H Q E
theorem fg_lrepl {PL : List LKey} {N : Nat} {f : Addr} {fd : FuncData} {ps : List Str} (G : ∀ n, Fg P w K mg base CX0 (n + 3) f fd ps (spLRepl K PL n)) : Fg P w K mg base CX0 (N + 3) f fd ps (spLReplN K PL N) :=
  ⟨fun vs H Q E ⟨n, h, q⟩ => (G n).len vs H Q E q, fun A outer s H args us vs Q E hr he hb hv ⟨n, h, q⟩ => ((G n).mono (by omega)).run A outer s H args us vs Q E hr he hb hv q⟩
def spLChg (K : PySem.W.Frag) (PL : List LKey) (N : Nat) : Sp := fun vs H Q _ => ∃ v ca ka b cxs kxs ch, ∃ T : Nd, vs = [v, .ref ca, .ref ka] ∧ T.1 ≤ N ∧ LP T.1 H v T.2 ∧ rgood T ∧ Ok PL (ents T.1 T.2) ∧
  SqB b K H ca cxs ∧ Paired (EntAt H) cxs ch ∧ ChOk PL ch ∧ ch.length ≤ 1000 ∧ H ka = some (.lst kxs) ∧ Paired (KeyAt H) kxs PL ∧ ∀ H' r, Fq D0 H H' → LP (chg PL T ch).1 H' r (chg PL T ch).2 → Q r H'
theorem scLChg : FnScope ["page", "changes", "keys", "pages", "root", "part", "made"] ["page", "changes", "keys"] (defScope sLChg) := ⟨rfl, rfl, rfl, by decide +kernel, rfl, by decide +kernel, by decide +kernel⟩
def LcI (H : Hp) (v : V) (ca ka : Addr) (fin : (m : Nat) × List (Tn m)) (E : List Ent) (m : Nat) (σ : L2.St) (H' : Hp) : Prop :=
  ∃ l, ∃ ps : List (Tn l), ∃ pp pxs, σ = [some v, some (.ref ca), some (.ref ka), some (.ref pp), none, none, none] ∧ Fq D0 H H' ∧ H' pp = some (.lst pxs) ∧ Paired (LP l H') pxs ps ∧ (∀ U ∈ ps, good l U) ∧ ps.flatMap (ents l) = E ∧ ps.length ≤ 6 ^ m ∧ grow m l ps = fin
theorem ok_lchanged {PL : List LKey} (hP : PLok PL) {N : Nat} {f fr fc ff : Addr} {fd fdr fdc fdf : FuncData} (F : Fun K "_law_changed" "_law_changed" sLChg f fd) (B : Bn mg)
    (Rp : Use P w K mg base (N + 3) "_law_replaced" fr fdr ["page", "changes", "keys"] (spLReplN K PL N)) (C : Use P w K mg base 1 "_law_cut" fc fdc ["parts"] spLCut) (Fi : Use P w K mg base 1 "_law_first" ff fdf ["page"] spFirst) :
    Fg P w K mg base CX0 (N + 4) f fd ["page", "changes", "keys"] (spLChg K PL N) := by
  refine okG F scLChg (fun vs H Q E h => ?_) (fun cdv A outer s H vs Q E hr h => ?_)
  · obtain ⟨v, ca, ka, b, cxs, kxs, ch, T0, rfl, _⟩ := h
    rfl
  · obtain ⟨v, ca, ka, b, cxs, kxs, ch, ⟨n, T0⟩, rfl, hnN, lp, rgd, ok, hca, hch, cho, hc1000, hka, hkx, q⟩ := h
    have nd := scLChg.nd
    have hr2 : GR 2 (A.deeper (envOfC "_law_changed" (defScope sLChg) s.heap.objs.size f cdv)) := hr.mono (by omega)
    refine ⟨_, pss_cons (ps_set (i := 3) nd rfl (.inl rfl) (pu Rp hr (Nat.le_refl _) (by rfl) (pa_cons (pv 0) (pa_cons (pv 1) (pa_cons (pv 2) pa_nil)))))
      (pss_cons (ps_while PassesOwn.never (pt_cmpR op_gt (pe_callB (r := fun xs H Q => ∃ p ys, xs = [.ref p] ∧ (SqL K H p ys ∨ SqT K H p ys) ∧ Q (.int ys.length) H) call_len_seq (by rfl) B.len boot_len (pa_cons (pv 3) pa_nil)) pe_int (nomark _))
        (pss_one (ps_setLc (i := 3) (own := [("part", 5)]) (g := gName 5) (tt := tYes) rfl nd rfl rfl (sw_true rfl rfl rfl (by decide +kernel)) (pi_list (pu C hr2 (by decide) (by rfl) (pa_cons (pe_lc (own := [("made", 6)]) (g := gName 6) (tt := tYes) rfl nd (pi_list (pv 3))
              (blkOk_by (N := ["page", "changes", "keys", "pages", "root", "part", "made"]) (sc := defScope sLChg) (by decide +kernel)) (fun _ _ _ _ _ => pg_name (i := 6) nd rfl (Or.inl rfl)) (fun _ _ _ _ _ => pts_nil) (fun _ _ _ _ _ => pe_tup (pa_cons (pu Fi hr2 (by decide) (by rfl) (pa_cons (pv 6) pa_nil)) (pa_cons (pv 6) pa_nil)))) pa_nil)))
            (blkOk_by (N := ["page", "changes", "keys", "pages", "root", "part", "made"]) (sc := defScope sLChg) (by decide +kernel)) (fun _ _ _ _ _ => pg_name (i := 5) nd rfl (Or.inl rfl)) (fun _ _ _ _ _ => pts_nil) (fun _ _ _ _ _ => pe_tup (pa_cons pe_str (pa_cons (pv 5) pa_nil))))))
      (pss_cons (ps_set (i := 4) nd rfl (.inl rfl) (pe_cut (pe_ifExp (pt_cmpR (op_neNil hr2.hu8) (pv 3) (pe_lst pa_nil) (nomark _)) (pe_ix ix_list (pv 3) pe_int (fun _ _ => rfl)) (pe_tup (pa_cons pe_str (pa_cons (pe_lst pa_nil) pa_nil))))))
      (pss_cons (ps_cut (ps_while PassesOwn.never (PW.pt (pw_and (pt_cmpR op_eq (pe_ix ix_tup (pv 4) pe_int (fun _ _ => rfl)) pe_str (nomark _)) (pw_and1 (pt_cmpR op_eq (pe_callB call_len_seq (by rfl) B.len boot_len (pa_cons (pe_ix ix_tup (pv 4) pe_int (fun _ _ => rfl)) pa_nil)) pe_int (nomark _)))))
        (pss_one (ps_set (i := 4) nd rfl (.inl rfl) (pe_ix ix_tup (pe_ix ix_list (pe_ix ix_tup (pv 4) pe_int (fun _ _ => rfl)) pe_int (fun _ _ => rfl)) pe_int (fun _ _ => rfl))))))
      (pss_one (ps_ret (pv 4)))))), ?_⟩
    obtain ⟨c1, c2, c3, c4⟩ := chg_spec hP.sk (Nat.le_trans hP.len (by decide)) (ch := ch) rgd ok
    obtain ⟨sp1, sp2⟩ := repl_spec hP.sk n T0 ch (rgd.or.elim .inr fun z => .inl z.1) ok
    have ec0 : chg PL ⟨n, T0⟩ ch = strip (rootOf (grow 3 n (repl PL n T0 ch))).1 (rootOf (grow 3 n (repl PL n T0 ch))).2 := rfl
    have lenE : (ofF PL (updsF (look (ents n T0)) ch)).length ≤ 100 := Nat.le_trans (ofF_len _ _) hP.len
    generalize hE : ofF PL (updsF (look (ents n T0)) ch) = E at lenE sp2 c2
    generalize hfin : grow 3 n (repl PL n T0 ch) = fin at ec0
    refine ⟨_, rfl, _, rfl, _, rfl, n, hnN, v, ca, ka, b, cxs, kxs, ch, T0, rfl, lp, rgd.or, ok, hca, hch, cho, hc1000, hka, hkx, fun H1 pp pxs f1 hpn hpx lps => ?_⟩
    refine ⟨LcI H v ca ka fin E, ⟨3, n, repl PL n T0 ch, pp, pxs, rfl, f1, hpx, lps, sp1, sp2, ?_, hfin⟩, ?_⟩
    · have := good_len sp1
      rw [sp2] at this
      omega
    rintro m σ H' ⟨l, ps, pp, pxs, rfl, fr, hpx, la, gd, fe, h6, egr⟩
    have hpl : pxs.length = ps.length := paired_len la
    have hp100 : ps.length ≤ 100 := by
      have := good_len gd
      rw [fe] at this
      omega
    refine ⟨_, rfl, pp, pxs, rfl, .inl (.inl (.inl hpx)), _, _, rfl, rfl, _, rfl, ?_⟩
    refine ite2 (fun hc => ?_) (fun hc => ?_)
    · have hc : 1 < ps.length := by
        have := of_decide_eq_true hc
        omega
      obtain ⟨m', rfl⟩ : ∃ m', m = m' + 1 := by
        cases m with
        | zero =>
          rw [Nat.pow_zero] at h6
          omega
        | succ m' => exact ⟨m', rfl⟩
      refine ⟨fun σ2 H2 => ∃ m2, m2 < m' + 1 ∧ LcI H v ca ka fin E m2 σ2 H2, fun σ2 H2 h => h, ?_⟩
      refine ⟨_, rfl, pp, rfl, ⟨_, .inl (.inl hpx)⟩, fun D3 hD3 => lc_list (K := K) (a := pp) (xs := pxs) (fun j H2 => ∃ acc3, Fq D0 H' H2 ∧ H2 D3 = some (.lst acc3) ∧ acc3.length = j ∧ Paired (LK l (hid H2 D3)) acc3 ((ps.take j).map fun p => (fstT l p, p))) ⟨[], Fq.new hD3, upd_same, rfl, by rw [List.take_zero]; exact .nil⟩ (fun j H2 _ ⟨_, f, _⟩ => .inl (.inl (f.toL hpx))) ?_ ?_⟩
      · rintro j x7 H7 hx ⟨acc3, f7, hacc3, hal3, hp3⟩
        obtain ⟨U7, eU, lp7⟩ := paired_get la hx
        have hjl : j < ps.length := (List.getElem?_eq_some_iff.mp eU).1
        obtain ⟨a7, k7, l7, x8, xs8, e8, t8, hl8, pk8⟩ := (lp7.keep f7).op (gd U7 (List.mem_of_getElem? eU))
        refine ⟨rfl, _, rfl, a7, k7, l7, x8, xs8, fstT l U7, by rw [e8]; rfl, t8, hl8, pk8, fun kv hkv => ?_⟩
        obtain ⟨bk, rfl, hbk⟩ := hkv
        refine ⟨_, rfl, by show 2 ≤ sizeLine; decide, fun p hp0 => ?_⟩
        have f8 : Fq D0 H7 (upd H7 p (.tup [.ref bk, x7])) := Fq.new hp0
        have hacc8 := f8.toL hacc3
        have npD : p ≠ D3 := fun z => by rw [z, hacc3] at hp0; cases hp0
        have fh : Fq D0 H' (hid (upd H7 p (.tup [.ref bk, x7])) D3) := hid_new hD3 (f7.trans f8)
        refine ⟨acc3, hacc8, small1000' (by omega), acc3 ++ [.ref p], (f7.trans f8).own hD3, upd_same, by rw [List.length_append, hal3]; rfl, ?_⟩
        have et : ps.take (j + 1) = ps.take j ++ [U7] := by rw [List.take_add_one, eU]; rfl
        rw [et, List.map_append, hid_upd]
        refine paired_app (Paired.mapP hp3 fun _ _ => LK.keep (hid_fq f8)) (.cons ⟨p, .ref bk, x7, rfl, .of ?_, ⟨bk, rfl, ?_⟩, lp7.keep fh⟩ .nil)
        · rw [hid_ne npD]
          exact upd_same
        · rw [hid_ne (fun z => by rw [z, hacc3] at hbk; cases hbk)]
          exact f8.toT hbk
      rintro H7 ⟨acc3, f7, hacc3, hal3, hp3⟩
      rw [hpl, List.take_length] at hp3
      have hp4 : Paired (LK l H7) acc3 (ps.map fun p => (fstT l p, p)) := Paired.mapP hp3 fun _ _ => LK.keep (hid_le (D := D0))
      obtain ⟨u1, u2, u3⟩ := up_spec gd
      refine ⟨D3, acc3, rfl, hacc3, by omega, fun H8 cp cys f8 hcp hc8 hcy => ?_⟩
      have hp5 : Paired (LK l H8) acc3 (ps.map fun p => (fstT l p, p)) := Paired.mapP hp4 fun _ _ => LK.keep f8
      refine ⟨cp, rfl, ⟨_, .inl (.inl hc8)⟩, fun D4 hD4 => lcut_lc (K := K) (n := l + 1) (ps := 5) (yss := cutL acc3) (pcs := up l ps) (by show 5 < 7; decide) hc8 hcy (cut_paired hp5) hD4 (by rw [u3]; have := cutN_le ps.length; omega) fun H9 acc4 f9 hD9 lp9 => ?_⟩
      refine ⟨m', Nat.lt_succ_self _, l + 1, up l ps, D4, acc4, rfl, ((fr.trans f7).trans f8).trans f9, hD9, Paired.mapP lp9 fun _ _ => LP.keep (hid_le (D := D0)), u1, u2.trans fe, ?_, ?_⟩
      · rw [u3]
        rw [Nat.pow_succ] at h6
        unfold cutN
        omega
      · rw [← grow_more hc]
        exact egr
    have hc : ps.length ≤ 1 := by
      have : ¬ (1 : Int) < ((pxs.length : Nat) : Int) := fun z => hc (decide_eq_true z)
      omega
    rw [grow_stop hc] at egr
    subst egr
    -- root = ..
    refine ⟨fun r H2 => ∃ R : Nd, Fq D0 H H2 ∧ LP R.1 H2 r R.2 ∧ R = rootOf ⟨l, ps⟩ ∧ rgood R, ?_, ?_⟩
    · refine ⟨_, rfl, Nat.zero_le _, fun pe hpe => ?_⟩
      have f5 : Fq D0 H' (upd H' pe (.lst [])) := Fq.new hpe
      refine ⟨pp, pe, pxs, rfl, rfl, ne_of_none hpx hpe, .inl (.inl (f5.toL hpx)), .inl (.inl upd_same), _, rfl, ?_⟩
      match ps, la, gd, hc with
      | [], la, gd, _ =>
        cases la
        refine iteF ?_
        refine ⟨Nat.zero_le _, fun p1 hp1 => ⟨by show 2 ≤ sizeLine; decide, fun p2 hp2 => ?_⟩⟩
        have f6 : Fq D0 (upd H' pe (.lst [])) (upd (upd (upd H' pe (.lst [])) p1 (.lst [])) p2 (.tup [.str "leaf", .ref p1])) := (Fq.new hp1).snoc hp2
        refine ⟨⟨0, ([] : List Ent)⟩, (fr.trans f5).trans f6, ⟨p2, p1, [], rfl, .of upd_same, ?_, .nil⟩, rfl, .inr rfl⟩
        rw [upd_ne (ne_of_none (H := upd (upd H' pe (.lst [])) p1 (.lst [])) upd_same hp2)]
        exact upd_same
      | [p], la, gd, _ =>
        cases la with
        | cons h0 t0 =>
          cases t0
          refine iteT ?_
          exact ⟨_, rfl, pp, _, _, _, rfl, rfl, .inl (.inl (f5.toL hpx)), atI_nat (j := 0) rfl, ⟨l, p⟩, fr.trans f5, h0.keep f5, rfl, .inl (gd p List.mem_cons_self)⟩
      | _ :: _ :: _, la, gd, hc => exact absurd hc (by simp)
    rintro r H3 ⟨R, fr3, lpR, eR, rgR⟩
    rw [← eR] at ec0
    -- while ..
    refine ⟨fun σ2 H2 => ∃ r2, ∃ m, ∃ U : Tn m, σ2 = [some v, some (.ref ca), some (.ref ka), some (.ref pp), some r2, none, none] ∧ H2 = H3 ∧ LP m H3 r2 U ∧ strip R.1 R.2 = ⟨m, U⟩, ?_, ?_⟩
    · refine ⟨fun m σ2 H2 => ∃ r2, ∃ U : Tn m, σ2 = [some v, some (.ref ca), some (.ref ka), some (.ref pp), some r2, none, none] ∧ H2 = H3 ∧ LP m H3 r2 U ∧ strip m U = strip R.1 R.2 ∧ (good m U ∨ (m = 0 ∧ ents m U = [])), ⟨R.1, r, R.2, rfl, rfl, lpR, rfl, rgR.or⟩, ?_⟩
      rintro m2 σ2 H2 ⟨r2, U, rfl, e2, lpU, esU, gU⟩
      have e2 := e2.symm
      subst e2
      by_cases m0 : m2 = 0
      · subst m0
        obtain ⟨a, lq, xs, rfl, h2, h3, h4⟩ := id lpU
        refine ⟨_, rfl, a, _, _, _, rfl, rfl, h2.sq, atI_nat (j := 0) rfl, rfl, _, rfl, ?_⟩
        refine ite2 (fun hc => absurd (of_decide_eq_true hc) not_node) (fun _ => ?_)
        exact iteF ⟨_, 0, U, rfl, rfl, lpU, esU.symm⟩
      · obtain ⟨j, rfl⟩ := Nat.exists_eq_succ_of_ne_zero m0
        obtain ⟨cs, e0⟩ : ∃ cs : List (LKey × Tn j), cs = U := ⟨U, rfl⟩
        subst e0
        have gw : good (j + 1) cs := gU.resolve_right fun z => Nat.succ_ne_zero j z.1
        obtain ⟨g1, g2, g3⟩ := id gw
        have gc : goodC cs := g3
        obtain ⟨a, lq, xs, rfl, h2, h3, h4⟩ := id lpU
        have hxl : xs.length = cs.length := paired_len h4
        refine ⟨_, rfl, a, _, _, _, rfl, rfl, h2.sq, atI_nat (j := 0) rfl, rfl, _, rfl, ?_⟩
        refine ite2 (fun _ => ?_) (fun hc => absurd (decide_eq_true rfl) hc)
        refine ⟨_, rfl, a, _, _, _, rfl, rfl, h2.sq, atI_nat (j := 1) rfl, lq, xs, rfl, .inl (.inl (.inl h3)), rfl, _, rfl, ?_⟩
        refine ite2 (fun hc => ?_) (fun hc => ?_)
        · have hc1 : cs.length = 1 := by
            have := of_decide_eq_true hc
            injection this with this
            omega
          obtain ⟨c, ecs⟩ := List.length_eq_one_iff.mp hc1
          subst ecs
          refine ⟨fun σ2 H3' => ∃ m', m' < j + 1 ∧ ∃ r2, ∃ U : Tn m', σ2 = [some v, some (.ref ca), some (.ref ka), some (.ref pp), some r2, none, none] ∧ H3' = H3 ∧ LP m' H3 r2 U ∧ strip m' U = strip R.1 R.2 ∧ (good m' U ∨ (m' = 0 ∧ ents m' U = [])), fun σ2 H3 h => h, ?_⟩
          cases h4 with
          | cons h0 t0 =>
            cases t0
            obtain ⟨e, q0, w0, rfl, h5, h6, h7⟩ := h0
            refine ⟨_, rfl, a, _, _, _, rfl, rfl, h2.sq, atI_nat (j := 1) rfl, lq, _, _, .ref e, rfl, rfl, .inl (.inl h3), atI_nat (j := 0) rfl, e, _, _, w0, rfl, rfl, h5.sq, atI_nat (j := 1) rfl, j, Nat.lt_succ_self j, w0, c.2, rfl, rfl, h7, ?_, .inl (gc c List.mem_cons_self).1⟩
            rw [← esU]
            exact (strip_one c).symm
        · refine ⟨_, j + 1, cs, rfl, rfl, lpU, ?_⟩
          rw [← esU]
          refine strip_stop fun z => hc (decide_eq_true ?_)
          show V.int ((xs.length : Nat) : Int) = V.int 1
          rw [hxl, z]
          rfl
    rintro _ H2 ⟨r2, m2, U, rfl, rfl, lpU, esU⟩
    rw [esU] at ec0
    refine ⟨_, rfl, q _ r2 fr3 ?_⟩
    rw [ec0]
    exact lpU
end
end G

/-! _law_named, _law_is_same. -/
namespace G
open PySem PySem.Spec PyProof.Rows L2
section
variable {P : Program} {w : World} {K : PySem.W.Frag} {mg : Str → Option Value} {base : Heap} {CR CT : Addr}
def spLNamed (CR : Addr) (n : Nat) : Sp := fun vs H Q _ => ∃ rg v fo d ts fk, ∃ Kp : Key → Prop, ∃ U : Tn n, vs = [.ref rg, v, .ref fo] ∧ LP n H v U ∧ RegI CR H rg d ∧ H d = some (.dK (reg ts)) ∧ H fo = some (.dK fk) ∧ d ≠ fo ∧ PagesOk H ts fk ∧ Has ts Kp n U ∧ (∀ k, In fk k → Kp k) ∧
  (good n U ∨ (n = 0 ∧ ents n U = [])) ∧ okEs (ents n U) ∧ ts.length ≤ 1000000 ∧
  ∀ H' fk', Fq (S2 d fo) H H' → H' d = some (.dK (reg ts)) → H' fo = some (.dK fk') → PagesOk H' ts fk' → (∀ k, In fk' k → Kp k) → Q (.int (nm ts n U : Nat)) H'
def spLNPrev (CR : Addr) : Nat → Sp
  | 0 => fun _ _ _ _ => False
  | m + 1 => spLNamed CR m
theorem scLNamed : FnScope ["registry", "page", "found", "made", "name", "first", "child"] ["registry", "page", "found"] (defScope sLNamed) := ⟨rfl, rfl, rfl, by decide +kernel, rfl, by decide +kernel, by decide +kernel⟩
theorem ok_lnamed_step {n : Nat} {f fn : Addr} {fd fdn : FuncData} (F : Fun K "_law_named" "_law_named" sLNamed f fd) (B : Bn mg) (R : RTx K CR) (Nm : UseM P w K mg base 1 CR "name" fn fdn ["self", "value"] (spName CR))
    (Rc : Use P w K mg base (n + 2) "_law_named" f fd ["registry", "page", "found"] (spLNPrev CR n)) : Fg P w K mg base CX0 (n + 3) f fd ["registry", "page", "found"] (spLNamed CR n) := by
  refine okG F scLNamed (fun vs H Q E h => ?_) (fun cdv A outer s H vs Q E hr h => ?_)
  · obtain ⟨rg, v, fo, d, ts, fk, Kp, U, rfl, _⟩ := h
    rfl
  · obtain ⟨rg, v, fo, d, ts, fk, Kp, U, rfl, lp, hrg, hd, hfo, hne, po, has, hin, g, es, hz, q⟩ := h
    have nd := scLNamed.nd
    have hr2 : GR 2 (A.deeper (envOfC "_law_named" (defScope sLNamed) s.heap.objs.size f cdv)) := hr.mono (by omega)
    refine ⟨_, pss_cons (ps_cut (ps_if (pt_cmpR op_eq (pe_ix ix_tup (pv 1) pe_int (fun _ _ => rfl)) pe_str (nomark _))
        (pss_one (ps_set (i := 3) nd rfl (.inl rfl) (pe_tup (pa_cons pe_str (pa_cons (pe_callTy (r := rTupF K) call_tupleF (by rfl) B.tuple boot_tuple (pa_cons (pe_ix ix_tup (pv 1) pe_int (fun _ _ => rfl)) pa_nil)) pa_nil)))))
        (pss_one (ps_set (i := 3) nd rfl (.inl rfl) (pe_tup (pa_cons pe_str (pa_cons (pe_callTy (r := rTupF K) call_tupleF (by rfl) B.tuple boot_tuple (pa_cons (pe_lc (own := [("first", 5), ("child", 6)]) (g := gTup K 2 (gCons (gName 5) (gCons (gName 6) gNil))) (tt := tYes) rfl nd (pi_list (pe_ix ix_tup (pv 1) pe_int (fun _ _ => rfl)))
            (blkOk_by (N := ["registry", "page", "found", "made", "name", "first", "child"]) (sc := defScope sLNamed) (by decide +kernel)) (fun _ _ _ _ _ => pg_tup rfl (pgs_cons (pg_name (i := 5) nd rfl (Or.inl rfl)) (pgs_cons (pg_name (i := 6) nd rfl (Or.inl rfl)) pgs_nil))) (fun _ _ _ _ _ => pts_nil)
            (fun _ _ _ _ _ => pe_tup (pa_cons (pv 5) (pa_cons (pu Rc hr (Nat.le_refl _) (by rfl) (pa_cons (pv 0) (pa_cons (pv 6) (pa_cons (pv 2) pa_nil)))) pa_nil)))) pa_nil)) pa_nil)))))))
      (pss_cons (ps_set (i := 4) nd rfl (.inl rfl) (pm R.cl Nm hr2 (by decide) (pv 0) (pa_cons (pv 3) pa_nil)))
      (pss_cons (ps_dput hr2.hu (pv 2) (pv 4) (pv 3) rfl)
      (pss_one (ps_ret (pv 4))))), ?_⟩
    refine ⟨fun σ2 H2 => ∃ a fk2, σ2 = [some (.ref rg), some v, some (.ref fo), some (.ref a), none, none, none] ∧ Fq (S2 d fo) H H2 ∧ H2 d = some (.dK (reg ts)) ∧ H2 fo = some (.dK fk2) ∧ PagesOk H2 ts fk2 ∧ (∀ k, In fk2 k → Kp k) ∧ PG H2 (.ref a) (pgOf ts n U), ?_, ?_⟩
    · by_cases n0 : n = 0
      · subst n0
        obtain ⟨es0, e0⟩ : ∃ es0 : List Ent, es0 = U := ⟨U, rfl⟩
        subst e0
        obtain ⟨a, l, xs, rfl, h2, h3, h4⟩ := lp
        refine ⟨_, rfl, a, _, _, _, rfl, rfl, h2.sq, atI_nat (j := 0) rfl, rfl, _, rfl, ?_⟩
        refine ite2 (fun _ => ?_) (fun hc => absurd (decide_eq_true rfl) hc)
        refine ⟨_, rfl, a, _, _, _, rfl, rfl, h2.sq, atI_nat (j := 1) rfl, l, xs, rfl, .inl (.inl h3), fun p1 o1 hp1 ho1 => ⟨by show 2 ≤ sizeLine; decide, fun p2 hp2 => ?_⟩⟩
        have f1 : Fq D0 H (upd (upd H p1 (.frz o1 (.tup xs))) p2 (.tup [.str "leaf", .ref p1])) := (Fq.new hp1).snoc hp2
        have n12 : p1 ≠ p2 := ne_of_none (H := upd H p1 (.frz o1 (.tup xs))) upd_same hp2
        exact ⟨p2, fk, rfl, f1.mono fun _ z => z.elim, f1.toDK hd fun z => z, f1.toDK hfo fun z => z, po.keep f1.tk, hin, p2, p1, xs, rfl, .of upd_same, ⟨o1, by rw [upd_ne n12]; exact upd_same, ho1⟩, Paired.mapP h4 fun _ _ => EntAt.keep f1.tk⟩
      · obtain ⟨m, rfl⟩ := Nat.exists_eq_succ_of_ne_zero n0
        obtain ⟨cs, e0⟩ : ∃ cs : List (LKey × Tn m), cs = U := ⟨U, rfl⟩
        subst e0
        have gw : good (m + 1) cs := g.resolve_right fun z => Nat.succ_ne_zero m z.1
        obtain ⟨g1, g2, g3⟩ := id gw
        have gc : goodC cs := g3
        have es' : okEs (cents cs) := es
        obtain ⟨a, l, xs, rfl, h2, h3, h4⟩ := lp
        refine ⟨_, rfl, a, _, _, _, rfl, rfl, h2.sq, atI_nat (j := 0) rfl, rfl, _, rfl, ?_⟩
        refine ite2 (fun hc => absurd (of_decide_eq_true hc) not_leaf) (fun _ => ?_)
        refine ⟨_, rfl, a, _, _, _, rfl, rfl, h2.sq, atI_nat (j := 1) rfl, l, rfl, ⟨xs, .inl (.inl h3)⟩, fun D hD => lc_list (K := K) (a := l) (xs := xs) (fun i H' => ∃ acc fk2, Fq (S2 d fo) H H' ∧ H' D = some (.lst acc) ∧ acc.length = i ∧ H' d = some (.dK (reg ts)) ∧ H' fo = some (.dK fk2) ∧ PagesOk H' ts fk2 ∧ (∀ k, In fk2 k → Kp k) ∧ Paired (KA H' ts m) acc (cs.take i))
          ⟨[], fk, Fq.new hD, upd_same, rfl, (Fq.new (D := D0) hD).toDK hd fun z => z, (Fq.new (D := D0) hD).toDK hfo fun z => z, po.keep (Fq.new (D := D0) hD).tk, hin, by rw [List.take_zero]; exact .nil⟩ (fun i H' _ ⟨_, _, f, _⟩ => .inl (.inl (f.toL h3))) ?_ ?_⟩
        · rintro i x H' hx ⟨acc, fk2, fr, hacc, hal, hd2, hfo2, po2, hin2, hp⟩
          obtain ⟨c, ec, e, q0, w0, rfl, h5, h6, h7⟩ := paired_get h4 hx
          have mc := List.mem_of_getElem? ec
          have hil : i < cs.length := (List.getElem?_eq_some_iff.mp ec).1
          have c6 : cs.length ≤ 6 := g2
          refine ⟨e, _, rfl, (h5.keep fr.tk).sq, rfl, _, _, rfl, _, _, rfl, rfl, rfl, _, rfl, _, rfl, _, rfl, _, rfl, rg, w0, fo, d, ts, fk2, Kp, c.2, rfl, h7.keep fr, hrg.keep fr, hd2, hfo2, hne, po2, has.kid mc, hin2, .inl (gc c mc).1, okEs_kid es' mc, hz, fun H3 fk3 f3 hd3 hfo3 po3 hin3 => ⟨by show 2 ≤ sizeLine; decide, fun p hp0 => ?_⟩⟩
          have f4 : Fq D0 H3 (upd H3 p (.tup [q0, .int (nm ts m c.2 : Nat)])) := Fq.new hp0
          have hacc4 := f4.toL (f3.toL hacc)
          have fr4 := (fr.trans f3).trans (f4.mono fun _ z => z.elim)
          have t5 : Tk (upd H3 p (.tup [q0, .int (nm ts m c.2 : Nat)])) (upd (upd H3 p (.tup [q0, .int (nm ts m c.2 : Nat)])) D (.lst (acc ++ [.ref p]))) := (Fr.put (S := S1 D) hacc4 (fun z => z) rfl).tup
          have ndD : d ≠ D := ne_of_none hd hD
          have nfD : fo ≠ D := ne_of_none hfo hD
          refine ⟨acc, hacc4, small1000' (by omega), acc ++ [.ref p], fk3, fr4.own hD, upd_same, by rw [List.length_append, hal]; rfl, ?_, ?_, po3.keep (f4.tk.trans t5), hin3, ?_⟩
          · rw [upd_ne ndD]
            exact f4.toDK hd3 fun z => z
          · rw [upd_ne nfD]
            exact f4.toDK hfo3 fun z => z
          · have et : cs.take (i + 1) = cs.take i ++ [c] := by rw [List.take_add_one, ec]; rfl
            rw [et]
            exact paired_snoc ⟨p, q0, rfl, .of (t5 p _ upd_same trivial), h6.keep (fr4.tk.trans t5)⟩ (Paired.mapP hp fun _ _ h => KidAt.keep (f3.tk.trans (f4.tk.trans t5)) h)
        rintro H1 ⟨acc, fk2, fr, hacc, hal, hd2, hfo2, po2, hin2, hp⟩
        rw [paired_len h4, List.take_length] at hp
        refine ⟨D, acc, rfl, .inl (.inl hacc), fun p1 o1 hp1 ho1 => ⟨by show 2 ≤ sizeLine; decide, fun p2 hp2 => ?_⟩⟩
        have f1 : Fq D0 H1 (upd (upd H1 p1 (.frz o1 (.tup acc))) p2 (.tup [.str "node", .ref p1])) := (Fq.new hp1).snoc hp2
        have n12 : p1 ≠ p2 := ne_of_none (H := upd H1 p1 (.frz o1 (.tup acc))) upd_same hp2
        refine ⟨p2, fk2, rfl, fr.trans (f1.mono fun _ z => z.elim), f1.toDK hd2 fun z => z, f1.toDK hfo2 fun z => z, po2.keep f1.tk, hin2, ItsAt.pg (l := m + 1) (ys := acc) (.of upd_same) ⟨o1, by rw [upd_ne n12]; exact upd_same, ho1⟩ (ka_its (Paired.mapP hp fun _ _ h => KidAt.keep f1.tk h))⟩
    rintro _ H2 ⟨a, fk2, rfl, f2, hd2, hfo2, po2, hin2, pg2⟩
    obtain ⟨dr, b, c, hi⟩ := hrg.keep f2
    have okp := okPg_at hz g es has
    obtain ⟨tin, kin⟩ := has.top
    have enm : named ts (txt (pgOf ts n U)) = ts := if_pos tin
    refine ⟨_, rfl, rg, dr, _, rfl, hi, flR_no _ _ _ (by decide +kernel) (by decide +kernel) (by decide +kernel), _, rfl, rg, d, .ref a, pgD (pgOf ts n U), ts, rfl, ⟨dr, b, c, hi⟩, hd2, hz, pg2.td, (pgD_ok okp).2, fun H3 f3 hd3 => ?_⟩
    have hd3 : H3 d = some (.dK (reg (named ts (txt (pgOf ts n U))))) := hd3
    rw [enm] at hd3
    have hfo3 : H3 fo = some (.dK fk2) := f3.toDK hfo2 fun z => hne z.symm
    have hfl : fk2.length < sizeLine := Nat.lt_of_le_of_lt (Nat.le_trans po2.len hz) (by decide)
    have en : nmOf (named ts (pgD (pgOf ts n U)).shown) (pgD (pgOf ts n U)).shown = nm ts n U := by
      show nmOf (named ts (txt (pgOf ts n U))) (txt (pgOf ts n U)) = nm ts n U
      rw [enm]
      rfl
    rw [en]
    refine ⟨_, rfl, _, rfl, _, rfl, fo, _, rfl, DPut.k (k := Sum.inl (nm ts n U : Nat)) hfo3 hfl, _, rfl, ?_⟩
    have t4 : Tk H3 (upd H3 fo (.dK (putK fk2 (.inl (nm ts n U : Nat) : Key) (.ref a)))) := (Fr.put (S := S1 fo) hfo3 (fun z => z) rfl).tup
    refine q _ (putK fk2 (.inl (nm ts n U : Nat) : Key) (.ref a)) ((f2.trans (f3.mono fun b z => .inl z)).put hfo3 (.inr rfl)) (by rw [upd_ne hne]; exact hd3) upd_same (((po2.keep f3.tk).keep t4).put okp tin ((pg2.keep f3.tk).keep t4)) fun k hk => ?_
    unfold In at hk
    rw [valV_put] at hk
    by_cases e : k = .inl (nm ts n U : Nat)
    · rw [e]
      exact kin
    · rw [if_neg e] at hk
      exact hin2 k hk
theorem ok_lnamed {f fn : Addr} {fd fdn : FuncData} (F : Fun K "_law_named" "_law_named" sLNamed f fd) (B : Bn mg) (R : RTx K CR) (Nm : UseM P w K mg base 1 CR "name" fn fdn ["self", "value"] (spName CR))
    (mgf : mg "_law_named" = some (.ref f)) (kp : PySem.W.keepIn K (.ref f) = true) (b : Binds K fd ["registry", "page", "found"] []) : ∀ n, Fg P w K mg base CX0 (n + 3) f fd ["registry", "page", "found"] (spLNamed CR n)
  | 0 => ok_lnamed_step F B R Nm ⟨mgf, kp, b, fg_false⟩
  | n + 1 => ok_lnamed_step F B R Nm ⟨mgf, kp, b, ok_lnamed F B R Nm mgf kp b n⟩
def spLNamedN (CR : Addr) (N : Nat) : Sp := fun vs H Q E => ∃ n, n ≤ N ∧ spLNamed CR n vs H Q E
theorem fg_lnamed {N : Nat} {f : Addr} {fd : FuncData} {ps : List Str} (G : ∀ n, Fg P w K mg base CX0 (n + 3) f fd ps (spLNamed CR n)) : Fg P w K mg base CX0 (N + 3) f fd ps (spLNamedN CR N) :=
  ⟨fun vs H Q E ⟨n, h, q⟩ => (G n).len vs H Q E q, fun A outer s H args us vs Q E hr he hb hv ⟨n, h, q⟩ => ((G n).mono (by omega)).run A outer s H args us vs Q E hr he hb hv q⟩
/-! ### is_same -/
def spLSame (CR CT : Addr) (PL : List LKey) (N : Nat) : Sp := fun vs H Q _ => ∃ rg t v kav d pd vd kvs ts, ∃ T : Nd, vs = [.ref rg, .ref t, v, kav] ∧ T.1 ≤ N ∧ Tr CT PL H t rg pd vd kvs ts T ∧ LP T.1 H v T.2 ∧ RegI CR H rg d ∧ H d = some (.dK (reg ts)) ∧ d ≠ pd ∧
  ∀ H', Fq (S1 d) H H' → H' d = some (.dK (reg ts)) → Q (.bl true) H'
theorem scLSame : FnScope ["registry", "tree", "root", "keys", "due", "pages", "name"] ["registry", "tree", "root", "keys"] (defScope sLSame) := ⟨rfl, rfl, rfl, by decide +kernel, rfl, by decide +kernel, by decide +kernel⟩
theorem ok_lsame {PL : List LKey} {N : Nat} {f fn fp : Addr} {fd fdn fdp : FuncData} (F : Fun K "_law_is_same" "_law_is_same" sLSame f fd) (B : Bn mg) (T : TTx K CT)
    (Na : Use P w K mg base (N + 3) "_law_named" fn fdn ["registry", "page", "found"] (spLNamedN CR N)) (Pg : UseM P w K mg base 1 CT "pages" fp fdp ["self"] (spPages CT)) : Fg P w K mg base CX0 (N + 4) f fd ["registry", "tree", "root", "keys"] (spLSame CR CT PL N) := by
  refine okG F scLSame (fun vs H Q E h => ?_) (fun cdv A outer s H vs Q E hr h => ?_)
  · obtain ⟨rg, t, v, kav, d, pd, vd, kvs, ts, T0, rfl, _⟩ := h
    rfl
  · obtain ⟨rg, t, v, kav, d, pd, vd, kvs, ts, ⟨n, T0⟩, rfl, hnN, tr, lp, hrg, hd, hdp, q⟩ := h
    have nd := scLSame.nd
    have hr2 : GR 2 (A.deeper (envOfC "_law_is_same" (defScope sLSame) s.heap.objs.size f cdv)) := hr.mono (by omega)
    refine ⟨_, pss_cons (ps_set (i := 4) nd rfl (.inr rfl) pe_dnewK)
      (pss_cons (ps_if (pt_cmpR op_ne (pu Na hr (Nat.le_refl _) (by rfl) (pa_cons (pv 0) (pa_cons (pv 2) (pa_cons (pv 4) pa_nil)))) (pe_fld (pv 1) rfl) (nomark _)) (pss_one (ps_ret pe_bl)) pss_nil)
      (pss_cons (ps_set (i := 5) nd rfl (.inr rfl) (pm0 T.cl Pg hr2 (by decide) (pv 1)))
      (pss_one (ps_ret (pe_cmpR (op_eqNil hr2.hu8) (pe_lock (pe_lc (own := [("name", 6)]) (g := gName 6) rfl nd (pi_keys (pv 4))
          (blkOk_by (N := ["registry", "tree", "root", "keys", "due", "pages", "name"]) (sc := defScope sLSame) (by decide +kernel)) (fun _ _ _ _ _ => pg_name (i := 6) nd rfl (Or.inl rfl))
          (fun _ _ _ _ _ => pts_one (PW.pt (pw_or (pt_cmp (pc_dnotin hr2.hu (pv 6) (pv 5))) (pw_or1 (pt_cmpR op_ne (pe_callB (r := rRepr K) (call_repr hr2.gd hr2.hu64) (by rfl) B.repr boot_repr (pa_cons (pe_dget hr2.hu (pv 5) (pv 6) (fun _ _ => rfl)) pa_nil)) (pe_callB (r := rRepr K) (call_repr hr2.gd hr2.hu64) (by rfl) B.repr boot_repr (pa_cons (pe_dget hr2.hu (pv 4) (pv 6) (fun _ _ => rfl)) pa_nil)) (nomark _))))))
          (fun _ _ _ _ _ => pv 6))) (pe_lst pa_nil) (nomark _)))))), ?_⟩
    intro fo hfo
    have f1 : Fq D0 H (upd H fo (.dK [])) := Fq.new hfo
    have nd1 : d ≠ fo := ne_of_none hd hfo
    obtain ⟨dx, ht⟩ := tr.at'.ins
    refine ⟨_, rfl, _, rfl, _, rfl, n, hnN, rg, v, fo, d, ts, [], In kvs, T0, rfl, lp.keep f1, hrg.keep f1, f1.toDK hd (fun z => z), upd_same, nd1, ⟨by simp, fun kv m => by cases m⟩, tr.has, fun k hk => ?_, tr.rg.or, tr.es, tr.len, fun H2 fk f2 hd2 hfo2 po2 hin2 => ?_⟩
    · unfold In at hk
      rw [valV_nil] at hk
      cases hk
    have fr2 : Fq (S1 d) H H2 := ((f1.mono fun _ z => z.elim).trans f2).less fun b z => z.elim .inl fun e => .inr (by rw [e]; exact hfo)
    have npd : pd ≠ fo := ne_of_none tr.at'.pg hfo
    refine ⟨_, rfl, t, CT, dx, _, _, rfl, fr2.toI ht, T.cl, T.root, flT_root _ _ _ _, rfl, _, rfl, ?_⟩
    refine iteNS rfl ?_
    have hpd2 : H2 pd = some (.dK kvs) := fr2.toDK tr.at'.pg fun z => hdp z.symm
    refine ⟨_, rfl, t, dx, _, rfl, fr2.toI ht, flT_no _ _ _ _ (by decide +kernel) (by decide +kernel) (by decide +kernel) (by decide +kernel), t, dx, _, rg, pd, vd, kvs, rfl, fr2.toI ht, hpd2, fun pp hpp => ?_⟩
    have f3 : Fq D0 H2 (upd H2 pp (.dK kvs)) := Fq.new hpp
    have hfo3 : (upd H2 pp (.dK kvs)) fo = some (.dK fk) := f3.toDK hfo2 fun z => z
    have hd3 : (upd H2 pp (.dK kvs)) d = some (.dK (reg ts)) := f3.toDK hd2 fun z => z
    have fr3 : Fq (S1 d) H (upd H2 pp (.dK kvs)) := fr2.snoc hpp
    have hp3 : (upd H2 pp (.dK kvs)) pp = some (.dK kvs) := upd_same
    have npf : pp ≠ fo := fun z => by rw [z, hfo2] at hpp; cases hpp
    generalize hH3 : upd H2 pp (.dK kvs) = H3 at f3 hfo3 hd3 fr3 hp3
    refine ⟨fo, .dK fk, hfo3, trivial, fun od => ⟨_, rfl, fo, od, rfl, .inl ⟨fk, upd_same, fun D hD => ?_⟩⟩⟩
    have nfD : fo ≠ D := ne_of_none (H := upd H3 fo (.frz od (.dK fk))) upd_same hD
    have hD3 : H3 D = none := by rw [upd_ne nfD.symm] at hD; exact hD
    have npD : pp ≠ D := ne_of_none hp3 hD3
    have ndD : d ≠ D := ne_of_none hd3 hD3
    have hD0 : H D = none := fr3.toN hD3 fun z => ndD z.symm
    have tkL : Tk H2 (upd (upd H3 fo (.frz od (.dK fk))) D (.lst [])) := f3.tk.trans (((Fr.put (S := S1 fo) hfo3 (fun z => z) rfl).tup).trans (Fr.new (S := S0) hD).tup)
    refine lc_it walk_keys (fun i H' => H' = upd (upd H3 fo (.frz od (.dK fk))) D (.lst [])) rfl (fun i H' _ e => by rw [e, upd_ne nfD]; exact upd_same) ?_ ?_
    · rintro i x H5 H6 hi e5 ⟨e6, k, v', ekv, rfl⟩
      subst e6
      obtain ⟨p, okp, tin, ek, pgp⟩ := po2.at' _ (List.mem_of_getElem? ekv)
      obtain ⟨v2, ev2⟩ : ∃ v2, valV fk k = some v2 := by
        cases e : valV fk k with
        | some v2 => exact ⟨v2, rfl⟩
        | none => exact absurd (List.mem_map.mpr ⟨_, List.mem_of_getElem? ekv, rfl⟩) (valV_not e)
      obtain ⟨v3, ev3⟩ := Option.isSome_iff_exists.mp (hin2 k (by unfold In; rw [ev2]; rfl))
      have ek : k = .inl (nmOf ts (txt p) : Nat) := ek
      have pg2 : PG H2 v2 p := po2.find okp tin (by rw [← ek]; exact ev2)
      have pg3 : PG H2 v3 p := (tr.po.keep fr2.tk).find okp tin (by rw [← ek]; exact ev3)
      have hfo6 : H6 fo = some (.frz od (.dK fk)) := by rw [e5, upd_ne nfD]; exact upd_same
      have hp6 : H6 pp = some (.dK kvs) := by rw [e5, upd_ne npD, upd_ne npf]; exact hp3
      have tk6 : Tk H2 H6 := by rw [e5]; exact tkL
      have dg3 : DGet H6 pp (kV k) (some v3) := by
        have := DGet.k (k := k) hp6
        rw [ev3] at this
        exact this
      have dg2 : DGet H6 fo (kV k) (some v2) := .inl ⟨fk, k, .inr ⟨od, hfo6⟩, rfl, ev2.symm⟩
      refine ⟨rfl, _, rfl, _, rfl, pp, _, rfl, dg3, _, rfl, iteF ?_⟩
      refine ⟨_, rfl, _, rfl, pp, v3, rfl, dg3, v3, pgD p, rfl, Td.dp _ _ (pg3.keep tk6).td, (pgD_ok okp).2, _, rfl, _, rfl, fo, v2, rfl, dg2, v2, pgD p, rfl, Td.dp _ _ (pg2.keep tk6).td, (pgD_ok okp).2, rfl, _, rfl, ?_⟩
      exact iteNS rfl e5
    · rintro H5 e5
      subst e5
      refine ⟨by rw [upd_ne nfD]; exact upd_same, Nat.zero_le _, fun pe hpe => ?_⟩
      have hDe : (upd (upd (upd H3 fo (.frz od (.dK fk))) D (.lst [])) fo (.dK fk)) D = some (.lst []) := by rw [upd_ne nfD.symm]; exact upd_same
      have hDp : D ≠ pe := ne_of_none hDe hpe
      refine ⟨D, pe, [], rfl, rfl, hDp, .inl (.inl (by rw [upd_ne hDp]; exact hDe)), .inl (.inl upd_same), q _ ((((fr3.own hfo).own hD0).own hfo).snoc hpe) ?_⟩
      have hd4 : (upd (upd (upd H3 fo (.frz od (.dK fk))) D (.lst [])) fo (.dK fk)) d = some (.dK (reg ts)) := by rw [upd_ne nd1, upd_ne ndD, upd_ne nd1]; exact hd3
      rw [upd_ne (ne_of_none hd4 hpe)]
      exact hd4
end
end G

/-! Plain facts for the law's end: texts, lists shown, the law's own list. -/
namespace G
open PySem PySem.Spec PyProof.Rows L2 TL
/-! ### signs of texts -/
def lowS (c : Nat) : Prop := c < 0x110000
mutual
theorem shw_low : ∀ d : PyData, nice d = true → ∀ c ∈ shw d, c < 0x110000
  | .none, _ => by rw [shw_none]; decide
  | .bool true, _ => by rw [shw_true]; decide
  | .bool false, _ => by rw [shw_false]; decide
  | .int i, _ => fun c hc => by
    rw [shw_int] at hc
    have z := intL_signs i c hc
    simp only [isD, Bool.or_eq_true, Bool.and_eq_true, decide_eq_true_eq, beq_iff_eq] at z
    omega
  | .str x, h => fun c hc => by
    rw [nice] at h
    rw [shw_str h] at hc
    rcases List.mem_cons.mp hc with rfl | hc
    · decide
    · rcases List.mem_append.mp hc with hc | hc
      · have z := List.all_eq_true.mp h c hc
        simp only [okSign, Bool.and_eq_true, decide_eq_true_eq] at z
        omega
      · rw [List.mem_singleton.mp hc]
        decide
  | .tuple ds, h => fun c hc => by
    rw [nice] at h
    rw [shw_tuple] at hc
    rcases List.mem_cons.mp hc with rfl | hc
    · decide
    · exact body1_low ds h c hc
  | .list _, h => by simp [nice] at h
  | .dict _, h => by simp [nice] at h
theorem body1_low : ∀ ds : List PyData, niceAll ds = true → ∀ c ∈ body1 ds, c < 0x110000
  | [], _ => fun c hc => by
    have : c ∈ [41] := hc
    rw [List.mem_singleton.mp this]
    decide
  | [d], h => fun c hc => by
    rw [niceAll, Bool.and_eq_true] at h
    rcases List.mem_append.mp (show c ∈ shw d ++ [44, 41] from hc) with hc | hc
    · exact shw_low d h.1 c hc
    · rcases List.mem_cons.mp hc with rfl | hc
      · decide
      · rw [List.mem_singleton.mp hc]
        decide
  | d :: e :: r, h => fun c hc => by
    rw [niceAll, Bool.and_eq_true] at h
    rcases List.mem_append.mp (show c ∈ shw d ++ (44 :: 32 :: body2 (e :: r)) from hc) with hc | hc
    · exact shw_low d h.1 c hc
    · rcases List.mem_cons.mp hc with rfl | hc
      · decide
      · rcases List.mem_cons.mp hc with rfl | hc
        · decide
        · exact body2_low (e :: r) h.2 c hc
theorem body2_low : ∀ ds : List PyData, niceAll ds = true → ∀ c ∈ body2 ds, c < 0x110000
  | [], _ => fun c hc => by
    have : c ∈ [41] := hc
    rw [List.mem_singleton.mp this]
    decide
  | [d], h => fun c hc => by
    rw [niceAll, Bool.and_eq_true] at h
    rcases List.mem_append.mp (show c ∈ shw d ++ [41] from hc) with hc | hc
    · exact shw_low d h.1 c hc
    · rw [List.mem_singleton.mp hc]
      decide
  | d :: e :: r, h => fun c hc => by
    rw [niceAll, Bool.and_eq_true] at h
    rcases List.mem_append.mp (show c ∈ shw d ++ (44 :: 32 :: body2 (e :: r)) from hc) with hc | hc
    · exact shw_low d h.1 c hc
    · rcases List.mem_cons.mp hc with rfl | hc
      · decide
      · rcases List.mem_cons.mp hc with rfl | hc
        · decide
        · exact body2_low (e :: r) h.2 c hc
end
theorem shown_strOk {d : PyData} (h : nice d = true) : PySem.PyData.strOk d.shown = true := by
  unfold PySem.PyData.strOk
  rw [← Array.all_toList, List.all_eq_true]
  intro c hc
  exact decide_eq_true (shw_low d h c hc)
theorem strs_shaped : ∀ {ds : List PyData}, (∀ d ∈ ds, nice d = true) → PyData.canLayAll0 (ds.map fun d => PyData.str d.shown) = true
  | [], _ => by simp [PyData.canLayAll0]
  | d :: r, h => by
    rw [List.map_cons, PyData.canLayAll0, PyData.canLay0, shown_strOk (h d List.mem_cons_self), strs_shaped fun d m => h d (List.mem_cons_of_mem _ m)]
    rfl
theorem texts_shaped {ds : List PyData} (h : ∀ d ∈ ds, nice d = true) : SeqAt.shaped (.list (ds.map fun d => PyData.str d.shown)) = true := by
  unfold SeqAt.shaped
  rw [PyData.canLay0, strs_shaped h, Bool.true_and]
  refine decide_eq_true ?_
  rw [PyData.depth]
  have : PyData.depthAll (ds.map fun d => PyData.str d.shown) ≤ 0 := depthAll_le fun d m => by
    obtain ⟨e, _, rfl⟩ := List.mem_map.mp m
    rw [PyData.depth]
    exact Nat.le_refl _
  omega
/-! ### lists shown -/
theorem len_app (x y : Str) : (x ++ y).length = x.length + y.length := by
  have e := congrArg List.length (tl_append x y)
  rw [List.length_append] at e
  unfold tl at e
  rw [Array.length_toList, Array.length_toList, Array.length_toList] at e
  exact e
theorem text_len {b : Nat} : ∀ (ts : List Str) (k : Nat) (acc : Str), (∀ t ∈ ts, t.length ≤ b) → (textFrom k acc ts).length ≤ acc.length + ts.length * (b + 2)
  | [], k, acc, _ => by
    show acc.length ≤ _
    omega
  | t :: r, k, acc, h => by
    have h1 := h t List.mem_cons_self
    have h2 := text_len (b := b) r (k + 1)
    have hr := fun x m => h x (List.mem_cons_of_mem t m)
    rw [List.length_cons, Nat.succ_mul]
    show (textFrom (k + 1) (acc ++ (if k > 0 then ", " else "" : String) ++ t) r).length ≤ _
    have := h2 (acc ++ (if k > 0 then ", " else "" : String) ++ t) hr
    rw [len_app, len_app] at this
    have e2 : (Str.ofString (if k > 0 then ", " else "" : String)).length ≤ 2 := by split <;> decide +kernel
    omega
theorem shownAll_map : ∀ ds : List PyData, PyData.shownAll ds = ds.map PyData.shown
  | [] => by rw [PyData.shownAll]; rfl
  | d :: r => by rw [PyData.shownAll, shownAll_map r]; rfl
theorem list_repr {ds : List PyData} (h : ∀ d ∈ ds, nice d = true ∧ wd d ≤ 210 ∧ d.depth ≤ 3) (hl : ds.length ≤ 1000) : reprOk (.list ds) := by
  refine ⟨?_, ?_, ?_, ?_⟩
  · rw [PyData.showable]
    exact nice_showAll _ (niceAll_iff.mpr fun d m => (h d m).1)
  · rw [PyData.hasDict]
    exact nice_dictAll _ (niceAll_iff.mpr fun d m => (h d m).1)
  · rw [PyData.depth]
    have := depthAll_le (b := 3) fun d m => (h d m).2.2
    omega
  · rw [PyData.shown]
    unfold listText
    rw [len_app, shownAll_map]
    have h1 := text_len (b := 210) (ds.map PyData.shown) 0 "[" fun t m => by
      obtain ⟨d, md, rfl⟩ := List.mem_map.mp m
      exact Nat.le_trans (shown_len (h d md).1) (h d md).2.1
    have e1 : ("[" : Str).length = 1 := by decide +kernel
    have e2 : ("]" : Str).length = 1 := by decide +kernel
    rw [List.length_map, e1] at h1
    rw [e2]
    have h3 : ds.length * (210 + 2) ≤ 1000 * 212 := Nat.mul_le_mul_right _ hl
    have : sizeLine = 16777216 := by decide
    omega
/-! ### the law's own list -/
def fO (PL : List LKey) (od : List PyData) (k : LKey) : PyData := od.getD (ixK PL k) .none
def setAll (od : List PyData) (pk : List (Nat × PyData)) : List PyData := pk.foldl (fun od p => od.set p.1 p.2) od
theorem look_ofF {PL : List LKey} (sP : Sk PL) {f : LKey → PyData} {k : LKey} (hk : k ∈ PL) : look (ofF PL f) k = f k := by
  by_cases h : f k = .none
  · rw [h, look_not]
    intro d m
    obtain ⟨_, h2, h3⟩ := ofF_mem.mp m
    exact h3 (h2 ▸ h)
  · exact look_mem (ofF_sd f sP) (ofF_mem.mpr ⟨hk, rfl, h⟩)
theorem fO_set {PL : List LKey} (sP : Sk PL) {od : List PyData} {i : Nat} {d : PyData} (hi : i < PL.length) (hl : od.length = PL.length) {k : LKey} (hk : k ∈ PL) : fO PL (od.set i d) k = if k = PL.getD i [] then d else fO PL od k := by
  have ei : PL[i]? = some (PL.getD i []) := by simp [List.getD, hi]
  unfold fO
  by_cases h : k = PL.getD i []
  · rw [if_pos h]
    have : ixK PL k = i := ixK_at sP (by rw [h]; exact ei)
    rw [this]
    simp [List.getD, hl, hi]
  · rw [if_neg h]
    have : i ≠ ixK PL k := fun z => by
      have := ixK_get hk
      rw [← z, ei] at this
      exact h (Option.some.inj this).symm
    simp [List.getD, List.getElem?_set_ne this]
theorem setAll_len : ∀ {pk : List (Nat × PyData)} {od : List PyData}, (setAll od pk).length = od.length
  | [], _ => rfl
  | p :: r, od => by
    show (setAll (od.set p.1 p.2) r).length = _
    rw [setAll_len, List.length_set]
theorem fO_all {PL : List LKey} (sP : Sk PL) : ∀ {pk : List (Nat × PyData)} {od : List PyData} {k : LKey}, (∀ p ∈ pk, p.1 < PL.length) → od.length = PL.length → k ∈ PL → fO PL (setAll od pk) k = updsF (fO PL od) (pairsOf PL pk) k
  | [], _, _, _, _, _ => rfl
  | p :: r, od, k, h, hl, hk => by
    show fO PL (setAll (od.set p.1 p.2) r) k = updsF (fun k => if k = PL.getD p.1 [] then p.2 else fO PL od k) (pairsOf PL r) k
    rw [fO_all sP (fun p m => h p (List.mem_cons_of_mem _ m)) (by rw [List.length_set]; exact hl) hk]
    exact upds_congr (fO_set sP (h p List.mem_cons_self) hl hk)
theorem setAll_snoc (od : List PyData) (pk : List (Nat × PyData)) (p : Nat × PyData) : setAll od (pk ++ [p]) = (setAll od pk).set p.1 p.2 := by
  unfold setAll
  rw [List.foldl_append]
  rfl
theorem pairs_ok {PL : List LKey} {pk : List (Nat × PyData)} (h : PickOk PL.length pk) : ChOk PL (pairsOf PL pk) := fun c m => by
  obtain ⟨p, mp, rfl⟩ := List.mem_map.mp m
  have := h.lt p mp
  refine ⟨?_, h.ok p mp⟩
  show PL.getD p.1 [] ∈ PL
  have ei : PL[p.1]? = some (PL.getD p.1 []) := by simp [List.getD, this]
  exact List.mem_of_getElem? ei
theorem pick_len {many : Nat} {pk : List (Nat × PyData)} (h : PickOk many pk) : pk.length ≤ many := by
  have := nodup_len (l := pk.map (·.1)) (m := List.range many) (by
    unfold List.Nodup
    rw [List.pairwise_map]
    exact h.up.imp fun h => Nat.ne_of_lt h) fun i m => by
      obtain ⟨p, mp, rfl⟩ := List.mem_map.mp m
      exact List.mem_range.mpr (h.lt p mp)
  rw [List.length_map, List.length_range] at this
  exact this
/-- the keys between two places -/
theorem range_keys {PL : List LKey} (sP : Sk PL) {lo hi : Nat} {a b : LKey} (ha : PL[lo]? = some a) (hb : PL[hi]? = some b) (h : lo ≤ hi) : PL.filter (fun k => kle a k && klt k b) = (PL.drop lo).take (hi - lo) := by
  have e1 : PL = PL.take lo ++ ((PL.drop lo).take (hi - lo) ++ PL.drop hi) := by
    have : (PL.drop lo).drop (hi - lo) = PL.drop hi := by rw [List.drop_drop]; congr 1; omega
    rw [← this, List.take_append_drop, List.take_append_drop]
  have pa := List.pairwise_iff_getElem.mp sP
  have ga := List.getElem?_eq_some_iff.mp ha
  have gb := List.getElem?_eq_some_iff.mp hb
  have key : ∀ i (hi' : i < PL.length), (kle a PL[i] && klt PL[i] b) = decide (lo ≤ i ∧ i < hi) := by
    intro i hi'
    have h1 : kle a PL[i] = decide (lo ≤ i) := by
      rcases Nat.lt_trichotomy i lo with q | q | q
      · have := pa i lo hi' ga.1 q
        rw [ga.2] at this
        rw [kle_not.mpr this]
        exact (decide_eq_false (by omega)).symm
      · subst q
        rw [ga.2, kle_refl]
        exact (decide_eq_true (Nat.le_refl _)).symm
      · have := pa lo i ga.1 hi' q
        rw [ga.2] at this
        rw [kle_iff.mpr (.inl this)]
        exact (decide_eq_true (by omega)).symm
    have h2 : klt PL[i] b = decide (i < hi) := by
      rcases Nat.lt_trichotomy i hi with q | q | q
      · have := pa i hi hi' gb.1 q
        rw [gb.2] at this
        rw [this]
        exact (decide_eq_true q).symm
      · subst q
        rw [gb.2, klt_irr]
        exact (decide_eq_false (Nat.lt_irrefl _)).symm
      · have := pa hi i gb.1 hi' q
        rw [gb.2] at this
        rw [klt_asym this]
        exact (decide_eq_false (by omega)).symm
    rw [h1, h2]
    simp
  have f1 : (PL.take lo).filter (fun k => kle a k && klt k b) = [] := by
    rw [List.filter_eq_nil_iff]
    intro x hx
    obtain ⟨i, hi', rfl⟩ := List.getElem_of_mem hx
    rw [List.length_take] at hi'
    rw [List.getElem_take, key i (by omega)]
    simp
    omega
  have f2 : ((PL.drop lo).take (hi - lo)).filter (fun k => kle a k && klt k b) = (PL.drop lo).take (hi - lo) := by
    rw [List.filter_eq_self]
    intro x hx
    obtain ⟨i, hi', rfl⟩ := List.getElem_of_mem hx
    rw [List.length_take, List.length_drop] at hi'
    rw [List.getElem_take, List.getElem_drop, key (lo + i) (by omega)]
    simp
    omega
  have f3 : (PL.drop hi).filter (fun k => kle a k && klt k b) = [] := by
    rw [List.filter_eq_nil_iff]
    intro x hx
    obtain ⟨i, hi', rfl⟩ := List.getElem_of_mem hx
    rw [List.length_drop] at hi'
    rw [List.getElem_drop, key (hi + i) (by omega)]
    simp
  conv => lhs; rw [e1]
  rw [List.filter_append, List.filter_append, f1, f2, f3]
  simp
theorem scan_keys {PL : List LKey} (sP : Sk PL) {f : LKey → PyData} {lo hi : Nat} {a b : LKey} (ha : PL[lo]? = some a) (hb : PL[hi]? = some b) (h : lo ≤ hi) : (ofF PL f).filter (inR a b) = (((PL.drop lo).take (hi - lo)).filter fun k => !isN (f k)).map fun k => (k, f k) := by
  unfold ofF
  rw [List.filter_map, ← range_keys sP ha hb h, List.filter_filter, List.filter_filter]
  congr 1
  refine List.filter_congr fun k _ => ?_
  show (inR a b (k, f k) && !isN (f k)) = (!isN (f k) && (kle a k && klt k b))
  unfold inR
  rw [Bool.and_comm]
end G

/-! law. -/
namespace G
open PySem PySem.Spec PyProof.Rows L2
theorem LP.put {H : Hp} {oa : Addr} {oxs ys : List V} (h : H oa = some (.lst oxs)) (hl : 6 < oxs.length) : ∀ {n : Nat} {v : V} {U : Tn n}, LP n H v U → (good n U ∨ (n = 0 ∧ ents n U = [])) → LP n (upd H oa (.lst ys)) v U
  | 0, v, U, ⟨a, l, xs, h1, h2, h3, h4⟩, g => by
    have tk : Tk H (upd H oa (.lst ys)) := (Fr.put (S := S1 oa) h (fun z => z) rfl).tup
    have hx : xs.length ≤ 6 := by
      rw [paired_len h4]
      rcases g with g | g
      · exact g.2
      · have e : U = ([] : List Ent) := g.2
        rw [e]
        exact Nat.zero_le _
    exact ⟨a, l, xs, h1, h2.keep tk, by rw [upd_ne (fun z => by rw [z, h] at h3; injection h3 with h3; injection h3 with h3; rw [h3] at hl; omega)]; exact h3, Paired.mapP h4 fun _ _ => EntAt.keep tk⟩
  | n + 1, v, U, ⟨a, l, xs, h1, h2, h3, h4⟩, g => by
    have tk : Tk H (upd H oa (.lst ys)) := (Fr.put (S := S1 oa) h (fun z => z) rfl).tup
    have g : good (n + 1) U := g.resolve_right fun z => Nat.succ_ne_zero n z.1
    have hx : xs.length ≤ 6 := by
      rw [paired_len h4]
      exact g.2.1
    refine ⟨a, l, xs, h1, h2.keep tk, by rw [upd_ne (fun z => by rw [z, h] at h3; injection h3 with h3; injection h3 with h3; rw [h3] at hl; omega)]; exact h3, ?_⟩
    have go : ∀ {xs : List V} {cs : List (LKey × Tn n)}, Paired (fun x (c : LKey × Tn n) => ∃ e q w, x = .ref e ∧ TupAt H e [q, w] ∧ KeyAt H q c.1 ∧ LP n H w c.2) xs cs → (∀ c ∈ cs, good n c.2) → Paired (fun x (c : LKey × Tn n) => ∃ e q w, x = .ref e ∧ TupAt (upd H oa (.lst ys)) e [q, w] ∧ KeyAt (upd H oa (.lst ys)) q c.1 ∧ LP n (upd H oa (.lst ys)) w c.2) xs cs := by
      intro xs cs hp
      induction hp with
      | nil => exact fun _ => .nil
      | cons h0 t ih =>
        intro hb
        obtain ⟨e, q, w, e1, e2, e3, e4⟩ := h0
        exact .cons ⟨e, q, w, e1, e2.keep tk, e3.keep tk, LP.put h hl e4 (.inl (hb _ List.mem_cons_self))⟩ (ih fun c m => hb c (List.mem_cons_of_mem _ m))
    exact go h4 fun c m => (g.2.2 c m).1
theorem putL {H : Hp} {oa b : Addr} {oxs ys : List V} {o : HO} (h : H oa = some (.lst oxs)) (e : H b = some o) (n : ∀ l, o ≠ .lst l) : (upd H oa (.lst ys)) b = some o := by
  rw [upd_ne (fun z => by rw [z, h] at e; injection e with e; exact n _ e.symm)]
  exact e
theorem Tr.put {CT : Addr} {PL : List LKey} {H : Hp} {t rg pd vd oa : Addr} {kvs : List (Key × V)} {ts : List Str} {T : Nd} {oxs ys : List V} (h : H oa = some (.lst oxs)) (r : Tr CT PL H t rg pd vd kvs ts T) : Tr CT PL (upd H oa (.lst ys)) t rg pd vd kvs ts T := by
  have tk : Tk H (upd H oa (.lst ys)) := (Fr.put (S := S1 oa) h (fun z => z) rfl).tup
  obtain ⟨⟨dx, e1⟩, e2, ⟨vs, e3, e4⟩, e5⟩ := r.at'
  exact ⟨⟨⟨dx, putL h e1 (by intro l z; cases z)⟩, putL h e2 (by intro l z; cases z), ⟨vs, putL h e3 (by intro l z; cases z), e4⟩, e5⟩, r.po.keep tk, r.has, r.rg, r.ok, r.es, r.len⟩
theorem Tr.keep {CT : Addr} {PL : List LKey} {H H' : Hp} {t rg pd vd : Addr} {kvs : List (Key × V)} {ts : List Str} {T : Nd} {D : Addr → Prop} (f : Fq D H H') (h1 : ¬ D pd) (h2 : ¬ D vd) (r : Tr CT PL H t rg pd vd kvs ts T) : Tr CT PL H' t rg pd vd kvs ts T :=
  ⟨r.at'.keep f h1 h2, r.po.keep f.tk, r.has, r.rg, r.ok, r.es, r.len⟩
theorem Tr.again {CT : Addr} {PL : List LKey} {H H' : Hp} {t rg pd vd t2 pd2 vd2 : Addr} {kvs : List (Key × V)} {ts : List Str} {T : Nd} (r : Tr CT PL H t rg pd vd kvs ts T) (k : Tk H H') (a : TrAt CT H' t2 rg pd2 vd2 (.int (nm ts T.1 T.2 : Nat)) kvs) : Tr CT PL H' t2 rg pd2 vd2 kvs ts T :=
  ⟨a, r.po.keep k, r.has, r.rg, r.ok, r.es, r.len⟩
/-- what stands between two rounds, but the trees -/
structure LB (K : PySem.W.Frag) (CR : Addr) (PL : List LKey) (a : Addr) (ns : List Int) (ka : Addr) (kxs : List V) (rg d oa : Addr) (H : Hp) (od : List PyData) : Prop where
  sc : SqL K H a (ns.map V.int)
  hka : H ka = some (.lst kxs)
  hkx : Paired (KeyAt H) kxs PL
  hrg : RegI CR H rg d
  ow : ∃ oxs, H oa = some (.lst oxs) ∧ Paired (Td H) oxs od
  ol : od.length = 76
  ok : ∀ x ∈ od, okVal x
  n1 : ns.length ≤ 63
  n2 : ka ≠ oa
theorem LB.keep {K : PySem.W.Frag} {CR : Addr} {PL : List LKey} {a : Addr} {ns : List Int} {ka : Addr} {kxs : List V} {rg d oa : Addr} {H H' : Hp} {od : List PyData} {D : Addr → Prop} (f : Fq D H H') (b : LB K CR PL a ns ka kxs rg d oa H od) : LB K CR PL a ns ka kxs rg d oa H' od :=
  ⟨f.seqL b.sc, f.toL b.hka, Paired.mapP b.hkx fun _ _ => KeyAt.keep f.tk, b.hrg.keep f, let ⟨oxs, e, h⟩ := b.ow; ⟨oxs, f.toL e, Paired.mapP h fun _ _ => Td.keep f.tk _ _⟩, b.ol, b.ok, b.n1, b.n2⟩
theorem LB.put {K : PySem.W.Frag} {CR : Addr} {PL : List LKey} {a : Addr} {ns : List Int} {ka : Addr} {kxs : List V} {rg d oa : Addr} {H : Hp} {od : List PyData} {oxs : List V} {i : Nat} {v : V} {x : PyData} (b : LB K CR PL a ns ka kxs rg d oa H od) (ho : H oa = some (.lst oxs)) (hp : Paired (Td H) oxs od) (hv : Td H v x) (ox : okVal x) :
    LB K CR PL a ns ka kxs rg d oa (upd H oa (.lst (oxs.set i v))) (od.set i x) := by
  have tk : Tk H (upd H oa (.lst (oxs.set i v))) := (Fr.put (S := S1 oa) ho (fun z => z) rfl).tup
  obtain ⟨dr, b1, b2, hi⟩ := b.hrg
  refine ⟨?_, by rw [upd_ne b.n2]; exact b.hka, Paired.mapP b.hkx fun _ _ => KeyAt.keep tk, ⟨dr, b1, b2, putL ho hi (by intro l z; cases z)⟩, ⟨_, upd_same, ?_⟩, by rw [List.length_set]; exact b.ol, fun y hy => ?_, b.n1, b.n2⟩
  · rcases b.sc with (h | ⟨o, h⟩) | h
    · refine .inl (.inl ?_)
      rw [upd_ne fun z => ?_]
      · exact h
      · rw [z, ho] at h
        injection h with h
        injection h with h
        have h1 := paired_len hp
        have h2 := b.ol
        have h3 := b.n1
        rw [h, List.length_map] at h1
        omega
    · refine .inl (.inr ⟨o, ?_⟩)
      rw [upd_ne fun z => ?_]
      · exact h
      · rw [z, ho] at h
        cases h
    · exact .inr h
  · have go : ∀ {as : List V} {bs : List PyData} (i : Nat), Paired (Td H) as bs → Paired (Td (upd H oa (.lst (oxs.set i v)))) (as.set i v) (bs.set i x) ∨ True := fun i h => .inr trivial
    have go2 : ∀ {as : List V} {bs : List PyData} {H' : Hp} (i : Nat), Paired (Td H') as bs → Td H' v x → Paired (Td H') (as.set i v) (bs.set i x) := by
      intro as bs H' i h hv'
      induction h generalizing i with
      | nil => exact .nil
      | cons h0 t ih =>
        cases i with
        | zero => exact .cons hv' t
        | succ i => exact .cons h0 (ih i)
    exact go2 i (Paired.mapP hp fun _ _ => Td.keep tk _ _) (Td.keep tk _ _ hv)
  · rcases List.mem_or_eq_of_mem_set hy with h | h
    · exact b.ok y h
    · rw [h]
      exact ox
theorem cutV_take (xs : List V) (r : Nat) : cutV xs none (some (r : Int)) = xs.take r := by
  unfold cutV
  rw [HT.sIx_none, HT.sIx_nat, List.drop_zero, Nat.sub_zero]
  rcases Nat.le_total r xs.length with h | h
  · rw [Nat.min_eq_left h]
  · rw [Nat.min_eq_right h, List.take_length, List.take_of_length_le h]
theorem PickOk.take {m : Nat} {pk : List (Nat × PyData)} (h : PickOk m pk) (r : Nat) : PickOk m (pk.take r) :=
  ⟨h.up.sublist (List.take_sublist _ _), fun p m => h.lt p (List.mem_of_mem_take m), fun p m => h.ok p (List.mem_of_mem_take m)⟩
theorem de (c i : Nat) : (c : Int) + (0 + (i : Int)) = ((c + i : Nat) : Int) := by omega
theorem fO_none {PL : List LKey} {n : Nat} (k : LKey) : fO PL (List.replicate n .none) k = .none := by
  unfold fO
  rw [List.getD_eq_getElem?_getD, List.getElem?_replicate]
  split <;> rfl
theorem ofF_none {PL : List LKey} {f : LKey → PyData} (h : ∀ k, f k = .none) : ofF PL f = [] := by
  unfold ofF
  have : (PL.filter fun k => !isN (f k)) = [] := by
    rw [List.filter_eq_nil_iff]
    intro k _
    rw [h k]
    simp [isN]
  rw [this]
  rfl
theorem fO_map {PL : List LKey} (sP : Sk PL) {od : List PyData} (h : od.length = PL.length) : PL.map (fO PL od) = od := by
  apply List.ext_getElem?
  intro i
  rw [List.getElem?_map]
  cases e : PL[i]? with
  | none =>
    rw [List.getElem?_eq_none_iff] at e
    exact (List.getElem?_eq_none (by omega)).symm
  | some k =>
    have hi := (List.getElem?_eq_some_iff.mp e).1
    show some (fO PL od k) = od[i]?
    unfold fO
    rw [ixK_at sP e, List.getD_eq_getElem?_getD, List.getElem?_eq_getElem (by omega)]
    rfl
theorem strs_dp {K : PySem.W.Frag} {H : Hp} : ∀ ds : List PyData, DpAll K H (ds.map fun x => V.str x.shown) (ds.map fun x => PyData.str x.shown)
  | [] => .nil
  | d :: r => .cons (.str _) (strs_dp r)
theorem ents_dp {K : PySem.W.Frag} {H : Hp} : ∀ {xs : List V} {es : List Ent}, Paired (EntAt H) xs es → DpAll K H xs (es.map entD)
  | _, _, .nil => .nil
  | _, _, .cons h t => .cons (Td.dp _ _ h.td) (ents_dp t)
structure LT (CT : Addr) (PL : List LKey) (rg d : Addr) (i : Nat) (H : Hp) (t : Addr) (r : V) (od : List PyData) (pd vd : Addr) (kvs : List (Key × V)) (ts : List Str) (T : Nd) : Prop where
  hd : H d = some (.dK (reg ts))
  tr : Tr CT PL H t rg pd vd kvs ts T
  lev : T.1 ≤ 3 * i
  gro : ts.length ≤ 1 + i * 2600
  ne1 : d ≠ pd
  ne2 : d ≠ vd
  lp : LP T.1 H r T.2
  eo : ents T.1 T.2 = ofF PL (fO PL od)
theorem LT.keep {CT : Addr} {PL : List LKey} {rg d : Addr} {i : Nat} {H H' : Hp} {t : Addr} {r : V} {od : List PyData} {pd vd : Addr} {kvs : List (Key × V)} {ts : List Str} {T : Nd} (f : Fq D0 H H') (x : LT CT PL rg d i H t r od pd vd kvs ts T) : LT CT PL rg d i H' t r od pd vd kvs ts T :=
  ⟨f.toDK x.hd fun z => z, x.tr.keep f (fun z => z) fun z => z, x.lev, x.gro, x.ne1, x.ne2, x.lp.keep f, x.eo⟩
section
variable {P : Program} {w : World} {K : PySem.W.Frag} {mg : Str → Option Value} {base : Heap} {CR CT : Addr}
def spPoolQ (PL : List LKey) : Sp := fun vs H Q _ => vs = [] ∧ ∀ H' p xs, Fq D0 H H' → H p = none → H' p = some (.lst xs) → Paired (KeyAt H') xs PL → Q (.ref p) H'
def spLaw (K : PySem.W.Frag) : Sp := fun vs H Q _ => ∃ a, ∃ ns : List Int, vs = [.ref a] ∧ SqL K H a (ns.map V.int) ∧ ns.length ≤ 63 ∧ (∀ z ∈ ns, Builtin.Int.intBits z ≤ 1048576) ∧ ∀ H', Q (.bl true) H'
theorem scLaw : FnScope ["script", "keys", "registry", "tree", "root", "own", "turn", "picks", "index", "value", "again", "low", "high", "due", "key", "k", "entry"] ["script"] (defScope sLaw) := ⟨rfl, rfl, rfl, by decide +kernel, rfl, by decide +kernel, by decide +kernel⟩
theorem ok_law {PL : List LKey} (hP : PLok PL) (h76 : PL.length = 76) {f fPl fRg fEm fPk fDr fPr fLc fSa fCh fCn fPg fGe fSc : Addr} {fd fdPl fdRg fdEm fdPk fdDr fdPr fdLc fdSa fdCh fdCn fdPg fdGe fdSc : FuncData} (F : Fun K "law" "law" sLaw f fd) (B : Bn mg) (T : TTx K CT)
    (Pl : Use P w K mg base 1 "_law_pool" fPl fdPl [] (spPoolQ PL)) (Rg : UseC P w K mg base 1 "Registry" CR fRg fdRg ["self"] (spRInit CR)) (Em : Use P w K mg base 3 "empty" fEm fdEm ["registry"] (spEmpty CR CT PL))
    (Pk : Use P w K mg base 2 "_law_picks" fPk fdPk ["script", "start", "many"] (spPicks K)) (Dr : Use P w K mg base 1 "_law_draw" fDr fdDr ["script", "k"] (spDraw K)) (Pr : Use P w K mg base 1 "_law_pairs" fPr fdPr ["keys", "picks"] (spPairs K PL))
    (Lc : Use P w K mg base 25 "_law_changed" fLc fdLc ["page", "changes", "keys"] (spLChg K PL 21)) (Sa : Use P w K mg base 25 "_law_is_same" fSa fdSa ["registry", "tree", "root", "keys"] (spLSame CR CT PL 21))
    (Ch : UseM P w K mg base 26 CT "changed" fCh fdCh ["self", "changes"] (spChg CR CT K PL 21)) (Cn : UseC P w K mg base 1 "Tree" CT fCn fdCn ["self", "registry", "root", "pages"] (spTInit CT)) (Pg : UseM P w K mg base 1 CT "pages" fPg fdPg ["self"] (spPages CT))
    (Ge : UseM P w K mg base 3 CT "get" fGe fdGe ["self", "key"] (spGet CT PL)) (Sc : UseM P w K mg base 3 CT "scan" fSc fdSc ["self", "low", "high"] (spScan CT PL)) : Fg P w K mg base CX0 27 f fd ["script"] (spLaw K) := by
  refine okG F scLaw (fun vs H Q E h => ?_) (fun cdv A outer s H vs Q E hr h => ?_)
  · obtain ⟨a, ns, rfl, _⟩ := h
    rfl
  · obtain ⟨a, ns, rfl, hsc, hn63, hbits, q⟩ := h
    have nd := scLaw.nd
    refine ⟨_, pss_cons (ps_set (i := 1) nd rfl (.inr rfl) (pu0 Pl hr (by decide) (by rfl)))
      (pss_cons (ps_set (i := 2) nd rfl (.inl rfl) (pc0 Rg hr (by decide) (by rfl)))
      (pss_cons (ps_set (i := 3) nd rfl (.inl rfl) (pu Em hr (by decide) (by rfl) (pa_cons (pv 2) pa_nil)))
      (pss_cons (ps_set (i := 4) nd rfl (.inl rfl) (pe_tup (pa_cons pe_str (pa_cons (pe_lst pa_nil) pa_nil))))
      (pss_cons (ps_set (i := 5) nd rfl (.inr rfl) (pe_op op_rep (pe_lst (pa_cons pe_non pa_nil)) (pe_callB (r := fun xs H Q => ∃ p ys, xs = [.ref p] ∧ (SqL K H p ys ∨ SqT K H p ys) ∧ Q (.int ys.length) H) call_len_seq (by rfl) B.len boot_len (pa_cons (pv 1) pa_nil))))
      (pss_cons (ps_for PassesOwn.never rfl (pi_range1 (by rfl) B.range (pa_cons (pe_op op_add pe_int (pe_callB (call_min2 rfl) (by rfl) B.min boot_min (pa_cons pe_int (pa_cons (pe_callB call_len_seq (by rfl) B.len boot_len (pa_cons (pv 0) pa_nil)) pa_nil)))) pa_nil)) (pg_name (i := 6) nd rfl (.inl rfl))
        (pss_cons (ps_set (i := 7) nd rfl (.inl rfl) (pu Pk hr (by decide) (by rfl) (pa_cons (pv 0) (pa_cons (pe_op op_mul pe_int (pv 6)) (pa_cons (pe_callB call_len_seq (by rfl) B.len boot_len (pa_cons (pv 1) pa_nil)) pa_nil)))))
        (pss_cons (ps_cut (ps_if (pt_cmpR op_eq (pe_op op_mod (pu Dr hr (by decide) (by rfl) (pa_cons (pv 0) (pa_cons (pe_op op_add pe_int (pv 6)) pa_nil))) pe_int) pe_int (nomark _))
            (pss_one (ps_set (i := 7) nd rfl (.inl rfl) (pe_slice sl_list (pv 7) po_none (po_some (pe_op op_add pe_int (pe_op op_mod (pu Dr hr (by decide) (by rfl) (pa_cons (pv 0) (pa_cons (pe_op op_add pe_int (pv 6)) pa_nil))) pe_int)))))) pss_nil))
        (pss_cons (ps_cut (ps_if (pt_cmpR op_eq (pe_op op_mod (pu Dr hr (by decide) (by rfl) (pa_cons (pv 0) (pa_cons (pe_op op_add pe_int (pv 6)) pa_nil))) pe_int) pe_int (nomark _))
            (pss_one (ps_setLc (i := 7) (own := [("index", 8)]) (g := gName 8) (tt := tYes) rfl nd rfl rfl (sw_true rfl rfl rfl (by decide +kernel)) (pi_range1 (by rfl) B.range (pa_cons (pe_callB call_len_seq (by rfl) B.len boot_len (pa_cons (pv 1) pa_nil)) pa_nil))
              (blkOk_by (N := ["script", "keys", "registry", "tree", "root", "own", "turn", "picks", "index", "value", "again", "low", "high", "due", "key", "k", "entry"]) (sc := defScope sLaw) (by decide +kernel)) (fun _ _ _ _ _ => pg_name (i := 8) nd rfl (Or.inl rfl)) (fun _ _ _ _ _ => pts_nil) (fun _ _ _ _ _ => pe_tup (pa_cons (pv 8) (pa_cons pe_non pa_nil))))) pss_nil))
        (pss_cons (ps_cut (ps_if (pt_cmpR op_eq (pe_op op_mod (pu Dr hr (by decide) (by rfl) (pa_cons (pv 0) (pa_cons (pe_op op_add pe_int (pv 6)) pa_nil))) pe_int) pe_int (nomark _))
            (pss_one (ps_set (i := 7) nd rfl (.inl rfl) (pe_lst pa_nil))) pss_nil))
        (pss_cons (ps_set (i := 3) nd rfl (.inl rfl) (pm T.cl Ch hr (by decide) (pv 3) (pa_cons (pu Pr hr (by decide) (by rfl) (pa_cons (pv 1) (pa_cons (pv 7) pa_nil))) pa_nil)))
        (pss_cons (ps_set (i := 4) nd rfl (.inl rfl) (pu Lc hr (by decide) (by rfl) (pa_cons (pv 4) (pa_cons (pu Pr hr (by decide) (by rfl) (pa_cons (pv 1) (pa_cons (pv 7) pa_nil))) (pa_cons (pv 1) pa_nil)))))
        (pss_cons (ps_for PassesOwn.never rfl (pi_list (pv 7)) (pg_tup rfl (pgs_cons (pg_name (i := 8) nd rfl (.inl rfl)) (pgs_cons (pg_name (i := 9) nd rfl (.inl rfl)) pgs_nil))) (pss_one (ps_asg (pv 9) (pg_sub (pv 5) (pv 8) set_list (fun _ => rfl)))))
        (pss_cons (ps_if (pt_not (pt_val (pu Sa hr (by decide) (by rfl) (pa_cons (pv 2) (pa_cons (pv 3) (pa_cons (pv 4) (pa_cons (pv 1) pa_nil))))))) (pss_one (ps_ret pe_bl)) pss_nil)
        (pss_cons (ps_set (i := 10) nd rfl (.inr rfl) (pc Cn hr (by decide) (by rfl) (pa_cons (pv 2) (pa_cons (pe_fld (pv 3) rfl) (pa_cons (pm0 T.cl Pg hr (by decide) (pv 3)) pa_nil)))))
        (pss_cons (ps_if (pt_cmpR (op_neD hr.hu64)
            (pe_lc (own := [("key", 14)]) (g := gName 14) (tt := tYes) rfl nd (pi_list (pv 1)) (blkOk_by (N := ["script", "keys", "registry", "tree", "root", "own", "turn", "picks", "index", "value", "again", "low", "high", "due", "key", "k", "entry"]) (sc := defScope sLaw) (by decide +kernel)) (fun _ _ _ _ _ => pg_name (i := 14) nd rfl (Or.inl rfl)) (fun _ _ _ _ _ => pts_nil)
              (fun _ _ _ _ _ => pe_callB (r := rRepr K) (call_repr hr.gd hr.hu64) (by rfl) B.repr boot_repr (pa_cons (pm T.cl Ge hr (by decide) (pv 10) (pa_cons (pv 14) pa_nil)) pa_nil)))
            (pe_lc (own := [("value", 9)]) (g := gName 9) (tt := tYes) rfl nd (pi_list (pv 5)) (blkOk_by (N := ["script", "keys", "registry", "tree", "root", "own", "turn", "picks", "index", "value", "again", "low", "high", "due", "key", "k", "entry"]) (sc := defScope sLaw) (by decide +kernel)) (fun _ _ _ _ _ => pg_name (i := 9) nd rfl (Or.inl rfl)) (fun _ _ _ _ _ => pts_nil)
              (fun _ _ _ _ _ => pe_callB (r := rRepr K) (call_repr hr.gd hr.hu64) (by rfl) B.repr boot_repr (pa_cons (pv 9) pa_nil))) (nomark _)) (pss_one (ps_ret pe_bl)) pss_nil)
        (pss_cons (ps_set (i := 11) nd rfl (.inl rfl) (pe_op op_mod (pu Dr hr (by decide) (by rfl) (pa_cons (pv 0) (pa_cons (pe_op op_add pe_int (pv 6)) pa_nil))) (pe_callB call_len_seq (by rfl) B.len boot_len (pa_cons (pv 1) pa_nil))))
        (pss_cons (ps_set (i := 12) nd rfl (.inl rfl) (pe_op op_add (pv 11) (pe_op op_mod (pu Dr hr (by decide) (by rfl) (pa_cons (pv 0) (pa_cons (pe_op op_add pe_int (pv 6)) pa_nil))) (pe_op op_sub (pe_callB call_len_seq (by rfl) B.len boot_len (pa_cons (pv 1) pa_nil)) (pv 11)))))
        (pss_cons (ps_setLc (i := 13) (own := [("k", 15)]) (g := gName 15) rfl nd rfl rfl (sw_true rfl rfl rfl (by decide +kernel)) (pi_range2 (by rfl) B.range (pa_cons (pv 11) (pa_cons (pv 12) pa_nil)))
              (blkOk_by (N := ["script", "keys", "registry", "tree", "root", "own", "turn", "picks", "index", "value", "again", "low", "high", "due", "key", "k", "entry"]) (sc := defScope sLaw) (by decide +kernel)) (fun _ _ _ _ _ => pg_name (i := 15) nd rfl (Or.inl rfl)) (fun _ _ _ _ _ => pts_one (pt_cmpR op_notN (pe_ix (r := rIxL K) ix_list (pv 5) (pv 15) (fun _ _ => rfl)) pe_non (nomark _)))
              (fun _ _ _ _ _ => pe_tup (pa_cons (pe_ix (r := rIxL K) ix_list (pv 1) (pv 15) (fun _ _ => rfl)) (pa_cons (pe_ix (r := rIxL K) ix_list (pv 5) (pv 15) (fun _ _ => rfl)) pa_nil))))
        (pss_one (ps_if (pt_cmpR op_ne (pe_callB (r := rRepr K) (call_repr hr.gd hr.hu64) (by rfl) B.repr boot_repr (pa_cons (pe_lc (own := [("entry", 16)]) (g := gName 16) (tt := tYes) rfl nd (pi_list (pm T.cl Sc hr (by decide) (pv 10) (pa_cons (pe_ix ix_list (pv 1) (pv 11) (fun _ _ => rfl)) (pa_cons (pe_ix ix_list (pv 1) (pv 12) (fun _ _ => rfl)) pa_nil))))
              (blkOk_by (N := ["script", "keys", "registry", "tree", "root", "own", "turn", "picks", "index", "value", "again", "low", "high", "due", "key", "k", "entry"]) (sc := defScope sLaw) (by decide +kernel)) (fun _ _ _ _ _ => pg_name (i := 16) nd rfl (Or.inl rfl)) (fun _ _ _ _ _ => pts_nil)
              (fun _ _ _ _ _ => pe_callTy (r := fun xs H Q => ∃ p ys, xs = [.ref p] ∧ ((SqL K H p ys ∧ ∀ l, H l = none → Q (.ref l) (upd H l (.tup ys))) ∨ (SqT K H p ys ∧ Q (.ref p) H))) call_tuple_of (by rfl) B.tuple boot_tuple (pa_cons (pv 16) pa_nil))) pa_nil))
              (pe_callB (r := rRepr K) (call_repr hr.gd hr.hu64) (by rfl) B.repr boot_repr (pa_cons (pv 13) pa_nil)) (nomark _)) (pss_one (ps_ret pe_bl)) pss_nil))))))))))))))))
      (pss_one (ps_ret pe_bl))))))), ?_⟩
    refine ⟨rfl, fun H1 ka kxs f1 hkan hka hkx => ?_⟩
    have hkl : kxs.length = 76 := by rw [paired_len hkx]; exact h76
    -- registry
    intro rg dx0 nrg ndx0 nex0
    refine ⟨rg, dx0, rfl, upd_same, fun H2 d bb cc hdn hrg hd hk => ⟨rfl, ?_⟩⟩
    have f2 : Fq D0 H1 H2 := ⟨fun b o e _ => hk b o (by rw [upd_ne (ne_of_none e nrg), upd_ne (ne_of_none e ndx0)]; exact e) (ne_of_none e nrg)⟩
    -- tree, root
    refine ⟨_, rfl, rg, d, rfl, ⟨dx0, bb, cc, hrg⟩, hd, fun H3 t0 pd0 vd0 kvs0 ts0 f3 hd3 hts tr3 nt0 ndp ndv => ?_⟩
    refine ⟨Nat.zero_le _, fun l4 hl4 => ⟨by show 2 ≤ sizeLine; decide, fun r4 hr4 => ?_⟩⟩
    have f4 : Fq D0 H3 (upd (upd H3 l4 (.lst [])) r4 (.tup [.str "leaf", .ref l4])) := (Fq.new hl4).snoc hr4
    have lp4 : LP 0 (upd (upd H3 l4 (.lst [])) r4 (.tup [.str "leaf", .ref l4])) (.ref r4) ([] : List Ent) := ⟨r4, l4, [], rfl, .of upd_same, by rw [upd_ne (ne_of_none (H := upd H3 l4 (.lst [])) upd_same hr4)]; exact upd_same, .nil⟩
    generalize upd (upd H3 l4 (.lst [])) r4 (.tup [.str "leaf", .ref l4]) = H4 at f4 lp4
    have f14 : Fq (S1 d) H1 H4 := ((f2.mono fun _ z => z.elim).trans f3).trans (f4.mono fun _ z => z.elim)
    have hka4 : H4 ka = some (.lst kxs) := f14.toL hka
    -- own
    refine ⟨by show 1 ≤ sizeLine; decide, fun lo hlo => ?_⟩
    have f5 : Fq D0 H4 (upd H4 lo (.lst [.non])) := Fq.new hlo
    refine ⟨_, rfl, ka, kxs, rfl, .inl (.inl (.inl (f5.toL hka4))), lo, _, [.non], rfl, rfl, upd_same, by rw [hkl]; decide, by rw [hkl]; decide, by rw [hkl]; decide, fun oa hoa => ?_⟩
    have f6 : Fq D0 H4 (upd (upd H4 lo (.lst [.non])) oa (.lst (List.replicate ((kxs.length : Nat) : Int).toNat [V.non]).flatten)) := f5.snoc hoa
    have eown : (List.replicate ((kxs.length : Nat) : Int).toNat [V.non]).flatten = List.replicate 76 V.non := by rw [hkl]; decide
    have hoa6 : (upd (upd H4 lo (.lst [.non])) oa (.lst (List.replicate ((kxs.length : Nat) : Int).toNat [V.non]).flatten)) oa = some (.lst (List.replicate 76 V.non)) := by rw [upd_same, eown]
    generalize hH6 : upd (upd H4 lo (.lst [.non])) oa (.lst (List.replicate ((kxs.length : Nat) : Int).toNat [V.non]).flatten) = H6 at f6 hoa6
    have f16 : Fq (S1 d) H1 H6 := f14.trans (f6.mono fun _ z => z.elim)
    have nka : ka ≠ oa := fun z => by
      have := f5.toL hka4
      rw [z, hoa] at this
      cases this
    have lb6 : LB K CR PL a ns ka kxs rg d oa H6 (List.replicate 76 .none) :=
      ⟨(f1.trans (Fq.refl _ _)).seqL hsc |> f16.seqL, f16.toL hka, Paired.mapP hkx fun _ _ => KeyAt.keep f16.tk, (show RegI CR H2 rg d from ⟨dx0, bb, cc, hrg⟩).keep (f3.trans ((f4.trans f6).mono fun _ z => z.elim)), ⟨_, hoa6, by
        have go : ∀ n, Paired (Td H6) (List.replicate n V.non) (List.replicate n PyData.none) := by
          intro n
          induction n with
          | zero => exact .nil
          | succ n ih => exact .cons (Td.none'.mpr rfl) ih
        exact go 76⟩, by simp, fun x hx => by rw [List.eq_of_mem_replicate hx]; exact okVal_none, hn63, nka⟩
    have lt6 : LT CT PL rg d 0 H6 t0 (.ref r4) (List.replicate 76 .none) pd0 vd0 kvs0 ts0 ⟨0, ([] : List Ent)⟩ :=
      ⟨(f4.trans f6).toDK hd3 (fun z => z), tr3.keep (f4.trans f6) (fun z => z) (fun z => z), Nat.le_refl _, by omega, ndp, ndv, lp4.keep f6, (ofF_none fO_none).symm⟩
    -- for turn
    refine ⟨_, rfl, a, _, rfl, .inl lb6.sc, _, _, rfl, _, _, rfl, rfl, _, rfl, ?_, ?_, for_range (fun i σ H' => ∃ t r pd vd kvs ts T od v6 v7 v8 v9 v10 v11 v12 v13, σ = [some (.ref a), some (.ref ka), some (.ref rg), some (.ref t), some r, some (.ref oa), v6, v7, v8, v9, v10, v11, v12, v13, none, none, none] ∧ LB K CR PL a ns ka kxs rg d oa H' od ∧ LT CT PL rg d i H' t r od pd vd kvs ts T)
      ⟨t0, .ref r4, pd0, vd0, kvs0, ts0, ⟨0, ([] : List Ent)⟩, List.replicate 76 .none, none, none, none, none, none, none, none, none, rfl, lb6, lt6⟩ ?_ ?_⟩
    · split <;> omega
    · split <;> omega
    · rintro i σ H1' hi ⟨t, r, pd, vd, kvs, ts, T1, od, v6, v7, v8, v9, v10, v11, v12, v13, rfl, lb, lt⟩
      have hi7 : i < 7 := by
        split at hi <;> omega
      have hr18 : (-(2 ^ 64 : Int)) < 4 ∧ (4 : Int) < 2 ^ 64 := ⟨by decide, by decide⟩
      -- picks = _law_picks(script, 4 * turn, len(keys))
      refine ⟨_, rfl, _, rfl, _, _, rfl, rfl, .inl hr18, _, rfl, ka, kxs, rfl, .inl (.inl (.inl lb.hka)), a, ns, 4 * i, kxs.length, congrArg (fun z => [V.ref a, V.int z, V.int (kxs.length : Nat)]) (show (4 : Int) * (0 + (i : Int)) = ((4 * i : Nat) : Int) by omega), lb.sc, hn63, hbits, by omega, by omega, fun Ha p1 pxs1 pk1 fa hpn1 hpx1 hpk1 pok1 => ?_⟩
      rw [hkl] at pok1
      have lba := lb.keep fa
      have lta := lt.keep fa
      have np1 : p1 ≠ oa := fun z => by
        obtain ⟨oxs0, ho0, _⟩ := lb.ow
        rw [z, ho0] at hpn1
        cases hpn1
      generalize hHa : Ha = Hx at *
      obtain ⟨oxs1, hoa1, _⟩ := id lba.ow
      -- if ..: picks = picks[:..]
      refine ⟨fun σ2 H2 => ∃ p pxs pk, σ2 = [some (.ref a), some (.ref ka), some (.ref rg), some (.ref t), some r, some (.ref oa), some (.int (0 + (i : Int))), some (.ref p), v8, v9, v10, v11, v12, v13, none, none, none] ∧ Fq D0 Hx H2 ∧ H2 p = some (.lst pxs) ∧ Paired (PickAt H2) pxs pk ∧ PickOk 76 pk ∧ p ≠ oa, ?_, ?_⟩
      · refine ⟨_, rfl, _, rfl, _, _, rfl, rfl, a, ns, 90 + i, congrArg (fun z => [V.ref a, V.int z]) (de 90 i), lba.sc, hn63, hbits, by omega, fun z1 hz1 hz1' => ⟨_, _, rfl, rfl, (by show (0 : Int) < 5; decide), rfl, _, rfl, ?_⟩⟩
        refine ite2 (fun _ => ?_) (fun _ => ⟨p1, pxs1, pk1, rfl, Fq.refl _ _, hpx1, hpk1, pok1, np1⟩)
        refine ⟨_, rfl, _, rfl, _, rfl, _, _, rfl, rfl, a, ns, 91 + i, congrArg (fun z => [V.ref a, V.int z]) (de 91 i), lba.sc, hn63, hbits, by omega, fun z2 hz2 hz2' => ⟨_, _, rfl, rfl, (by show (0 : Int) < 3; decide), _, _, rfl, rfl, _, rfl, p1, pxs1, rfl, .inl (.inl hpx1), fun p2 hp2 => ?_⟩⟩
        have h3 : 0 ≤ (1 : Int) + z2 % 3 := by
          have := Int.emod_nonneg z2 (show (3 : Int) ≠ 0 by decide)
          omega
        obtain ⟨r3, hr3⟩ := Int.eq_ofNat_of_zero_le h3
        have ec : cutV pxs1 none (some ((1 : Int) + z2 % 3)) = pxs1.take r3 := by rw [hr3]; exact cutV_take pxs1 r3
        have f2' : Fq D0 Hx (upd Hx p2 (.lst (cutV pxs1 none (some ((1 : Int) + z2 % 3))))) := Fq.new hp2
        refine ⟨p2, pxs1.take r3, pk1.take r3, rfl, f2', by rw [← ec]; exact upd_same, paired_take r3 (Paired.mapP hpk1 fun _ _ => PickAt.keep f2'.tk), pok1.take r3, fun z => by rw [z, hoa1] at hp2; cases hp2⟩
      rintro _ H2 ⟨p2, pxs2, pk2, rfl, fb, hpx2, hpk2, pok2, np2⟩
      have lbb := lba.keep fb
      obtain ⟨oxs2, hoa2, _⟩ := id lbb.ow
      -- if ..: picks = [(index, None) ..]
      refine ⟨fun σ2 H2' => ∃ p pxs pk, σ2 = [some (.ref a), some (.ref ka), some (.ref rg), some (.ref t), some r, some (.ref oa), some (.int (0 + (i : Int))), some (.ref p), v8, v9, v10, v11, v12, v13, none, none, none] ∧ Fq D0 H2 H2' ∧ H2' p = some (.lst pxs) ∧ Paired (PickAt H2') pxs pk ∧ PickOk 76 pk ∧ p ≠ oa, ?_, ?_⟩
      · refine ⟨_, rfl, _, rfl, _, _, rfl, rfl, a, ns, 100 + i, congrArg (fun z => [V.ref a, V.int z]) (de 100 i), lbb.sc, hn63, hbits, by omega, fun z1 hz1 hz1' => ⟨_, _, rfl, rfl, (by show (0 : Int) < 9; decide), rfl, _, rfl, ?_⟩⟩
        refine ite2 (fun _ => ?_) (fun _ => ⟨p2, pxs2, pk2, rfl, Fq.refl _ _, hpx2, hpk2, pok2, np2⟩)
        refine ⟨_, rfl, ka, kxs, rfl, .inl (.inl (.inl lbb.hka)), _, rfl, by omega, by omega, fun D hD => lc_range (n := kxs.length) (fun j H' => ∃ acc, Fq D0 H2 H' ∧ H' D = some (.lst acc) ∧ acc.length = j ∧ Paired (PickAt H') acc ((List.range j).map fun q => (q, PyData.none))) ⟨[], Fq.new hD, upd_same, rfl, .nil⟩ ?_ ?_⟩
        · rintro j H' hj ⟨acc, fr, hacc, hal, hp⟩
          refine ⟨rfl, _, rfl, by show 2 ≤ sizeLine; decide, fun p hp0 => ?_⟩
          have f1' : Fq D0 H' (upd H' p (.tup [.int (0 + (j : Int)), .non])) := Fq.new hp0
          have hacc1 := f1'.toL hacc
          have t2' : Tk (upd H' p (.tup [.int (0 + (j : Int)), .non])) (upd (upd H' p (.tup [.int (0 + (j : Int)), .non])) D (.lst (acc ++ [.ref p]))) := (Fr.put (S := S1 D) hacc1 (fun z => z) rfl).tup
          refine ⟨acc, hacc1, small1000' (by omega), acc ++ [.ref p], (fr.trans f1').own hD, upd_same, by rw [List.length_append, hal]; rfl, ?_⟩
          rw [List.range_succ, List.map_append]
          refine paired_app (Paired.mapP hp fun _ _ => PickAt.keep (f1'.tk.trans t2')) (.cons ⟨p, .non, rfl, .of (t2' p _ ?_ trivial), Td.none'.mpr rfl⟩ .nil)
          rw [Int.zero_add]
          exact upd_same
        · rintro H' ⟨acc, fr, hacc, hal, hp⟩
          rw [hkl] at hp
          refine ⟨D, acc, _, rfl, fr, hacc, hp, ⟨?_, fun p m => ?_, fun p m => ?_⟩, fun z => by rw [z, hoa2] at hD; cases hD⟩
          · rw [List.pairwise_map]
            exact List.pairwise_lt_range
          · obtain ⟨q', mq, rfl⟩ := List.mem_map.mp m
            exact List.mem_range.mp mq
          · obtain ⟨q', mq, rfl⟩ := List.mem_map.mp m
            exact okVal_none
      rintro _ H3' ⟨p3, pxs3, pk3, rfl, fc, hpx3, hpk3, pok3, np3⟩
      have lbc := lbb.keep fc
      -- if ..: picks = []
      refine ⟨fun σ2 H2' => ∃ p pxs pk, σ2 = [some (.ref a), some (.ref ka), some (.ref rg), some (.ref t), some r, some (.ref oa), some (.int (0 + (i : Int))), some (.ref p), v8, v9, v10, v11, v12, v13, none, none, none] ∧ Fq D0 H3' H2' ∧ H2' p = some (.lst pxs) ∧ Paired (PickAt H2') pxs pk ∧ PickOk 76 pk ∧ p ≠ oa, ?_, ?_⟩
      · obtain ⟨oxs3, hoa3, _⟩ := id lbc.ow
        refine ⟨_, rfl, _, rfl, _, _, rfl, rfl, a, ns, 110 + i, congrArg (fun z => [V.ref a, V.int z]) (de 110 i), lbc.sc, hn63, hbits, by omega, fun z1 hz1 hz1' => ⟨_, _, rfl, rfl, (by show (0 : Int) < 7; decide), rfl, _, rfl, ?_⟩⟩
        refine ite2 (fun _ => ?_) (fun _ => ⟨p3, pxs3, pk3, rfl, Fq.refl _ _, hpx3, hpk3, pok3, np3⟩)
        refine ⟨Nat.zero_le _, fun p hp => ⟨p, [], [], rfl, Fq.new hp, upd_same, .nil, ⟨.nil, fun p m => (by cases m), fun p m => (by cases m)⟩, fun z => by rw [z, hoa3] at hp; cases hp⟩⟩
      rintro _ H4' ⟨p, pxs, pk, rfl, fd', hpx, hpk, pok, npo⟩
      have fad : Fq D0 Hx H4' := (fb.trans fc).trans fd'
      have lbd := lbc.keep fd'
      have ltd := lta.keep fad
      have hpkl : pk.length ≤ 1000 := Nat.le_trans (pick_len pok) (by decide)
      have plt : ∀ q ∈ pk, q.1 < PL.length := fun q m => by rw [h76]; exact pok.lt q m
      have hcho : ChOk PL (pairsOf PL pk) := pairs_ok (by rw [h76]; exact pok)
      have hchl : (pairsOf PL pk).length ≤ 1000 := by unfold pairsOf; rw [List.length_map]; exact hpkl
      have lev21 : T1.1 ≤ 21 := by have := ltd.lev; omega
      have gro1 := ltd.gro
      -- tree = tree.changed(_law_pairs(keys, picks))
      obtain ⟨dxt, htt⟩ := ltd.tr.at'.ins
      refine ⟨_, rfl, t, dxt, _, rfl, htt, flT_no _ _ _ _ (by decide +kernel) (by decide +kernel) (by decide +kernel) (by decide +kernel), _, rfl, _, rfl, ka, p, kxs, pxs, pk, rfl, lbd.hka, lbd.hkx, hpx, hpk, plt, hpkl, fun H5' pr prs f5' hpr hprs => ?_⟩
      have lt5 := ltd.keep f5'
      have lb5 := lbd.keep f5'
      refine ⟨t, rg, pd, vd, d, kvs, ts, T1, pr, false, prs, pairsOf PL pk, rfl, lt5.tr, lev21, lb5.hrg, lt5.hd, lt5.ne1, lt5.ne2, hpr, hprs, hcho, hchl, by omega, fun H6' t2 pd2 vd2 kvs2 ts2 f6' hd6 hpre6 hlen6 tr6 nt6 nep6 nev6 => ?_⟩
      have lb6' := lb5.keep f6'
      have lp6 : LP T1.1 H6' r T1.2 := lt5.lp.keep f6'
      have hpx6 : H6' p = some (.lst pxs) := f6'.toL (f5'.toL hpx)
      have hpk6 : Paired (PickAt H6') pxs pk := Paired.mapP hpk fun _ _ => PickAt.keep (f5'.tk.trans f6'.tk)
      have hgro : ts2.length ≤ 1 + (i + 1) * 2600 := by
        have : (T1.1 + 1) * 100 ≤ 22 * 100 := Nat.mul_le_mul_right _ (by omega)
        omega
      -- root = _law_changed(..)
      refine ⟨_, rfl, _, rfl, _, rfl, ka, p, kxs, pxs, pk, rfl, lb6'.hka, lb6'.hkx, hpx6, hpk6, plt, hpkl, fun H7' pr2 prs2 f7' hpr2 hprs2 => ?_⟩
      have lb7 := lb6'.keep f7'
      refine ⟨_, rfl, r, pr2, ka, false, prs2, kxs, pairsOf PL pk, T1, rfl, lev21, lp6.keep f7', lt5.tr.rg, lt5.tr.ok, hpr2, hprs2, hcho, hchl, lb7.hka, lb7.hkx, fun H8' r2 f8' lp8 => ?_⟩
      have lb8 := lb7.keep f8'
      have f68 := f7'.trans f8'
      have tr8 := tr6.keep f68 (fun z => z) (fun z => z)
      have hd8 : H8' d = some (.dK (reg ts2)) := f68.toDK hd6 fun z => z
      have hpx8 := f68.toL hpx6
      have hpk8 : Paired (PickAt H8') pxs pk := Paired.mapP hpk6 fun _ _ => PickAt.keep f68.tk
      obtain ⟨c1, c2, c3, c4⟩ := chg_spec hP.sk (Nat.le_trans hP.len (by decide)) (ch := pairsOf PL pk) lt5.tr.rg lt5.tr.ok
      generalize hT2 : chg PL T1 (pairsOf PL pk) = T2 at *
      have eo2 : ents T2.1 T2.2 = ofF PL (fO PL (setAll od pk)) := by
        rw [c2]
        refine ofF_congr fun k hk => ?_
        rw [fO_all hP.sk plt (by rw [lb.ol, h76]) hk, lt5.eo]
        exact upds_congr (look_ofF hP.sk hk)
      -- for index, value in picks: own[index] = value
      refine ⟨_, rfl, p, rfl, ⟨_, .inl (.inl hpx8)⟩, for_list (K := K) (a := p) (xs := pxs) (fun j σ H2 => ∃ v8 v9, σ = [some (.ref a), some (.ref ka), some (.ref rg), some (.ref t2), some r2, some (.ref oa), some (.int (0 + (i : Int))), some (.ref p), v8, v9, v10, v11, v12, v13, none, none, none] ∧ LB K CR PL a ns ka kxs rg d oa H2 (setAll od (pk.take j)) ∧ Tr CT PL H2 t2 rg pd2 vd2 kvs2 ts2 T2 ∧ H2 d = some (.dK (reg ts2)) ∧ LP T2.1 H2 r2 T2.2 ∧ H2 p = some (.lst pxs) ∧ Paired (PickAt H2) pxs pk)
        ⟨v8, v9, rfl, lb8, tr8, hd8, lp8, hpx8, hpk8⟩ (fun j σ H2 _ ⟨_, _, _, _, _, _, _, h, _⟩ => .inl (.inl h)) ?_ ?_⟩
      · rintro j x σ H2' hx ⟨v8, v9, rfl, lbj, trj, hdj, lpj, hpj, hpkj⟩
        obtain ⟨pc, epc, e, wv, rfl, h1c, h2c⟩ := paired_get hpkj hx
        have hpc := pok.lt pc (List.mem_of_getElem? epc)
        obtain ⟨oxs, hoj, hodj⟩ := id lbj.ow
        have hol : oxs.length = 76 := by rw [paired_len hodj]; exact lbj.ol
        have eix : ixN oxs.length ((pc.1 : Nat) : Int) = some pc.1 := by
          unfold ixN
          rw [if_pos (by omega), if_pos (by omega)]
          rfl
        refine ⟨e, _, rfl, h1c.sq, rfl, _, _, rfl, _, _, rfl, rfl, _, rfl, _, rfl, _, rfl, oa, oxs, _, pc.1, rfl, rfl, hoj, eix, ?_⟩
        have et : pk.take (j + 1) = pk.take j ++ [pc] := by rw [List.take_add_one, epc]; rfl
        have tkj : Tk H2' (upd H2' oa (.lst (oxs.set pc.1 wv))) := (Fr.put (S := S1 oa) hoj (fun z => z) rfl).tup
        refine ⟨_, _, rfl, ?_, trj.put hoj, putL hoj hdj (by intro l z; cases z), lpj.put hoj (by omega) (rgood.or c1), by rw [upd_ne npo]; exact hpj, Paired.mapP hpkj fun _ _ => PickAt.keep tkj⟩
        rw [et, setAll_snoc]
        exact lbj.put hoj hodj h2c (pok.ok pc (List.mem_of_getElem? epc))
      rintro σ H9 ⟨v8, v9, rfl, lb9, tr9, hd9, lp9, hpx9, hpk9⟩
      rw [paired_len hpk9, List.take_length] at lb9
      generalize hod2 : setAll od pk = od2 at *
      have lev22 : T2.1 ≤ 3 * (i + 1) := by have := ltd.lev; omega
      -- if not _law_is_same(..)
      refine ⟨_, rfl, _, rfl, _, rfl, _, rfl, rg, t2, r2, .ref ka, d, pd2, vd2, kvs2, ts2, T2, rfl, by omega, tr9, lp9, lb9.hrg, hd9, nep6, fun H10 f10 hd10 => ⟨_, rfl, iteF ?_⟩⟩
      have lb10 := lb9.keep f10
      have tr10 := tr9.keep f10 (fun z => nep6 z.symm) (fun z => nev6 z.symm)
      have lp10 := lp9.keep f10
      -- again = Tree(..)
      obtain ⟨dx2, ht2⟩ := tr10.at'.ins
      refine ⟨_, rfl, _, rfl, t2, CT, dx2, _, _, rfl, ht2, T.cl, T.root, flT_root _ _ _ _, _, rfl, t2, dx2, _, rfl, ht2, flT_no _ _ _ _ (by decide +kernel) (by decide +kernel) (by decide +kernel) (by decide +kernel), t2, dx2, _, rg, pd2, vd2, kvs2, rfl, ht2, tr10.at'.pg, fun pp hpp => ?_⟩
      intro t3 dx3 nt3 ndx3 nex3
      have f11 : Fq D0 H10 (upd H10 pp (.dK kvs2)) := Fq.new hpp
      have npt3 : pp ≠ t3 := ne_of_none (H := upd H10 pp (.dK kvs2)) upd_same nt3
      have npd3 : pp ≠ dx3 := ne_of_none (H := upd H10 pp (.dK kvs2)) upd_same ndx3
      refine ⟨t3, dx3, rg, _, pp, kvs2, rfl, upd_same, by rw [upd_ne npt3, upd_ne npd3]; exact upd_same, fun H12 pd3 vd3 hpd3 hvd3 hne3 ht3 hp3 hv3 hk3 => ⟨rfl, ?_⟩⟩
      have f12 : Fq D0 (upd H10 pp (.dK kvs2)) H12 := ⟨fun b o e _ => hk3 b o (by rw [upd_ne (ne_of_none e nt3), upd_ne (ne_of_none e ndx3)]; exact e) (ne_of_none e nt3)⟩
      have f1012 := f11.trans f12
      have tra := tr10.again f1012.tk ⟨⟨dx3, ht3⟩, hp3, ⟨[], hv3, List.nodup_nil, fun k m => by cases m⟩, hne3⟩
      have lb12 := lb10.keep f1012
      have ol2 : od2.length = PL.length := by rw [lb9.ol, h76]
      have vd3n : ∀ b o, H10 b = some o → b ≠ vd3 := fun b o e z => by
        have e1 := f11.keep b o e fun _ _ z => z
        have e2 : (upd (upd (upd H10 pp (.dK kvs2)) dx3 (.own t3)) t3 (.ins CT dx3 [])) b = some o := by rw [upd_ne (ne_of_none e1 nt3), upd_ne (ne_of_none e1 ndx3)]; exact e1
        rw [z, hvd3] at e2
        cases e2
      have hd12 : H12 d = some (.dK (reg ts2)) := f1012.toDK hd10 fun z => z
      have ndv3 : d ≠ vd3 := vd3n d _ hd10
      have tr12 := tr10.keep f1012 (fun z => z) (fun z => z)
      have lp12 := lp10.keep f1012
      obtain ⟨vs2, hvd2', _⟩ := tr10.at'.vis
      have npd23 : pd2 ≠ vd3 := vd3n pd2 _ tr10.at'.pg
      have nvd23 : vd2 ≠ vd3 := vd3n vd2 _ hvd2'
      have niceO : ∀ x ∈ od2, nice x = true := fun x m => (lb9.ok x m).nice
      have reprO : ∀ x, okVal x → reprOk x := fun x h => nice_repr h.nice (Nat.le_trans h.dep (by decide)) (Nat.le_trans h.wd (by decide))
      have okfO : ∀ k, okVal (fO PL od2 k) := fun k => by
        unfold fO
        rw [List.getD_eq_getElem?_getD]
        cases e : od2[ixK PL k]? with
        | none => exact okVal_none
        | some x => exact lb9.ok x (List.mem_of_getElem? e)
      have em : ∀ {β : Type} (g : PyData → β), PL.map (fun k => g (fO PL od2 k)) = od2.map g := fun g => by
        conv => rhs; rw [← fO_map hP.sk ol2]
        rw [List.map_map]
        rfl
      -- [repr(again.get(key)) for key in keys]
      refine ⟨_, rfl, ka, rfl, ⟨_, .inl (.inl lb12.hka)⟩, fun D1 hD1 => lc_list (K := K) (a := ka) (xs := kxs) (fun j H' => Fq (S1 vd3) H12 H' ∧ Tr CT PL H' t3 rg pd3 vd3 kvs2 ts2 T2 ∧ H' D1 = some (.lst ((PL.take j).map fun k => V.str (fO PL od2 k).shown)))
        ⟨Fq.new hD1, tra.keep (Fq.new (D := D0) hD1) (fun z => z) (fun z => z), by rw [List.take_zero]; exact upd_same⟩ (fun j H' _ ⟨f, _, _⟩ => .inl (.inl (f.toL lb12.hka))) ?_ ?_⟩
      · rintro j x H13 hx ⟨f13, trj, hD13⟩
        obtain ⟨k, ek, hk⟩ := paired_get lb12.hkx hx
        have mk' := List.mem_of_getElem? ek
        have hjl : j < PL.length := (List.getElem?_eq_some_iff.mp ek).1
        obtain ⟨dxj, htj⟩ := trj.at'.ins
        have el : look (ents T2.1 T2.2) k = fO PL od2 k := by rw [eo2]; exact look_ofF hP.sk mk'
        refine ⟨rfl, _, rfl, t3, dxj, _, rfl, htj, flT_no _ _ _ _ (by decide +kernel) (by decide +kernel) (by decide +kernel) (by decide +kernel), _, rfl, t3, rg, pd3, vd3, kvs2, ts2, T2, x, k, rfl, trj, hk.keep f13.tk, hP.key k mk', fun H14 v f14 tr14 td => ?_⟩
        rw [el] at td
        have hD14 := f14.toL hD13
        refine ⟨v, fO PL od2 k, rfl, Td.dp _ _ td, reprO _ (okfO k), _, hD14, ?_, (f13.trans f14).own hD1, tr14.put hD14, ?_⟩
        · rw [List.length_map, List.length_take]
          exact small1000' (by omega)
        · have et : PL.take (j + 1) = PL.take j ++ [k] := by rw [List.take_add_one, ek]; rfl
          rw [et, List.map_append]
          exact upd_same
      rintro H13 ⟨f13, tr13, hD13⟩
      rw [hkl, ← h76, List.take_length, em (fun x => V.str x.shown)] at hD13
      have lb13 := lb12.keep f13
      obtain ⟨oxs, ho13, hod13⟩ := id lb13.ow
      have hol : oxs.length = 76 := by rw [paired_len hod13]; exact lb13.ol
      -- [repr(value) for value in own]
      refine ⟨_, rfl, oa, rfl, ⟨_, .inl (.inl ho13)⟩, fun D2 hD2 => lc_list (K := K) (a := oa) (xs := oxs) (fun j H' => Fq D0 H13 H' ∧ H' D2 = some (.lst ((od2.take j).map fun x => V.str x.shown))) ⟨Fq.new hD2, by rw [List.take_zero]; exact upd_same⟩ (fun j H' _ ⟨f, _⟩ => .inl (.inl (f.toL ho13))) ?_ ?_⟩
      · rintro j x H14 hx ⟨f14, hD14⟩
        obtain ⟨y, ey, td⟩ := paired_get hod13 hx
        have my := List.mem_of_getElem? ey
        refine ⟨rfl, _, rfl, x, y, rfl, Td.dp _ _ (Td.keep f14.tk _ _ td), reprO y (lb9.ok y my), _, hD14, ?_, f14.own hD2, ?_⟩
        · rw [List.length_map, List.length_take]
          have := lb9.ol
          exact small1000' (by omega)
        · have et : od2.take (j + 1) = od2.take j ++ [y] := by rw [List.take_add_one, ey]; rfl
          rw [et, List.map_append]
          exact upd_same
      rintro H14 ⟨f14, hD14⟩
      rw [paired_len hod13, List.take_length] at hD14
      have shp := texts_shaped niceO
      refine ⟨.list (od2.map fun x => PyData.str x.shown), .list (od2.map fun x => PyData.str x.shown), .lst (.inl (.inl (f14.toL hD13))) (strs_dp od2), .lst (.inl (.inl hD14)) (strs_dp od2), shp, shp, _, rfl, ?_⟩
      rw [SeqAt.eqv_refl _ (SeqAt.canLay_of_shaped shp)]
      refine iteF ?_
      have f1214 : Fq (S1 vd3) H12 H14 := f13.trans (f14.mono fun _ z => z.elim)
      have lb14 := lb12.keep f1214
      have tr14 := tr13.keep f14 (fun z => z) (fun z => z)
      have ho14 : H14 oa = some (.lst oxs) := f14.toL ho13
      have hod14 : Paired (Td H14) oxs od2 := Paired.mapP hod13 fun _ _ => Td.keep f14.tk _ _
      -- low
      refine ⟨_, rfl, _, rfl, _, _, rfl, rfl, a, ns, 120 + i, congrArg (fun z => [V.ref a, V.int z]) (de 120 i), lb14.sc, hn63, hbits, by omega, fun z1 hz1 hz1' => ⟨_, rfl, ka, kxs, rfl, .inl (.inl (.inl lb14.hka)), _, _, rfl, rfl, (by show (0 : Int) < ((kxs.length : Nat) : Int); omega), ?_⟩⟩
      obtain ⟨lo', hlo'⟩ := Int.eq_ofNat_of_zero_le (Int.emod_nonneg z1 (show ((kxs.length : Nat) : Int) ≠ 0 by omega))
      have hlo76 : lo' < 76 := by
        have := Int.emod_lt_of_pos z1 (show (0 : Int) < ((kxs.length : Nat) : Int) by omega)
        omega
      dsimp only
      rw [hlo']
      -- high
      refine ⟨_, rfl, _, rfl, _, rfl, _, _, rfl, rfl, a, ns, 130 + i, congrArg (fun z => [V.ref a, V.int z]) (de 130 i), lb14.sc, hn63, hbits, by omega, fun z2 hz2 hz2' => ⟨_, rfl, ka, kxs, rfl, .inl (.inl (.inl lb14.hka)), _, rfl, _, _, rfl, rfl, _, _, rfl, rfl, (by show (0 : Int) < ((kxs.length : Nat) : Int) - (lo' : Int); omega), _, _, rfl, rfl, ?_⟩⟩
      have hpos2 : (0 : Int) < ((kxs.length : Nat) : Int) - (lo' : Int) := by omega
      have h0a := Int.emod_nonneg z2 (show ((kxs.length : Nat) : Int) - (lo' : Int) ≠ 0 by omega)
      have h0b := Int.emod_lt_of_pos z2 hpos2
      obtain ⟨hi', hhi'⟩ := Int.eq_ofNat_of_zero_le (show 0 ≤ (lo' : Int) + z2 % (((kxs.length : Nat) : Int) - (lo' : Int)) by omega)
      have hlohi : lo' ≤ hi' ∧ hi' < 76 := by omega
      dsimp only
      rw [hhi']
      obtain ⟨k1, ek1⟩ : ∃ k1, PL[lo']? = some k1 := ⟨_, List.getElem?_eq_getElem (by omega)⟩
      obtain ⟨k2, ek2⟩ : ∃ k2, PL[hi']? = some k2 := ⟨_, List.getElem?_eq_getElem (by omega)⟩
      -- due
      refine ⟨_, rfl, _, rfl, _, _, rfl, ⟨by omega, by omega, by omega, by omega⟩, fun D3 hD3 => lc_range (lo := (lo' : Int)) (n := ((hi' : Int) - (lo' : Int)).toNat) (fun j H' => ∃ acc, Fq D0 H14 H' ∧ H' D3 = some (.lst acc) ∧ acc.length ≤ j ∧ Paired (EntAt H') acc ((((PL.drop lo').take j).filter fun k => !isN (fO PL od2 k)).map fun k => (k, fO PL od2 k))) ⟨[], Fq.new hD3, upd_same, Nat.le_refl _, by rw [List.take_zero]; exact .nil⟩ ?_ ?_⟩
      · rintro j H15 hj ⟨acc, f15, hacc, hal, hp⟩
        have hjl : lo' + j < 76 := by omega
        obtain ⟨k, ek⟩ : ∃ k, PL[lo' + j]? = some k := ⟨_, List.getElem?_eq_getElem (by omega)⟩
        obtain ⟨kv, ekv, bk, rfl, hbk⟩ := paired_getR lb14.hkx ek
        obtain ⟨xv, exv⟩ : ∃ xv, oxs[lo' + j]? = some xv := ⟨_, List.getElem?_eq_getElem (by omega)⟩
        obtain ⟨y, ey, td⟩ := paired_get hod14 exv
        have efy : fO PL od2 k = y := by
          unfold fO
          rw [ixK_at hP.sk ek, List.getD_eq_getElem?_getD, ey]
          rfl
        have eidx : ((lo' : Int) + (j : Int)) = ((lo' + j : Nat) : Int) := by omega
        have atk : atI kxs ((lo' : Int) + (j : Int)) = some (.ref bk) := by rw [eidx]; exact atI_nat ekv
        have ato : atI oxs ((lo' : Int) + (j : Int)) = some xv := by rw [eidx]; exact atI_nat exv
        have etk : (((PL.drop lo').take (j + 1)).filter fun k => !isN (fO PL od2 k)).map (fun k => (k, fO PL od2 k)) = (((PL.drop lo').take j).filter fun k => !isN (fO PL od2 k)).map (fun k => (k, fO PL od2 k)) ++ (if (!isN (fO PL od2 k)) = true then [(k, fO PL od2 k)] else []) := by
          have ed : (PL.drop lo')[j]? = some k := by rw [List.getElem?_drop]; exact ek
          rw [List.take_add_one, ed, List.filter_append, List.map_append]
          congr 1
          show List.map _ (List.filter _ [k]) = _
          rw [List.filter_cons, List.filter_nil]
          split <;> rfl
        refine ⟨rfl, _, rfl, _, rfl, oa, oxs, _, xv, rfl, rfl, .inl (.inl (f15.toL ho14)), ato, rfl, _, rfl, ?_⟩
        rw [td_non td, ← efy]
        refine ite2 (fun hc => ?_) (fun hc => ?_)
        · refine ⟨_, rfl, _, rfl, ka, kxs, _, .ref bk, rfl, rfl, .inl (.inl (f15.toL lb14.hka)), atk, _, rfl, _, rfl, oa, oxs, _, xv, rfl, rfl, .inl (.inl (f15.toL ho14)), ato, by show 2 ≤ sizeLine; decide, fun p hp0 => ?_⟩
          have f16' : Fq D0 H15 (upd H15 p (.tup [.ref bk, xv])) := Fq.new hp0
          have hacc6 := f16'.toL hacc
          have t7 : Tk (upd H15 p (.tup [.ref bk, xv])) (upd (upd H15 p (.tup [.ref bk, xv])) D3 (.lst (acc ++ [.ref p]))) := (Fr.put (S := S1 D3) hacc6 (fun z => z) rfl).tup
          have tkA : Tk H14 (upd (upd H15 p (.tup [.ref bk, xv])) D3 (.lst (acc ++ [.ref p]))) := f15.tk.trans (f16'.tk.trans t7)
          refine ⟨acc, hacc6, small1000' (by omega), acc ++ [.ref p], (f15.trans f16').own hD3, upd_same, by rw [List.length_append]; exact Nat.succ_le_succ hal, ?_⟩
          rw [etk, if_pos hc]
          refine paired_snoc ⟨p, .ref bk, xv, rfl, .of (t7 p _ upd_same trivial), ⟨bk, rfl, tkA bk _ hbk trivial⟩, ?_⟩ (Paired.mapP hp fun _ _ => EntAt.keep (f16'.tk.trans t7))
          show Td _ xv (fO PL od2 k)
          rw [efy]
          exact Td.keep tkA _ _ td
        · refine ⟨acc, f15, hacc, Nat.le_succ_of_le hal, ?_⟩
          rw [etk, if_neg hc, List.append_nil]
          exact hp
      rintro H15 ⟨acc, f15, hacc, hal, hp⟩
      have etn : ((hi' : Int) - (lo' : Int)).toNat = hi' - lo' := by omega
      rw [etn] at hp hal
      rw [← scan_keys hP.sk ek1 ek2 hlohi.1] at hp
      have f1215 : Fq (S1 vd3) H12 H15 := f1214.trans (f15.mono fun _ z => z.elim)
      have lb15 := lb12.keep f1215
      have tr15 := tr14.keep f15 (fun z => z) (fun z => z)
      obtain ⟨v1, ev1, hk1⟩ := paired_getR lb15.hkx ek1
      obtain ⟨v2, ev2, hk2⟩ := paired_getR lb15.hkx ek2
      obtain ⟨dx15, ht15⟩ := tr15.at'.ins
      have lenE : (ents T2.1 T2.2).length ≤ 1000 := by
        rw [eo2]
        have := ofF_len PL (fO PL od2)
        omega
      -- scan
      refine ⟨_, rfl, t3, dx15, _, rfl, ht15, flT_no _ _ _ _ (by decide +kernel) (by decide +kernel) (by decide +kernel) (by decide +kernel), _, rfl, _, rfl, ka, kxs, _, v1, rfl, rfl, .inl (.inl lb15.hka), atI_nat ev1, _, rfl, _, rfl, ka, kxs, _, v2, rfl, rfl, .inl (.inl lb15.hka), atI_nat ev2, t3, rg, pd3, vd3, kvs2, ts2, T2, v1, v2, k1, k2, rfl, tr15, lenE, hk1, hP.key k1 (List.mem_of_getElem? ek1), hk2, hP.key k2 (List.mem_of_getElem? ek2), fun H16 sp sxs f16' tr16 hspn hsx hse => ?_⟩
      refine ⟨sp, rfl, ⟨_, .inl (.inl hsx)⟩, fun D4 hD4 => lc_list (K := K) (a := sp) (xs := sxs) (fun j H' => Fq D0 H16 H' ∧ H' D4 = some (.lst (sxs.take j))) ⟨Fq.new hD4, by rw [List.take_zero]; exact upd_same⟩ (fun j H' _ ⟨f, _⟩ => .inl (.inl (f.toL hsx))) ?_ ?_⟩
      · rintro j x H17 hx ⟨f17, hD17⟩
        obtain ⟨en, een, e, q0, w0, rfl, h5, h6, h7⟩ := paired_get hse hx
        refine ⟨rfl, _, rfl, e, _, rfl, .inr ⟨(h5.keep f17.tk).sq, _, hD17, ?_, f17.own hD4, ?_⟩⟩
        · rw [List.length_take, paired_len hse]
          have := List.length_filter_le (inR k1 k2) (ents T2.1 T2.2)
          exact small1000' (by omega)
        · have et : sxs.take (j + 1) = sxs.take j ++ [.ref e] := by rw [List.take_add_one, hx]; rfl
          rw [et]
          exact upd_same
      rintro H17 ⟨f17, hD17⟩
      rw [List.take_length] at hD17
      have hse17 : Paired (EntAt H17) sxs ((ents T2.1 T2.2).filter (inR k1 k2)) := Paired.mapP hse fun _ _ => EntAt.keep f17.tk
      rw [eo2] at hse17
      have f1517 : Fq (S1 vd3) H15 H17 := f16'.trans (f17.mono fun _ z => z.elim)
      have hp17 : Paired (EntAt H17) acc ((ofF PL (fO PL od2)).filter (inR k1 k2)) := Paired.mapP hp fun _ _ => EntAt.keep f1517.tk
      have lrep : reprOk (.list (((ofF PL (fO PL od2)).filter (inR k1 k2)).map entD)) := list_repr (fun dd md => by
        obtain ⟨e, me, rfl⟩ := List.mem_map.mp md
        have := ofF_mem.mp (show (e.1, e.2) ∈ ofF PL (fO PL od2) from (List.mem_filter.mp me).1)
        exact entD_ok (hP.key e.1 this.1) (by rw [← this.2.1]; exact okfO e.1)) (by
        rw [List.length_map]
        have h1 := List.length_filter_le (inR k1 k2) (ofF PL (fO PL od2))
        have h2 := ofF_len PL (fO PL od2)
        omega)
      refine ⟨.ref D4, _, rfl, .lst (.inl (.inl hD17)) (ents_dp hse17), lrep, _, rfl, .ref D3, _, rfl, .lst (.inl (.inl (f1517.toL hacc))) (ents_dp hp17), lrep, rfl, _, rfl, ?_⟩
      refine iteNS rfl ?_
      have fE : Fq (S1 vd3) H12 H17 := f1215.trans f1517
      exact ⟨t2, r2, pd2, vd2, kvs2, ts2, T2, od2, _, _, _, _, _, _, _, _, rfl, lb12.keep fE, ⟨fE.toDK hd12 (fun z => ndv3 z), tr12.keep fE (fun z => npd23 z) (fun z => nvd23 z), lev22, hgro, nep6, nev6, lp12.keep fE, eo2⟩⟩
    · rintro σ H' _
      exact q H'
end
end G

/-! The law's end. -/
namespace G
open PySem PySem.Spec PyProof.Rows L2
section
theorem endGB {l : PySem.W.OpenLaw} {n k : Nat} {q : Program} {loose : List Str} {XP : (Str → Option Value) → Heap → Prop} {YP : World → Heap → Prop} {d : DefRec} {K : Params → PySem.W.Frag} {sp : World → Sp} {x : Str}
    (hn : l.most = some n) (hn2 : n ≤ sizeLine) (hdf : d.params.defaults = []) (hr : Room k callerA)
    (hY : ∀ (w : World) (h : Heap), YP w h → (K w.params).In h)
    (F : ∀ (w : World) (mg : Str → Option Value) (fa : Addr) (h : Heap), (K w.params).In h → h.Ns mainGlobals mg → mg d.name = some (.ref fa) →
      ∃ fd : FuncData, (∀ (s : Shared) (u : Value), BindsTo s fd ⟨[u], []⟩ [(x, u)]) ∧
        ∀ base : Heap, (K w.params).In base → base.Ns mainGlobals mg → Fg l.prog w (K w.params) mg base CX0 k fa fd [x] (sp w))
    (hsp : ∀ (w : World) (H : Hp) (a : Addr) (ns : List Int), ns.length ≤ n → (∀ z ∈ ns, PySem.Builtin.Int.intBits z ≤ 1048576) → Only H → SqL (K w.params) H a (ns.map V.int) → sp w [.ref a] H (fun v _ => v = .bl true) fun _ _ _ => False) :
    PySem.W.WalkO q loose XP YP l.row.toRowW d [] (fun f vs => PySem.call f vs) := by
  refine Att.attach_callB hn hdf fun w s₀ s₁ mg mb fa o pm cd doc a vs ns Gd Y ho hd hcd hmg hobj hints hlen hbits hg => ?_
  have KX := hY w _ Y
  obtain ⟨fd, hb, hF⟩ := F w mg fa _ KX Gd.T.g hmg
  have rv := vals_ints hints
  have nV : (ns.map V.int).length = vs.length := rv.length
  have small : (ns.map V.int).length ≤ sizeLine := by rw [List.length_map]; exact Nat.le_trans hlen hn2
  -- all of the heap but what is tracked is the base
  have run : ∀ H : Hp, Only H → SqL (K w.params) H a (ns.map V.int) → HOk l.prog w H s₁.heap → (∀ b, H b ≠ none → b = a ∧ (K w.params).lookup a = none) →
      codeAny (model l.prog w) callerA (.call (.ref fa) ⟨[.ref a], []⟩) (fun r s' => r = .ok (.ret (.bool true)) ∧ OldK s₁.heap s'.heap ∧ s'.os = s₁.os ∧ AllBare s'.gens) s₁ := by
    intro H hO hS hok hA
    have out : ∀ b, b ≠ a → H b = none := fun b hb => by
      cases q : H b with
      | none => rfl
      | some u => exact absurd (hA b (by rw [q]; exact fun z => nomatch z)).1 hb
    have dicts : ∀ {b : Addr} {o : Obj} {es : Array DictEntry} {ep : Nat}, s₁.heap.get? b = some o → o.data = .dict es ep → H b = none := fun {b o es ep} e d => out b fun z => by
      rw [z, hobj] at e
      cases e
      exact absurd (show Data.seq vs.toArray _ = Data.dict es ep from d) (fun z => nomatch z)
    have nsB : ∀ {b : Addr} {m : Str → Option Value}, s₁.heap.Ns b m → (hidT s₁.heap H).Ns b m := fun {b m} ⟨o, es, ep, e, d, r⟩ => ⟨o, es, ep, hidT_get e (dicts e d), d, r⟩
    have kB : (K w.params).In (hidT s₁.heap H) := fun b o e => hidT_get (KX b o e) (by
      cases q : H b with
      | none => rfl
      | some u =>
        obtain ⟨z, z2⟩ := hA b (by rw [q]; exact fun z => nomatch z)
        rw [z, z2] at e
        cases e)
    have gB := nsB Gd.T.g
    have M : Mod (K w.params) mg (hidT s₁.heap H) := ⟨kB, gB, ⟨mb, nsB Gd.T.b, Gd.T.builtins⟩, let ⟨mc, h1, h2⟩ := Gd.T.nolimit; ⟨mc, nsB h1, h2⟩⟩
    have e0 : Env0 l.prog w (K w.params) mg (hidT s₁.heap H) callerA [] s₁ H :=
      ⟨rfl, M, fun b o e => of_hidT e, Nat.le_of_eq (hidT_size _ _), trivial, fun b hb => absurd (show b ∈ ([] : List Addr) from hb) List.not_mem_nil, hok, .of_eq hg⟩
    refine codeAny_mono ((hF _ kB gB).run callerA [] s₁ H ⟨[.ref a], []⟩ [.ref a] [.ref a] _ _ ⟨hr, caller_quiet⟩ e0 (hb s₁ (.ref a)) (.cons rfl .nil) (hsp w H a ns hlen hbits hO hS)) ?_
    intro r s' h
    match r, h with
    | .error e, h => exact False.elim h
    | .ok .next, h => exact False.elim h
    | .ok .brk, h => exact False.elim h
    | .ok .cont, h => exact False.elim h
    | .ok (.ret u), ⟨v, H', os, bare, un, hok', r', q⟩ =>
      obtain rfl : v = .bl true := q
      obtain rfl : u = Value.bool true := r'
      refine ⟨rfl, OldK.of_keep fun b o e => ?_, os, bare⟩
      rcases hO b with z | ⟨ob, xs, z⟩
      · exact un.keep b o e z (fun z => absurd (show b ∈ ([] : List Addr) from z) List.not_mem_nil) List.not_mem_nil
      · have e1 := (hok b _ z).1
        have e2 := (hok' b _ (un.frzs b ob _ z)).1
        rw [e] at e1
        cases e1
        exact e2
  cases hk : (K w.params).lookup a with
  | some o =>
    have e := KX a o hk
    rw [hobj] at e
    cases e
    exact run (fun _ => none) (fun _ => .inl rfl) (.inr ⟨_, vs.toArray, _, hk, rfl, rfl, rfl, by rw [List.size_toArray, ← nV]; exact small, rv⟩) (fun b u z => nomatch z) fun b z => absurd rfl z
  | none =>
    refine run (fun b => if b = a then some (.frz { cls := .type "list", data := .seq vs.toArray } (.lst (ns.map V.int))) else none) (fun b => ?_) (.inl (.inr ⟨_, if_pos rfl⟩)) (fun b u z => ?_) fun b z => ⟨?_, hk⟩
    · by_cases hb : b = a
      · exact .inr ⟨_, _, if_pos hb⟩
      · exact .inl (if_neg hb)
    · by_cases hb : b = a
      · subst hb
        cases (if_pos rfl).symm.trans z
        exact ⟨hobj, small, vs, _, rv, hobj⟩
      · cases (if_neg hb).symm.trans z
    · by_cases hb : b = a
      · exact hb
      · exact absurd (if_neg hb) z
end
theorem all_mk {l : PySem.W.OpenLaw} {w : World} {K : PySem.W.Frag} {h : Heap} {mg : Str → Option Value} {fa CR CT f_ri f_rn f_cu f_od f_pl f_ti f_tp f_tg f_ts f_tl f_tr f_tc f_tq f_em f_dr f_po f_va f_pk f_pr f_lc f_fi f_lr f_lh f_ln f_ls f_lw : Addr} {tmp : Nat} (X : K.In h) (G : h.Ns mainGlobals mg) (hfa : mg "law" = some (.ref fa))
    {od_ri an_ri od_rn an_rn od_cu an_cu od_od an_od od_pl an_pl od_ti an_ti od_tp an_tp od_tg an_tg od_ts an_ts od_tl an_tl od_tr an_tr od_tc an_tc od_tq an_tq od_em an_em od_dr an_dr od_po an_po od_va an_va od_pk an_pk od_pr an_pr od_lc an_lc od_fi an_fi od_lr an_lr od_lh an_lh od_ln an_ln od_ls an_ls od_lw an_lw : Option Addr} {sl_ri sl_rn sl_cu sl_od sl_pl sl_ti sl_tp sl_tg sl_ts sl_tl sl_tr sl_tc sl_tq sl_em sl_dr sl_po sl_va sl_pk sl_pr sl_lc sl_fi sl_lr sl_lh sl_ln sl_ls sl_lw : Array (Option Value)} {oc_ri kV_ri dc_ri pm_ri cd_ri ct_ri oc_rn kV_rn dc_rn pm_rn cd_rn ct_rn oc_cu kV_cu dc_cu pm_cu cd_cu ct_cu oc_od kV_od dc_od pm_od cd_od ct_od oc_pl kV_pl dc_pl pm_pl cd_pl ct_pl oc_ti kV_ti dc_ti pm_ti cd_ti ct_ti oc_tp kV_tp dc_tp pm_tp cd_tp ct_tp oc_tg kV_tg dc_tg pm_tg cd_tg ct_tg oc_ts kV_ts dc_ts pm_ts cd_ts ct_ts oc_tl kV_tl dc_tl pm_tl cd_tl ct_tl oc_tr kV_tr dc_tr pm_tr cd_tr ct_tr oc_tc kV_tc dc_tc pm_tc cd_tc ct_tc oc_tq kV_tq dc_tq pm_tq cd_tq ct_tq oc_em kV_em dc_em pm_em cd_em ct_em oc_dr kV_dr dc_dr pm_dr cd_dr ct_dr oc_po kV_po dc_po pm_po cd_po ct_po oc_va kV_va dc_va pm_va cd_va ct_va oc_pk kV_pk dc_pk pm_pk cd_pk ct_pk oc_pr kV_pr dc_pr pm_pr cd_pr ct_pr oc_lc kV_lc dc_lc pm_lc cd_lc ct_lc oc_fi kV_fi dc_fi pm_fi cd_fi ct_fi oc_lr kV_lr dc_lr pm_lr cd_lr ct_lr oc_lh kV_lh dc_lh pm_lh cd_lh ct_lh oc_ln kV_ln dc_ln pm_ln cd_ln ct_ln oc_ls kV_ls dc_ls pm_ls cd_ls ct_ls oc_lw kV_lw dc_lw pm_lw cd_lw ct_lw : Value}
    (aCR : PySem.W.nsIn K mainGlobals "Registry" = some (some (.ref CR)))
    (pgR : PySem.W.plainGet K CR Str.empty = true)
    (hdR : PySem.W.hasDictIn K CR = true)
    (poR : PySem.W.plainOver K CR = true)
    (saR : PySem.W.findIn K (.ref CR) "__setattr__" = some (some (.builtin "object.__setattr__")))
    (mkR : PySem.W.makesIn K CR = true)
    (kcR : PySem.W.keepIn K (.ref CR) = true)
    (nRnames : PySem.W.findIn K (.ref CR) "_names" = some none)
    (nRpens : PySem.W.findIn K (.ref CR) "_pens" = some none)
    (nRseals : PySem.W.findIn K (.ref CR) "_seals" = some none)
    (aCT : PySem.W.nsIn K mainGlobals "Tree" = some (some (.ref CT)))
    (pgT : PySem.W.plainGet K CT Str.empty = true)
    (hdT : PySem.W.hasDictIn K CT = true)
    (poT : PySem.W.plainOver K CT = true)
    (saT : PySem.W.findIn K (.ref CT) "__setattr__" = some (some (.builtin "object.__setattr__")))
    (mkT : PySem.W.makesIn K CT = true)
    (kcT : PySem.W.keepIn K (.ref CT) = true)
    (nTroot : PySem.W.findIn K (.ref CT) "root" = some none)
    (nTregistry : PySem.W.findIn K (.ref CT) "_registry" = some none)
    (nTpages : PySem.W.findIn K (.ref CT) "_pages" = some none)
    (nTvisited : PySem.W.findIn K (.ref CT) "_visited" = some none)
    (a_ri : PySem.W.findIn K (.ref CR) "__init__" = some (some (.ref f_ri)))
    (i_ri : PySem.W.isFn K (.ref f_ri) = true)
    (l_ri : K.lookup f_ri = some ⟨oc_ri, od_ri, .func (PySem.W.fnOf "__init__" "Registry.__init__" (defArgs sRInit) (defBody sRInit) (defScope sRInit) .none kV_ri dc_ri pm_ri an_ri cd_ri ct_ri), sl_ri⟩)
    (c_ri : PySem.W.codeIn K cd_ri "Registry.__init__" = true)
    (k_ri : PySem.W.keepIn K (.ref f_ri) = true)
    (a_rn : PySem.W.findIn K (.ref CR) "name" = some (some (.ref f_rn)))
    (i_rn : PySem.W.isFn K (.ref f_rn) = true)
    (l_rn : K.lookup f_rn = some ⟨oc_rn, od_rn, .func (PySem.W.fnOf "name" "Registry.name" (defArgs sRName) (defBody sRName) (defScope sRName) .none kV_rn dc_rn pm_rn an_rn cd_rn ct_rn), sl_rn⟩)
    (c_rn : PySem.W.codeIn K cd_rn "Registry.name" = true)
    (k_rn : PySem.W.keepIn K (.ref f_rn) = true)
    (a_cu : PySem.W.nsIn K mainGlobals "cut" = some (some (.ref f_cu)))
    (l_cu : K.lookup f_cu = some ⟨oc_cu, od_cu, .func (PySem.W.fnOf "cut" "cut" (defArgs sCut) (defBody sCut) (defScope sCut) .none kV_cu dc_cu pm_cu an_cu cd_cu ct_cu), sl_cu⟩)
    (c_cu : PySem.W.codeIn K cd_cu "cut" = true)
    (k_cu : PySem.W.keepIn K (.ref f_cu) = true)
    (a_od : PySem.W.nsIn K mainGlobals "order" = some (some (.ref f_od)))
    (l_od : K.lookup f_od = some ⟨oc_od, od_od, .func (PySem.W.fnOf "order" "order" (defArgs sOrder) (defBody sOrder) (defScope sOrder) .none kV_od dc_od pm_od an_od cd_od ct_od), sl_od⟩)
    (c_od : PySem.W.codeIn K cd_od "order" = true)
    (k_od : PySem.W.keepIn K (.ref f_od) = true)
    (a_pl : PySem.W.nsIn K mainGlobals "place_of" = some (some (.ref f_pl)))
    (l_pl : K.lookup f_pl = some ⟨oc_pl, od_pl, .func (PySem.W.fnOf "place_of" "place_of" (defArgs sPlace) (defBody sPlace) (defScope sPlace) .none kV_pl dc_pl pm_pl an_pl cd_pl ct_pl), sl_pl⟩)
    (c_pl : PySem.W.codeIn K cd_pl "place_of" = true)
    (k_pl : PySem.W.keepIn K (.ref f_pl) = true)
    (a_ti : PySem.W.findIn K (.ref CT) "__init__" = some (some (.ref f_ti)))
    (i_ti : PySem.W.isFn K (.ref f_ti) = true)
    (l_ti : K.lookup f_ti = some ⟨oc_ti, od_ti, .func (PySem.W.fnOf "__init__" "Tree.__init__" (defArgs sTInit) (defBody sTInit) (defScope sTInit) .none kV_ti dc_ti pm_ti an_ti cd_ti ct_ti), sl_ti⟩)
    (c_ti : PySem.W.codeIn K cd_ti "Tree.__init__" = true)
    (k_ti : PySem.W.keepIn K (.ref f_ti) = true)
    (a_tp : PySem.W.findIn K (.ref CT) "_page" = some (some (.ref f_tp)))
    (i_tp : PySem.W.isFn K (.ref f_tp) = true)
    (l_tp : K.lookup f_tp = some ⟨oc_tp, od_tp, .func (PySem.W.fnOf "_page" "Tree._page" (defArgs sPage) (defBody sPage) (defScope sPage) .none kV_tp dc_tp pm_tp an_tp cd_tp ct_tp), sl_tp⟩)
    (c_tp : PySem.W.codeIn K cd_tp "Tree._page" = true)
    (k_tp : PySem.W.keepIn K (.ref f_tp) = true)
    (a_tg : PySem.W.findIn K (.ref CT) "get" = some (some (.ref f_tg)))
    (i_tg : PySem.W.isFn K (.ref f_tg) = true)
    (l_tg : K.lookup f_tg = some ⟨oc_tg, od_tg, .func (PySem.W.fnOf "get" "Tree.get" (defArgs sGet) (defBody sGet) (defScope sGet) .none kV_tg dc_tg pm_tg an_tg cd_tg ct_tg), sl_tg⟩)
    (c_tg : PySem.W.codeIn K cd_tg "Tree.get" = true)
    (k_tg : PySem.W.keepIn K (.ref f_tg) = true)
    (a_ts : PySem.W.findIn K (.ref CT) "scan" = some (some (.ref f_ts)))
    (i_ts : PySem.W.isFn K (.ref f_ts) = true)
    (l_ts : K.lookup f_ts = some ⟨oc_ts, od_ts, .func (PySem.W.fnOf "scan" "Tree.scan" (defArgs sScan) (defBody sScan) (defScope sScan) .none kV_ts dc_ts pm_ts an_ts cd_ts ct_ts), sl_ts⟩)
    (c_ts : PySem.W.codeIn K cd_ts "Tree.scan" = true)
    (k_ts : PySem.W.keepIn K (.ref f_ts) = true)
    (a_tl : PySem.W.findIn K (.ref CT) "_lay" = some (some (.ref f_tl)))
    (i_tl : PySem.W.isFn K (.ref f_tl) = true)
    (l_tl : K.lookup f_tl = some ⟨oc_tl, od_tl, .func (PySem.W.fnOf "_lay" "Tree._lay" (defArgs sLay) (defBody sLay) (defScope sLay) .none kV_tl dc_tl pm_tl an_tl cd_tl ct_tl), sl_tl⟩)
    (c_tl : PySem.W.codeIn K cd_tl "Tree._lay" = true)
    (k_tl : PySem.W.keepIn K (.ref f_tl) = true)
    (a_tr : PySem.W.findIn K (.ref CT) "_replaced" = some (some (.ref f_tr)))
    (i_tr : PySem.W.isFn K (.ref f_tr) = true)
    (l_tr : K.lookup f_tr = some ⟨oc_tr, od_tr, .func (PySem.W.fnOf "_replaced" "Tree._replaced" (defArgs sRepl) (defBody sRepl) (defScope sRepl) .none kV_tr dc_tr pm_tr an_tr cd_tr ct_tr), sl_tr⟩)
    (c_tr : PySem.W.codeIn K cd_tr "Tree._replaced" = true)
    (k_tr : PySem.W.keepIn K (.ref f_tr) = true)
    (a_tc : PySem.W.findIn K (.ref CT) "changed" = some (some (.ref f_tc)))
    (i_tc : PySem.W.isFn K (.ref f_tc) = true)
    (l_tc : K.lookup f_tc = some ⟨oc_tc, od_tc, .func (PySem.W.fnOf "changed" "Tree.changed" (defArgs sChg) (defBody sChg) (defScope sChg) .none kV_tc dc_tc pm_tc an_tc cd_tc ct_tc), sl_tc⟩)
    (c_tc : PySem.W.codeIn K cd_tc "Tree.changed" = true)
    (k_tc : PySem.W.keepIn K (.ref f_tc) = true)
    (a_tq : PySem.W.findIn K (.ref CT) "pages" = some (some (.ref f_tq)))
    (i_tq : PySem.W.isFn K (.ref f_tq) = true)
    (l_tq : K.lookup f_tq = some ⟨oc_tq, od_tq, .func (PySem.W.fnOf "pages" "Tree.pages" (defArgs sPages) (defBody sPages) (defScope sPages) .none kV_tq dc_tq pm_tq an_tq cd_tq ct_tq), sl_tq⟩)
    (c_tq : PySem.W.codeIn K cd_tq "Tree.pages" = true)
    (k_tq : PySem.W.keepIn K (.ref f_tq) = true)
    (a_em : PySem.W.nsIn K mainGlobals "empty" = some (some (.ref f_em)))
    (l_em : K.lookup f_em = some ⟨oc_em, od_em, .func (PySem.W.fnOf "empty" "empty" (defArgs sEmpty) (defBody sEmpty) (defScope sEmpty) .none kV_em dc_em pm_em an_em cd_em ct_em), sl_em⟩)
    (c_em : PySem.W.codeIn K cd_em "empty" = true)
    (k_em : PySem.W.keepIn K (.ref f_em) = true)
    (a_dr : PySem.W.nsIn K mainGlobals "_law_draw" = some (some (.ref f_dr)))
    (l_dr : K.lookup f_dr = some ⟨oc_dr, od_dr, .func (PySem.W.fnOf "_law_draw" "_law_draw" (defArgs sDraw) (defBody sDraw) (defScope sDraw) .none kV_dr dc_dr pm_dr an_dr cd_dr ct_dr), sl_dr⟩)
    (c_dr : PySem.W.codeIn K cd_dr "_law_draw" = true)
    (k_dr : PySem.W.keepIn K (.ref f_dr) = true)
    (a_po : PySem.W.nsIn K mainGlobals "_law_pool" = some (some (.ref f_po)))
    (l_po : K.lookup f_po = some ⟨oc_po, od_po, .func (PySem.W.fnOf "_law_pool" "_law_pool" (defArgs sPool) (defBody sPool) (defScope sPool) .none kV_po dc_po pm_po an_po cd_po ct_po), sl_po⟩)
    (c_po : PySem.W.codeIn K cd_po "_law_pool" = true)
    (k_po : PySem.W.keepIn K (.ref f_po) = true)
    (a_va : PySem.W.nsIn K mainGlobals "_law_value" = some (some (.ref f_va)))
    (l_va : K.lookup f_va = some ⟨oc_va, od_va, .func (PySem.W.fnOf "_law_value" "_law_value" (defArgs sValue) (defBody sValue) (defScope sValue) .none kV_va dc_va pm_va an_va cd_va ct_va), sl_va⟩)
    (c_va : PySem.W.codeIn K cd_va "_law_value" = true)
    (k_va : PySem.W.keepIn K (.ref f_va) = true)
    (a_pk : PySem.W.nsIn K mainGlobals "_law_picks" = some (some (.ref f_pk)))
    (l_pk : K.lookup f_pk = some ⟨oc_pk, od_pk, .func (PySem.W.fnOf "_law_picks" "_law_picks" (defArgs sPicks) (defBody sPicks) (defScope sPicks) .none kV_pk dc_pk pm_pk an_pk cd_pk ct_pk), sl_pk⟩)
    (c_pk : PySem.W.codeIn K cd_pk "_law_picks" = true)
    (k_pk : PySem.W.keepIn K (.ref f_pk) = true)
    (a_pr : PySem.W.nsIn K mainGlobals "_law_pairs" = some (some (.ref f_pr)))
    (l_pr : K.lookup f_pr = some ⟨oc_pr, od_pr, .func (PySem.W.fnOf "_law_pairs" "_law_pairs" (defArgs sPairs) (defBody sPairs) (defScope sPairs) .none kV_pr dc_pr pm_pr an_pr cd_pr ct_pr), sl_pr⟩)
    (c_pr : PySem.W.codeIn K cd_pr "_law_pairs" = true)
    (k_pr : PySem.W.keepIn K (.ref f_pr) = true)
    (a_lc : PySem.W.nsIn K mainGlobals "_law_cut" = some (some (.ref f_lc)))
    (l_lc : K.lookup f_lc = some ⟨oc_lc, od_lc, .func (PySem.W.fnOf "_law_cut" "_law_cut" (defArgs sLCut) (defBody sLCut) (defScope sLCut) .none kV_lc dc_lc pm_lc an_lc cd_lc ct_lc), sl_lc⟩)
    (c_lc : PySem.W.codeIn K cd_lc "_law_cut" = true)
    (k_lc : PySem.W.keepIn K (.ref f_lc) = true)
    (a_fi : PySem.W.nsIn K mainGlobals "_law_first" = some (some (.ref f_fi)))
    (l_fi : K.lookup f_fi = some ⟨oc_fi, od_fi, .func (PySem.W.fnOf "_law_first" "_law_first" (defArgs sFirst) (defBody sFirst) (defScope sFirst) .none kV_fi dc_fi pm_fi an_fi cd_fi ct_fi), sl_fi⟩)
    (c_fi : PySem.W.codeIn K cd_fi "_law_first" = true)
    (k_fi : PySem.W.keepIn K (.ref f_fi) = true)
    (a_lr : PySem.W.nsIn K mainGlobals "_law_replaced" = some (some (.ref f_lr)))
    (l_lr : K.lookup f_lr = some ⟨oc_lr, od_lr, .func (PySem.W.fnOf "_law_replaced" "_law_replaced" (defArgs sLRepl) (defBody sLRepl) (defScope sLRepl) .none kV_lr dc_lr pm_lr an_lr cd_lr ct_lr), sl_lr⟩)
    (c_lr : PySem.W.codeIn K cd_lr "_law_replaced" = true)
    (k_lr : PySem.W.keepIn K (.ref f_lr) = true)
    (a_lh : PySem.W.nsIn K mainGlobals "_law_changed" = some (some (.ref f_lh)))
    (l_lh : K.lookup f_lh = some ⟨oc_lh, od_lh, .func (PySem.W.fnOf "_law_changed" "_law_changed" (defArgs sLChg) (defBody sLChg) (defScope sLChg) .none kV_lh dc_lh pm_lh an_lh cd_lh ct_lh), sl_lh⟩)
    (c_lh : PySem.W.codeIn K cd_lh "_law_changed" = true)
    (k_lh : PySem.W.keepIn K (.ref f_lh) = true)
    (a_ln : PySem.W.nsIn K mainGlobals "_law_named" = some (some (.ref f_ln)))
    (l_ln : K.lookup f_ln = some ⟨oc_ln, od_ln, .func (PySem.W.fnOf "_law_named" "_law_named" (defArgs sLNamed) (defBody sLNamed) (defScope sLNamed) .none kV_ln dc_ln pm_ln an_ln cd_ln ct_ln), sl_ln⟩)
    (c_ln : PySem.W.codeIn K cd_ln "_law_named" = true)
    (k_ln : PySem.W.keepIn K (.ref f_ln) = true)
    (a_ls : PySem.W.nsIn K mainGlobals "_law_is_same" = some (some (.ref f_ls)))
    (l_ls : K.lookup f_ls = some ⟨oc_ls, od_ls, .func (PySem.W.fnOf "_law_is_same" "_law_is_same" (defArgs sLSame) (defBody sLSame) (defScope sLSame) .none kV_ls dc_ls pm_ls an_ls cd_ls ct_ls), sl_ls⟩)
    (c_ls : PySem.W.codeIn K cd_ls "_law_is_same" = true)
    (k_ls : PySem.W.keepIn K (.ref f_ls) = true)
    (a_lw : PySem.W.nsIn K mainGlobals "law" = some (some (.ref f_lw)))
    (l_lw : K.lookup f_lw = some ⟨oc_lw, od_lw, .func (PySem.W.fnOf "law" "law" (defArgs sLaw) (defBody sLaw) (defScope sLaw) .none kV_lw dc_lw pm_lw an_lw cd_lw ct_lw), sl_lw⟩)
    (c_lw : PySem.W.codeIn K cd_lw "law" = true)
    (k_lw : PySem.W.keepIn K (.ref f_lw) = true)
    (z_tuple : PySem.W.nsIn K mainGlobals "tuple" = some none)
    (z_int : PySem.W.nsIn K mainGlobals "int" = some none)
    (z_isinstance : PySem.W.nsIn K mainGlobals "isinstance" = some none)
    (z_str : PySem.W.nsIn K mainGlobals "str" = some none)
    (z_len : PySem.W.nsIn K mainGlobals "len" = some none)
    (z_range : PySem.W.nsIn K mainGlobals "range" = some none)
    (z_dict : PySem.W.nsIn K mainGlobals "dict" = some none)
    (z_sorted : PySem.W.nsIn K mainGlobals "sorted" = some none)
    (z_enumerate : PySem.W.nsIn K mainGlobals "enumerate" = some none)
    (z_repr : PySem.W.nsIn K mainGlobals "repr" = some none)
    (z_min : PySem.W.nsIn K mainGlobals "min" = some none)
    (mp : PySem.W.nsIn K mainGlobals "MOST_PARTS" = some (some (.int 6 tmp)))
    : ∃ fd : FuncData, (∀ (s : Shared) (v : Value), BindsTo s fd ⟨[v], []⟩ [("script", v)]) ∧ ∀ base : Heap, K.In base → base.Ns mainGlobals mg → Fg l.prog w K mg base CX0 27 fa fd ["script"] (spLaw K) := by
  have e := hfa.symm.trans (PySem.W.mg_of X G a_lw)
  cases e
  have B : Bn mg := ⟨PySem.W.mg_none_of X G z_tuple, PySem.W.mg_none_of X G z_int, PySem.W.mg_none_of X G z_isinstance, PySem.W.mg_none_of X G z_str, PySem.W.mg_none_of X G z_len, PySem.W.mg_none_of X G z_range, PySem.W.mg_none_of X G z_dict, PySem.W.mg_none_of X G z_sorted, PySem.W.mg_none_of X G z_enumerate, PySem.W.mg_none_of X G z_repr, PySem.W.mg_none_of X G z_min⟩
  have R : RTx K CR := ⟨⟨pgR, hdR, poR, saR⟩, nRnames, nRpens, nRseals⟩
  have T : TTx K CT := ⟨⟨pgT, hdT, poT, saT⟩, nTroot, nTregistry, nTpages, nTvisited⟩
  have M6 := PySem.W.mg_of X G mp
  have F_ri := fun_mk (st := sRInit) l_ri c_ri k_ri
  have b_ri := F_ri.binds (ps := ["self"]) fun _ _ _ _ _ _ us hl => match us, hl with | [_], _ => rfl
  have F_rn := fun_mk (st := sRName) l_rn c_rn k_rn
  have b_rn := F_rn.binds (ps := ["self", "value"]) fun _ _ _ _ _ _ us hl => match us, hl with | [_, _], _ => rfl
  have F_cu := fun_mk (st := sCut) l_cu c_cu k_cu
  have b_cu := F_cu.binds (ps := ["parts"]) fun _ _ _ _ _ _ us hl => match us, hl with | [_], _ => rfl
  have F_od := fun_mk (st := sOrder) l_od c_od k_od
  have b_od := F_od.binds (ps := ["key"]) fun _ _ _ _ _ _ us hl => match us, hl with | [_], _ => rfl
  have F_pl := fun_mk (st := sPlace) l_pl c_pl k_pl
  have b_pl := F_pl.binds (ps := ["children", "key"]) fun _ _ _ _ _ _ us hl => match us, hl with | [_, _], _ => rfl
  have F_ti := fun_mk (st := sTInit) l_ti c_ti k_ti
  have b_ti := F_ti.binds (ps := ["self", "registry", "root", "pages"]) fun _ _ _ _ _ _ us hl => match us, hl with | [_, _, _, _], _ => rfl
  have F_tp := fun_mk (st := sPage) l_tp c_tp k_tp
  have b_tp := F_tp.binds (ps := ["self", "name"]) fun _ _ _ _ _ _ us hl => match us, hl with | [_, _], _ => rfl
  have F_tg := fun_mk (st := sGet) l_tg c_tg k_tg
  have b_tg := F_tg.binds (ps := ["self", "key"]) fun _ _ _ _ _ _ us hl => match us, hl with | [_, _], _ => rfl
  have F_ts := fun_mk (st := sScan) l_ts c_ts k_ts
  have b_ts := F_ts.binds (ps := ["self", "low", "high"]) fun _ _ _ _ _ _ us hl => match us, hl with | [_, _, _], _ => rfl
  have F_tl := fun_mk (st := sLay) l_tl c_tl k_tl
  have b_tl := F_tl.binds (ps := ["self", "page", "made"]) fun _ _ _ _ _ _ us hl => match us, hl with | [_, _, _], _ => rfl
  have F_tr := fun_mk (st := sRepl) l_tr c_tr k_tr
  have b_tr := F_tr.binds (ps := ["self", "name", "changes", "made"]) fun _ _ _ _ _ _ us hl => match us, hl with | [_, _, _, _], _ => rfl
  have F_tc := fun_mk (st := sChg) l_tc c_tc k_tc
  have b_tc := F_tc.binds (ps := ["self", "changes"]) fun _ _ _ _ _ _ us hl => match us, hl with | [_, _], _ => rfl
  have F_tq := fun_mk (st := sPages) l_tq c_tq k_tq
  have b_tq := F_tq.binds (ps := ["self"]) fun _ _ _ _ _ _ us hl => match us, hl with | [_], _ => rfl
  have F_em := fun_mk (st := sEmpty) l_em c_em k_em
  have b_em := F_em.binds (ps := ["registry"]) fun _ _ _ _ _ _ us hl => match us, hl with | [_], _ => rfl
  have F_dr := fun_mk (st := sDraw) l_dr c_dr k_dr
  have b_dr := F_dr.binds (ps := ["script", "k"]) fun _ _ _ _ _ _ us hl => match us, hl with | [_, _], _ => rfl
  have F_po := fun_mk (st := sPool) l_po c_po k_po
  have b_po := F_po.binds (ps := []) fun _ _ _ _ _ _ us hl => match us, hl with | [], _ => rfl
  have F_va := fun_mk (st := sValue) l_va c_va k_va
  have b_va := F_va.binds (ps := ["number"]) fun _ _ _ _ _ _ us hl => match us, hl with | [_], _ => rfl
  have F_pk := fun_mk (st := sPicks) l_pk c_pk k_pk
  have b_pk := F_pk.binds (ps := ["script", "start", "many"]) fun _ _ _ _ _ _ us hl => match us, hl with | [_, _, _], _ => rfl
  have F_pr := fun_mk (st := sPairs) l_pr c_pr k_pr
  have b_pr := F_pr.binds (ps := ["keys", "picks"]) fun _ _ _ _ _ _ us hl => match us, hl with | [_, _], _ => rfl
  have F_lc := fun_mk (st := sLCut) l_lc c_lc k_lc
  have b_lc := F_lc.binds (ps := ["parts"]) fun _ _ _ _ _ _ us hl => match us, hl with | [_], _ => rfl
  have F_fi := fun_mk (st := sFirst) l_fi c_fi k_fi
  have b_fi := F_fi.binds (ps := ["page"]) fun _ _ _ _ _ _ us hl => match us, hl with | [_], _ => rfl
  have F_lr := fun_mk (st := sLRepl) l_lr c_lr k_lr
  have b_lr := F_lr.binds (ps := ["page", "changes", "keys"]) fun _ _ _ _ _ _ us hl => match us, hl with | [_, _, _], _ => rfl
  have F_lh := fun_mk (st := sLChg) l_lh c_lh k_lh
  have b_lh := F_lh.binds (ps := ["page", "changes", "keys"]) fun _ _ _ _ _ _ us hl => match us, hl with | [_, _, _], _ => rfl
  have F_ln := fun_mk (st := sLNamed) l_ln c_ln k_ln
  have b_ln := F_ln.binds (ps := ["registry", "page", "found"]) fun _ _ _ _ _ _ us hl => match us, hl with | [_, _, _], _ => rfl
  have F_ls := fun_mk (st := sLSame) l_ls c_ls k_ls
  have b_ls := F_ls.binds (ps := ["registry", "tree", "root", "keys"]) fun _ _ _ _ _ _ us hl => match us, hl with | [_, _, _, _], _ => rfl
  have F_lw := fun_mk (st := sLaw) l_lw c_lw k_lw
  have b_lw := F_lw.binds (ps := ["script"]) fun _ _ _ _ _ _ us hl => match us, hl with | [_], _ => rfl
  refine ⟨PySem.W.fnOf "law" "law" (defArgs sLaw) (defBody sLaw) (defScope sLaw) .none kV_lw dc_lw pm_lw an_lw cd_lw ct_lw, fun s v => .of_eq rfl, fun base _ _ => ?_⟩
  have U_od : Use l.prog w K mg base 1 "order" f_od _ ["key"] (spOrd) := ⟨PySem.W.mg_of X G a_od, k_od, b_od, ok_order F_od B⟩
  have U_pl : Use l.prog w K mg base 2 "place_of" f_pl _ ["children", "key"] (spPlace) := ⟨PySem.W.mg_of X G a_pl, k_pl, b_pl, ok_place F_pl B U_od⟩
  have U_cu : Use l.prog w K mg base 1 "cut" f_cu _ ["parts"] (spCut) := ⟨PySem.W.mg_of X G a_cu, k_cu, b_cu, ok_cut F_cu B M6⟩
  have C_ri : UseC l.prog w K mg base 1 "Registry" CR f_ri _ ["self"] (spRInit CR) := ⟨PySem.W.mg_of X G aCR, ⟨mkR, a_ri, i_ri, kcR⟩, b_ri, ok_rinit F_ri R⟩
  have U_rn : UseM l.prog w K mg base 1 CR "name" f_rn _ ["self", "value"] (spName CR) := ⟨⟨a_rn, i_rn, k_rn⟩, b_rn, ok_name F_rn R B⟩
  have C_ti : UseC l.prog w K mg base 1 "Tree" CT f_ti _ ["self", "registry", "root", "pages"] (spTInit CT) := ⟨PySem.W.mg_of X G aCT, ⟨mkT, a_ti, i_ti, kcT⟩, b_ti, ok_tinit F_ti T B⟩
  have U_tq : UseM l.prog w K mg base 1 CT "pages" f_tq _ ["self"] (spPages CT) := ⟨⟨a_tq, i_tq, k_tq⟩, b_tq, ok_pages F_tq T B⟩
  have U_tp : UseM l.prog w K mg base 1 CT "_page" f_tp _ ["self", "name"] (spPage CT) := ⟨⟨a_tp, i_tp, k_tp⟩, b_tp, ok_page F_tp T⟩
  have U_tl : UseM l.prog w K mg base 2 CT "_lay" f_tl _ ["self", "page", "made"] (spLay CR CT) := ⟨⟨a_tl, i_tl, k_tl⟩, b_tl, ok_lay F_tl T R U_rn⟩
  have U_tg : UseM l.prog w K mg base 3 CT "get" f_tg _ ["self", "key"] (spGet CT poolL) := ⟨⟨a_tg, i_tg, k_tg⟩, b_tg, ok_get F_tg T U_tp U_pl⟩
  have U_ts : UseM l.prog w K mg base 3 CT "scan" f_ts _ ["self", "low", "high"] (spScan CT poolL) := ⟨⟨a_ts, i_ts, k_ts⟩, b_ts, ok_scan F_ts T B U_tp U_od⟩
  have G_tr := ok_repl (PL := poolL) pool_ok F_tr T B U_tp U_tl.lay2 U_od U_pl U_cu ⟨a_tr, i_tr, k_tr⟩ b_tr
  have U_tr : UseM l.prog w K mg base 25 CT "_replaced" f_tr _ ["self", "name", "changes", "made"] (spReplN CR CT K poolL 21) := ⟨⟨a_tr, i_tr, k_tr⟩, b_tr, fg_repl G_tr⟩
  have U_tc : UseM l.prog w K mg base 26 CT "changed" f_tc _ ["self", "changes"] (spChg CR CT K poolL 21) := ⟨⟨a_tc, i_tc, k_tc⟩, b_tc, ok_changed pool_ok F_tc T R B U_tr U_tl.lay2 U_rn U_cu C_ti⟩
  have U_em : Use l.prog w K mg base 3 "empty" f_em _ ["registry"] (spEmpty CR CT poolL) := ⟨PySem.W.mg_of X G a_em, k_em, b_em, ok_empty F_em R U_rn C_ti⟩
  have U_dr : Use l.prog w K mg base 1 "_law_draw" f_dr _ ["script", "k"] (spDraw K) := ⟨PySem.W.mg_of X G a_dr, k_dr, b_dr, ok_draw F_dr B⟩
  have U_po : Use l.prog w K mg base 1 "_law_pool" f_po _ [] (spPoolQ poolL) := ⟨PySem.W.mg_of X G a_po, k_po, b_po, ok_pool F_po B⟩
  have U_va : Use l.prog w K mg base 1 "_law_value" f_va _ ["number"] (spValue) := ⟨PySem.W.mg_of X G a_va, k_va, b_va, ok_value F_va⟩
  have U_pk : Use l.prog w K mg base 2 "_law_picks" f_pk _ ["script", "start", "many"] (spPicks K) := ⟨PySem.W.mg_of X G a_pk, k_pk, b_pk, ok_picks F_pk B U_dr U_va⟩
  have U_pr : Use l.prog w K mg base 1 "_law_pairs" f_pr _ ["keys", "picks"] (spPairs K poolL) := ⟨PySem.W.mg_of X G a_pr, k_pr, b_pr, ok_pairs F_pr B⟩
  have U_lc : Use l.prog w K mg base 1 "_law_cut" f_lc _ ["parts"] (spLCut) := ⟨PySem.W.mg_of X G a_lc, k_lc, b_lc, ok_lcut F_lc B⟩
  have U_fi : Use l.prog w K mg base 1 "_law_first" f_fi _ ["page"] (spFirst) := ⟨PySem.W.mg_of X G a_fi, k_fi, b_fi, ok_first F_fi⟩
  have G_lr := ok_lrepl (PL := poolL) pool_ok F_lr B U_lc U_fi (PySem.W.mg_of X G a_lr) k_lr b_lr
  have U_lr : Use l.prog w K mg base 24 "_law_replaced" f_lr _ ["page", "changes", "keys"] (spLReplN K poolL 21) := ⟨PySem.W.mg_of X G a_lr, k_lr, b_lr, fg_lrepl G_lr⟩
  have U_lh : Use l.prog w K mg base 25 "_law_changed" f_lh _ ["page", "changes", "keys"] (spLChg K poolL 21) := ⟨PySem.W.mg_of X G a_lh, k_lh, b_lh, ok_lchanged pool_ok F_lh B U_lr U_lc U_fi⟩
  have G_ln := ok_lnamed F_ln B R U_rn (PySem.W.mg_of X G a_ln) k_ln b_ln
  have U_ln : Use l.prog w K mg base 24 "_law_named" f_ln _ ["registry", "page", "found"] (spLNamedN CR 21) := ⟨PySem.W.mg_of X G a_ln, k_ln, b_ln, fg_lnamed G_ln⟩
  have U_ls : Use l.prog w K mg base 25 "_law_is_same" f_ls _ ["registry", "tree", "root", "keys"] (spLSame CR CT poolL 21) := ⟨PySem.W.mg_of X G a_ls, k_ls, b_ls, ok_lsame F_ls B T U_ln U_tq⟩
  exact ok_law pool_ok pool_len F_lw B T U_po C_ri U_em U_pk U_dr U_pr U_lh U_ls U_tc C_ti U_tq U_tg U_ts
theorem walkLaw {l : PySem.W.OpenLaw} {q : Program} {loose : List Str} {XP : (Str → Option Value) → Heap → Prop} {YP : World → Heap → Prop} {d : DefRec} {K : Params → PySem.W.Frag} (hn : l.most = some 63) (hdf : d.params.defaults = [])
    (hY : ∀ (w : World) (h : Heap), YP w h → (K w.params).In h)
    (F : ∀ (w : World) (mg : Str → Option Value) (fa : Addr) (h : Heap), (K w.params).In h → h.Ns mainGlobals mg → mg d.name = some (.ref fa) →
      ∃ fd : FuncData, (∀ (s : Shared) (u : Value), BindsTo s fd ⟨[u], []⟩ [("script", u)]) ∧ ∀ base : Heap, (K w.params).In base → base.Ns mainGlobals mg → Fg l.prog w (K w.params) mg base CX0 27 fa fd ["script"] (spLaw (K w.params))) :
    PySem.W.WalkO q loose XP YP l.row.toRowW d [] (fun f vs => PySem.call f vs) :=
  endGB (n := 63) (k := 27) (x := "script") (sp := fun w => spLaw (K w.params)) hn (by decide) hdf ⟨rfl, by decide, by decide⟩ hY F (fun _ _ a ns hl hb _ hS => ⟨a, ns, rfl, hS, hl, hb, fun _ => rfl⟩)
end G

open PySem PySem.W PyProof.Rows
set_option maxRecDepth 100000 in
set_option maxHeartbeats 0 in
theorem PySem.Challenge.cw_trothbase_k56_whole_trees_page_by_page_holds : PySem.Challenge.rw_trothbase_k56_whole_trees_page_by_page.Holds := by
  w_on; o_law; k_head; (case hw => w_witness2)
  k_fill
  refine G.walkLaw (l := PySem.Challenge.rw_trothbase_k56_whole_trees_page_by_page) rfl rfl (fun w h Y => PySem.W.kIn_of Y) ?F
  case F =>
    intro w mg fa h KX GN hmg
    refine' G.all_mk KX GN hmg ?aCR ?pgR ?hdR ?poR ?saR ?mkR ?kcR ?nRnames ?nRpens ?nRseals ?aCT ?pgT ?hdT ?poT ?saT ?mkT ?kcT ?nTroot ?nTregistry ?nTpages ?nTvisited ?a_ri ?i_ri ?l_ri ?c_ri ?k_ri ?a_rn ?i_rn ?l_rn ?c_rn ?k_rn ?a_cu ?l_cu ?c_cu ?k_cu ?a_od ?l_od ?c_od ?k_od ?a_pl ?l_pl ?c_pl ?k_pl ?a_ti ?i_ti ?l_ti ?c_ti ?k_ti ?a_tp ?i_tp ?l_tp ?c_tp ?k_tp ?a_tg ?i_tg ?l_tg ?c_tg ?k_tg ?a_ts ?i_ts ?l_ts ?c_ts ?k_ts ?a_tl ?i_tl ?l_tl ?c_tl ?k_tl ?a_tr ?i_tr ?l_tr ?c_tr ?k_tr ?a_tc ?i_tc ?l_tc ?c_tc ?k_tc ?a_tq ?i_tq ?l_tq ?c_tq ?k_tq ?a_em ?l_em ?c_em ?k_em ?a_dr ?l_dr ?c_dr ?k_dr ?a_po ?l_po ?c_po ?k_po ?a_va ?l_va ?c_va ?k_va ?a_pk ?l_pk ?c_pk ?k_pk ?a_pr ?l_pr ?c_pr ?k_pr ?a_lc ?l_lc ?c_lc ?k_lc ?a_fi ?l_fi ?c_fi ?k_fi ?a_lr ?l_lr ?c_lr ?k_lr ?a_lh ?l_lh ?c_lh ?k_lh ?a_ln ?l_ln ?c_ln ?k_ln ?a_ls ?l_ls ?c_ls ?k_ls ?a_lw ?l_lw ?c_lw ?k_lw ?z_tuple ?z_int ?z_isinstance ?z_str ?z_len ?z_range ?z_dict ?z_sorted ?z_enumerate ?z_repr ?z_min ?mp
    (case aCR => k_is)
    (case pgR => k_is)
    (case hdR => k_is)
    (case poR => k_is)
    (case saR => k_is)
    (case mkR => k_is)
    (case kcR => k_is)
    (case nRnames => k_is)
    (case nRpens => k_is)
    (case nRseals => k_is)
    (case aCT => k_is)
    (case pgT => k_is)
    (case hdT => k_is)
    (case poT => k_is)
    (case saT => k_is)
    (case mkT => k_is)
    (case kcT => k_is)
    (case nTroot => k_is)
    (case nTregistry => k_is)
    (case nTpages => k_is)
    (case nTvisited => k_is)
    (case a_ri => k_is)
    (case i_ri => k_is)
    (case l_ri => k_is)
    (case c_ri => k_is)
    (case k_ri => k_is)
    (case a_rn => k_is)
    (case i_rn => k_is)
    (case l_rn => k_is)
    (case c_rn => k_is)
    (case k_rn => k_is)
    (case a_cu => k_is)
    (case l_cu => k_is)
    (case c_cu => k_is)
    (case k_cu => k_is)
    (case a_od => k_is)
    (case l_od => k_is)
    (case c_od => k_is)
    (case k_od => k_is)
    (case a_pl => k_is)
    (case l_pl => k_is)
    (case c_pl => k_is)
    (case k_pl => k_is)
    (case a_ti => k_is)
    (case i_ti => k_is)
    (case l_ti => k_is)
    (case c_ti => k_is)
    (case k_ti => k_is)
    (case a_tp => k_is)
    (case i_tp => k_is)
    (case l_tp => k_is)
    (case c_tp => k_is)
    (case k_tp => k_is)
    (case a_tg => k_is)
    (case i_tg => k_is)
    (case l_tg => k_is)
    (case c_tg => k_is)
    (case k_tg => k_is)
    (case a_ts => k_is)
    (case i_ts => k_is)
    (case l_ts => k_is)
    (case c_ts => k_is)
    (case k_ts => k_is)
    (case a_tl => k_is)
    (case i_tl => k_is)
    (case l_tl => k_is)
    (case c_tl => k_is)
    (case k_tl => k_is)
    (case a_tr => k_is)
    (case i_tr => k_is)
    (case l_tr => k_is)
    (case c_tr => k_is)
    (case k_tr => k_is)
    (case a_tc => k_is)
    (case i_tc => k_is)
    (case l_tc => k_is)
    (case c_tc => k_is)
    (case k_tc => k_is)
    (case a_tq => k_is)
    (case i_tq => k_is)
    (case l_tq => k_is)
    (case c_tq => k_is)
    (case k_tq => k_is)
    (case a_em => k_is)
    (case l_em => k_is)
    (case c_em => k_is)
    (case k_em => k_is)
    (case a_dr => k_is)
    (case l_dr => k_is)
    (case c_dr => k_is)
    (case k_dr => k_is)
    (case a_po => k_is)
    (case l_po => k_is)
    (case c_po => k_is)
    (case k_po => k_is)
    (case a_va => k_is)
    (case l_va => k_is)
    (case c_va => k_is)
    (case k_va => k_is)
    (case a_pk => k_is)
    (case l_pk => k_is)
    (case c_pk => k_is)
    (case k_pk => k_is)
    (case a_pr => k_is)
    (case l_pr => k_is)
    (case c_pr => k_is)
    (case k_pr => k_is)
    (case a_lc => k_is)
    (case l_lc => k_is)
    (case c_lc => k_is)
    (case k_lc => k_is)
    (case a_fi => k_is)
    (case l_fi => k_is)
    (case c_fi => k_is)
    (case k_fi => k_is)
    (case a_lr => k_is)
    (case l_lr => k_is)
    (case c_lr => k_is)
    (case k_lr => k_is)
    (case a_lh => k_is)
    (case l_lh => k_is)
    (case c_lh => k_is)
    (case k_lh => k_is)
    (case a_ln => k_is)
    (case l_ln => k_is)
    (case c_ln => k_is)
    (case k_ln => k_is)
    (case a_ls => k_is)
    (case l_ls => k_is)
    (case c_ls => k_is)
    (case k_ls => k_is)
    (case a_lw => k_is)
    (case l_lw => k_is)
    (case c_lw => k_is)
    (case k_lw => k_is)
    (case z_tuple => k_is)
    (case z_int => k_is)
    (case z_isinstance => k_is)
    (case z_str => k_is)
    (case z_len => k_is)
    (case z_range => k_is)
    (case z_dict => k_is)
    (case z_sorted => k_is)
    (case z_enumerate => k_is)
    (case z_repr => k_is)
    (case z_min => k_is)
    (case mp => k_is)
