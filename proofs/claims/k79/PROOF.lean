import PyProof.Rows.All
import Wide.All
import OpenK.AllK
import Wide.FinOn
import PyProof.EqAt
import PyProof.EqKinds
import PyProof.TupleCall
import HandS.Base
import HandS.Call
import HandS.List
import HandS.Comp
import HandS.Ends
import HandS.Dict
import HandS.Iter
import HandS.Text
import HandS.Words
import HandS.WordsList
import HandS.WordsDict
import HandS.Exc
import HandS.WordsExc
import HandS.Defaults
import HandS.ExcInit
import PyProof.ExcBaseAll.IndexError
import PyProof.ExcBaseAll.OverflowError
import PyProof.ExcBaseAll.RuntimeError
import KE.KExcLine
import HandS.TryMany
import HandS.TryOnly
import KE.GoesRaise
import HandS.RaiseMore
import HandS.TupAny
import HandS.IsInst
import HandS.Conv
import HandS.Flow
import HandS.More
import HandS.Deep
import KE.GoesEnum
import KE.GoesMore
import KE.KStateDown
import HandS.Head0
import HandS.Head1
import HandS.Head2
import HandS.HeadEnd
import HandS.HeadHook1
import HandS.HeadHook2
import HandS.MakeKwOnly
import HandS.Walk
import HandS.Steps
import HandS.Codes
import HandS.Wide
import HandS.StrMore
import PyProof.StrBlock2
import PySem.Challenge.RW_walkshome_k79_generator_errors_everywher
set_option Elab.async false
set_option linter.all false
set_option maxRecDepth 100000
set_option maxHeartbeats 0
/-! Walkshome, law_k79_generator_errors_everywhere. The base layer (W8 over HandS), the head, the walks, the end. By an AI agent. -/
/-! W8, part 1: promises that also know that no repr is under way; calls by them. -/
namespace W8
open PySem PySem.Spec PyProof.Rows L2

/-- room for k calls, and nothing is being shown -/
structure RG (k : Nat) (A : Around) : Prop where
  r : Room k A
  g : A.guards = some []
theorem RG.mono {j k : Nat} {A : Around} (r : RG k A) (h : j ≤ k) : RG j A := ⟨r.r.mono h, r.g⟩
theorem RG.deep {k : Nat} {A : Around} (r : RG (k + 1) A) (env : Env) : RG k (A.deeper env) := ⟨r.r.deeper env, r.g⟩
theorem make_guards {A : Around} {C : Addr} {us : List Value} {kw : List (Str × Value)} : (A.under (.builtin "type.__call__" ⟨.ref C :: us, kw⟩)).guards = A.guards := by
  first | rfl | simp [Around.under, Code.guards, Code.isGuard, guardIds, pushGuards]
theorem RG.make {k : Nat} {A : Around} (r : RG (k + 1) A) (C : Addr) (us : List Value) (kw : List (Str × Value)) : RG k (A.under (.builtin "type.__call__" ⟨.ref C :: us, kw⟩)) :=
  ⟨r.r.make C us kw, make_guards.trans r.g⟩

/-- the def at f keeps the promise sp -/
structure FnG (P : Program) (w : World) (K : PySem.W.Frag) (mg : Str → Option Value) (base : Heap) (k : Nat) (f : Addr) (fd : FuncData) (ps : List Str) (sp : Sp) : Prop where
  len : ∀ vs H Q E, sp vs H Q E → vs.length = ps.length
  run : ∀ (A : Around) (outer : List Env) (s : Shared) (H : Hp) (args : Args) (us : List Value) (vs : List V) (Q : VK) (E : XK), RG k A → Env0 P w K mg base A outer s H →
    BindsTo s fd args (ps.zip us) → Vals vs us → sp vs H Q E → codeAny (model P w) A (.call (.ref f) args) (CR (L2.CX P w) outer P w H s Q E) s
theorem FnG.mono {P : Program} {w : World} {K : PySem.W.Frag} {mg : Str → Option Value} {base : Heap} {j k : Nat} {f : Addr} {fd : FuncData} {ps : List Str} {sp : Sp}
    (F : FnG P w K mg base j f fd ps sp) (h : j ≤ k) : FnG P w K mg base k f fd ps sp :=
  ⟨F.len, fun A outer s H args us vs Q E hr => F.run A outer s H args us vs Q E (hr.mono h)⟩
theorem FnG.imp {P : Program} {w : World} {K : PySem.W.Frag} {mg : Str → Option Value} {base : Heap} {k : Nat} {f : Addr} {fd : FuncData} {ps : List Str} {sp sp' : Sp}
    (F : FnG P w K mg base k f fd ps sp) (h : ∀ vs H Q E, sp' vs H Q E → sp vs H Q E) : FnG P w K mg base k f fd ps sp' :=
  ⟨fun vs H Q E q => F.len vs H Q E (h _ _ _ _ q), fun A outer s H args us vs Q E hr he hb hv hs => F.run A outer s H args us vs Q E hr he hb hv (h _ _ _ _ hs)⟩

section
variable {P : Program} {w : World} {K : PySem.W.Frag} {mg : Str → Option Value} {base : Heap}
/-- THE RULE for a def, by its body -/
theorem fnG_of {x qual : Str} {params : Arguments} {body : List Stmt} {scope : Scope} {dvs : List V} {kws : List (Str × V)} {f : Addr} {fd : FuncData} {N ps : List Str} {k : Nat} {sp : Sp}
    (F : FunD K x qual params body scope dvs kws f fd) (S : FnScope N ps scope) (len : ∀ vs H Q E, sp vs H Q E → vs.length = ps.length)
    (hbody : ∀ (cdv : Value) (A : Around) (outer : List Env) (s : Shared) (H : Hp) (vs : List V) (Q : VK) (E : XK), RG k (A.deeper (envOfC qual scope s.heap.objs.size f cdv)) → sp vs H Q E →
      ∃ t, PSs (cxOf (L2.CX P w) P w K mg base N qual scope f cdv A outer s H E) body t ∧ t { nx := fun _ H' => Q .non H', rt := Q } (start N vs) H) :
    FnG P w K mg base (k + 1) f fd ps sp := by
  obtain ⟨oc, od, dV, kV, doc, pm, an, cdv, ct, osl, rfl, lk, hcd, -, -⟩ := F.ex
  constructor
  · exact len
  intro A outer s H args us vs Q E hr e0 hb rv hsp
  have hvl := len _ _ _ _ hsp
  have hK : K.In s.heap := e0.mod.kin.keeps (fun b o e => (e0.bs b o e).1)
  have hL : s.heap.NoLimit := e0.mod.nolimit.keeps (fun b o e => (e0.bs b o e).1)
  have kinds : ∀ y ∈ ps.zip us, scope.names.lookup y.1 = some .local ∨
      (scope.names.lookup y.1 = some .cell ∧ ((cellsFrom (s.heap.objs.size + 1) scope.names []).lookup y.1).isSome = true) := by
    rintro ⟨n, v⟩ hy
    cases S.par n (List.of_mem_zip hy).1 with
    | inl q => exact Or.inl q
    | inr q => exact Or.inr ⟨q, PySem.W.cellsFrom_some _ _ _ (Or.inl q)⟩
  refine codeAny_call_function hr.r.depth (hK _ _ lk) rfl S.co S.gen rfl (PySem.W.codeRec_of hK hcd) (hb _ _ _ _ ?_)
  refine wpAny_newFunctionEnv_cells S.kind kinds fun env he s1 x => ?_
  subst he
  refine ⟨hL.keeps x.toInCall.keep, codeAny_func ?_⟩
  obtain ⟨t, ht, hq⟩ := hbody cdv A outer s H vs Q E (hr.deep _) hsp
  have I0 := inv_start (CX := L2.CX P w) (mg := mg) (E := E) S hr.r.hd e0 hvl rv x
  refine wpAny_mono (ht.run [] s1 (start N vs) H _ I0 hq) ?_ (fun e s' hs => hs)
  intro fl s' hs
  have close : ∀ {σ' : L2.St} {H' : Hp} {v : V} {u : Value}, Inv (cxOf (L2.CX P w) P w K mg base N qual scope f cdv A outer s H E) [] σ' H' s' → RelV v u → Q v H' → CE outer P w H s Q u s' := by
    intro σ' H' v u J r q
    exact ⟨v, H', J.os, J.bare, J.base, J.hok, r, q⟩
  match fl, hs with
  | .ret u, ⟨v, σ', H', J, r, q⟩ => exact close J r q
  | .next, ⟨σ', H', J, q⟩ => exact close (v := V.non) (u := Value.none) J rfl q
  | .brk, ⟨_, _, _, q⟩ => exact q.elim
  | .cont, ⟨_, _, _, q⟩ => exact q.elim
end

/-! ### calls -/
section
variable {X : Cx} {k : Nat} {f C : Addr} {fd : FuncData} {ps ks : List Str} {sp : Sp} {dvs : List V} {ds : List Value} {E : L2.St → XK} {x m : Str} {p pos apos : Pos} {e o : Expr} {es : List Expr} {kwl : List Keyword} {ta : TE} {t tk : TA}
/-- f(..), what it lets out said slot by slot -/
def tCallG (sp : Sp) (dvs : List V) (E : L2.St → XK) (t : TA) : TE := fun σ H Q => t σ H fun vs H1 => sp (vs ++ dvs) H1 Q (E σ)
def tCallNG (n j : Nat) (sp : Sp) (gV : List V → List V → List V) (E : L2.St → XK) (t tk : TA) : TE := fun σ H Q => t σ H fun vs H1 => tk σ H1 fun ws H2 => vs.length = n ∧ ws.length = j ∧ sp (gV vs ws) H2 Q (E σ)
def tMethG (C : Addr) (m : Str) (sp : Sp) (dvs : List V) (E : L2.St → XK) (ta : TE) (t : TA) : TE := fun σ H Q => ta σ H fun x H1 => ∃ (a dx : Addr) (fs : List (Str × V)), x = .ref a ∧ H1 a = some (.ins C dx fs) ∧ fs.lookup m = none ∧
  t σ H1 fun vs H2 => sp (x :: (vs ++ dvs)) H2 Q (E σ)
def tMakeG (C : Addr) (sp : Sp) (dvs : List V) (E : L2.St → XK) (t : TA) : TE := fun σ H Q => t σ H fun vs H1 => ∀ x dx, H1 x = none → H1 dx = none → dx ≠ x →
  sp (.ref x :: (vs ++ dvs)) (upd (upd H1 dx (.own x)) x (.ins C dx [])) (fun v H2 => v = .non ∧ Q (.ref x) H2) (E σ)
/-- what comes of a call's run -/
theorem after_run {E : XK} {pins : List (Addr × Obj)} {σ : L2.St} {H : Hp} {s : Shared} {Q : VK} {us : List Value} {kw : List (Str × Value)} (hx : PassesAt (L2.CX X.prog X.w) X σ E) (I : Inv X pins σ H s)
    (h : codeAny (model X.prog X.w) X.A (.call (.ref f) ⟨us, kw⟩) (CR (L2.CX X.prog X.w) X.stack X.prog X.w H s Q E) s) : wpAny (model X.prog X.w) X.A (call (.ref f) us kw) (EP X pins σ Q) X.xe s := by
  refine wpAny_call (codeAny_mono h ?_)
  intro r s' hq
  match r, hq with
  | .error e, hq => exact hx pins H s e s' I hq
  | .ok (.ret u), hq => exact I.after hq
  | .ok .next, hq => exact hq.elim
  | .ok .brk, hq => exact hq.elim
  | .ok .cont, hq => exact hq.elim
theorem runG {E : XK} {pins : List (Addr × Obj)} {σ : L2.St} {H : Hp} {s : Shared} {Q : VK} {us : List Value} {vs : List V} (F : FnG X.prog X.w X.K X.mg X.base k f fd ps sp) (hr : RG k X.A) (hb : Binds X.K fd ps ds) (hd : Vals dvs ds)
    (hx : PassesAt (L2.CX X.prog X.w) X σ E) (I : Inv X pins σ H s) (r : Vals vs us) (h : sp (vs ++ dvs) H Q E) : wpAny (model X.prog X.w) X.A (call (.ref f) us) (EP X pins σ Q) X.xe s := by
  have r2 : Vals (vs ++ dvs) (us ++ ds) := r.append hd
  have hl : (us ++ ds).length = ps.length := r2.length.symm.trans (F.len _ _ _ _ h)
  exact after_run hx I (F.run X.A X.stack s H ⟨us, []⟩ (us ++ ds) (vs ++ dvs) Q E hr I.env0 (hb s us I.kIn hl) r2 h)
theorem runGN {E : XK} {n : Nat} {g : List Value → List Value → List Value} {gV : List V → List V → List V} {pins : List (Addr × Obj)} {σ : L2.St} {H : Hp} {s : Shared} {Q : VK} {us ws : List Value} {vs zs : List V}
    (F : FnG X.prog X.w X.K X.mg X.base k f fd ps sp) (hr : RG k X.A) (hb : KBn X.K fd ps n ks g gV) (hx : PassesAt (L2.CX X.prog X.w) X σ E) (I : Inv X pins σ H s) (r : Vals vs us) (rz : Vals zs ws) (l1 : vs.length = n) (l2 : zs.length = ks.length)
    (h : sp (gV vs zs) H Q E) : wpAny (model X.prog X.w) X.A (call (.ref f) us (ks.zip ws)) (EP X pins σ Q) X.xe s :=
  after_run hx I (F.run X.A X.stack s H ⟨us, ks.zip ws⟩ (g us ws) (gV vs zs) Q E hr I.env0 (hb.to s us ws I.kIn (r.length.symm.trans l1) (rz.length.symm.trans l2)) (hb.rel r rz) h)

/-- f(e, ..) -/
theorem gcall (F : FnG X.prog X.w X.K X.mg X.base k f fd ps sp) (hr : RG k X.A) (hg : Gl X x) (hm : X.mg x = some (.ref f)) (hk : PySem.W.keepIn X.K (.ref f) = true) (hb : Binds X.K fd ps ds) (hd : Vals dvs ds) (hx : ∀ σ, PassesAt (L2.CX X.prog X.w) X σ (E σ))
    (ha : PA X (e :: es) t) (hdb : (x == ("__debug__" : Str)) = false := by decide) (he : starEach (e :: es) X.env = (false, eval e X.env) :: starEach es X.env := by rfl) (hpl : (backTo pos (starEach es X.env)).any (·.1) = false := by rfl) :
    PE X (.Call (.Name x p) (e :: es) [] pos) (tCallG sp dvs E t) := by
  constructor
  intro pins s σ H Q I h
  refine wpAny_Call_Name_kw (ld_glob I hg hm ?_ hdb)
  refine PySem.W.callWith_K (h₀ := X.base) I.ok.mod.kin hk ?_ he hpl
  refine thn (ha.run pos pins s σ H _ I h) ?_
  rintro us s1 ⟨vs, H1, I1, r, q⟩
  exact ⟨I1.kIn, runG F hr hb hd (hx σ) I1 r q⟩
theorem gcall0 (F : FnG X.prog X.w X.K X.mg X.base k f fd ps sp) (hr : RG k X.A) (hg : Gl X x) (hm : X.mg x = some (.ref f)) (hk : PySem.W.keepIn X.K (.ref f) = true) (hb : Binds X.K fd ps ds) (hd : Vals dvs ds) (hx : ∀ σ, PassesAt (L2.CX X.prog X.w) X σ (E σ))
    (hdb : (x == ("__debug__" : Str)) = false := by decide) : PE X (.Call (.Name x p) [] [] pos) (tCallG sp dvs E tNil) := by
  constructor
  intro pins s σ H Q I h
  exact wpAny_Call_Name_kw (ld_glob I hg hm (PySem.W.callWith_K0 I.kIn hk (runG (us := []) F hr hb hd (hx σ) I .nil h)) hdb)
/-- f(e, .., k = v, ..) -/
theorem gcallN {n : Nat} {g : List Value → List Value → List Value} {gV : List V → List V → List V} (F : FnG X.prog X.w X.K X.mg X.base k f fd ps sp) (hr : RG k X.A) (hg : Gl X x) (hm : X.mg x = some (.ref f)) (hk : PySem.W.keepIn X.K (.ref f) = true)
    (hb : KBn X.K fd ps n ks g gV) (hx : ∀ σ, PassesAt (L2.CX X.prog X.w) X σ (E σ)) (ha : PA X (e :: es) t) (hkw : PK X kwl tk) (hall : (backToKw pos (keywordEach kwl X.env)).all (·.1.isSome) = true := by rfl)
    (hks : (backToKw pos (keywordEach kwl X.env)).filterMap (·.1) = ks := by rfl) (hdb : (x == ("__debug__" : Str)) = false := by decide) (he : starEach (e :: es) X.env = (false, eval e X.env) :: starEach es X.env := by rfl)
    (hpl : ((backTo pos (starEach (e :: es) X.env)).any (·.1) || (backToKw pos (keywordEach kwl X.env)).any (·.1.isNone)) = false := by rfl) :
    PE X (.Call (.Name x p) (e :: es) kwl pos) (tCallNG n ks.length sp gV E t tk) := by
  constructor
  intro pins s σ H Q I h
  refine wpAny_Call_Name_kw (ld_glob I hg hm ?_ hdb)
  refine PySem.W.callWith_KW (h₀ := X.base) I.ok.mod.kin hk hall ?_ hpl he
  refine thn (ha.run pos pins s σ H _ I h) ?_
  rintro us s1 ⟨vs, H1, I1, r, q⟩
  refine thn (hkw.run pos pins s1 σ H1 _ I1 q) ?_
  rintro ws s2 ⟨zs, H2, I2, rz, l1, l2, q2⟩
  refine ⟨I2.kIn, ?_⟩
  rw [hks]
  exact runGN F hr hb (hx σ) I2 r rz l1 l2 q2
/-- o.m(e, ..) -/
theorem gmeth {pl : Sem Bool} (he : PE X o ta) (c : Cls X.K C) (hm : Meth X.K C m f) (F : FnG X.prog X.w X.K X.mg X.base k f fd ps sp) (hr : RG k X.A) (hb : Binds X.K fd ps ds) (hd : Vals dvs ds) (hx : ∀ σ, PassesAt (L2.CX X.prog X.w) X σ (E σ)) (ha : PA X (e :: es) t)
    (hst : starEach (e :: es) X.env = (false, eval e X.env) :: starEach es X.env := by rfl) (hpl : (backTo pos (starEach es X.env)).any (·.1) = false := by rfl)
    (ht : eval (.Call (.Attribute o m apos) (e :: es) [] pos) X.env = (do
      let ov ← eval o X.env
      standAt apos.atName
      let (f, first) ← holding [ov] (getMethod ov m pl)
      callWith pos f first (backTo pos (starEach (e :: es) X.env)) (backToKw pos (keywordEach [] X.env))) := by rfl) :
    PE X (.Call (.Attribute o m apos) (e :: es) [] pos) (tMethG C m sp dvs E ta t) := by
  constructor
  intro pins s σ H Q I h
  refine PySem.W.methodCall_KW (pl := pl) (thn (he.run pins s σ H _ I h) ?_) ht
  rintro u s1 ⟨x, H1, I1, rx, a, dx, fs, ex, ea, l, q⟩
  subst ex
  obtain rfl : u = Value.ref a := rx
  refine getmeth_ok I1 ea c hm l ?_
  refine PySem.W.callWith_K (first := [.ref a]) (h₀ := X.base) I.ok.mod.kin hm.kp (thn (ha.run pos pins s1 σ H1 _ I1 q) ?_) hst hpl
  rintro us s2 ⟨vs, H2, I2, r, q2⟩
  exact ⟨I2.kIn, runG (us := .ref a :: us) (vs := .ref a :: vs) F hr hb hd (hx σ) I2 (.cons rfl r) q2⟩
theorem gmeth0 {pl : Sem Bool} (he : PE X o ta) (c : Cls X.K C) (hm : Meth X.K C m f) (F : FnG X.prog X.w X.K X.mg X.base k f fd ps sp) (hr : RG k X.A) (hb : Binds X.K fd ps ds) (hd : Vals dvs ds) (hx : ∀ σ, PassesAt (L2.CX X.prog X.w) X σ (E σ))
    (ht : eval (.Call (.Attribute o m apos) [] [] pos) X.env = (do
      let ov ← eval o X.env
      standAt apos.atName
      let (f, first) ← holding [ov] (getMethod ov m pl)
      callWith pos f first (backTo pos (starEach [] X.env)) (backToKw pos (keywordEach [] X.env))) := by rfl) :
    PE X (.Call (.Attribute o m apos) [] [] pos) (tMethG C m sp dvs E ta tNil) := by
  constructor
  intro pins s σ H Q I h
  refine PySem.W.methodCall_KW (pl := pl) (thn (he.run pins s σ H _ I h) ?_) ht
  rintro u s1 ⟨x, H1, I1, rx, a, dx, fs, ex, ea, l, q⟩
  subst ex
  obtain rfl : u = Value.ref a := rx
  refine getmeth_ok I1 ea c hm l ?_
  exact PySem.W.callWith_K0 (first := [.ref a]) I1.kIn hm.kp (runG (us := [.ref a]) (vs := [.ref a]) F hr hb hd (hx σ) I1 (.cons rfl .nil) q)
/-- C(e, ..) -/
theorem runMake {E : XK} {pins : List (Addr × Obj)} {σ : L2.St} {H : Hp} {s : Shared} {Q : VK} {us : List Value} {vs : List V} (M : Mk X.K C f) (F : FnG X.prog X.w X.K X.mg X.base k f fd ps sp) (hr : RG (k + 1) X.A) (hb : Binds X.K fd ps ds) (hd : Vals dvs ds)
    (hx : PassesAt (L2.CX X.prog X.w) X σ E) (I : Inv X pins σ H s) (r : Vals vs us)
    (h : ∀ x dx, H x = none → H dx = none → dx ≠ x → sp (.ref x :: (vs ++ dvs)) (upd (upd H dx (.own x)) x (.ins C dx [])) (fun v H2 => v = .non ∧ Q (.ref x) H2) E) :
    wpAny (model X.prog X.w) X.A (call (.ref C) us) (EP X pins σ Q) X.xe s := by
  have hq := h (s.heap.objs.size + 1) s.heap.objs.size (I.hok.fresh (Nat.le_succ _)) (I.hok.fresh (Nat.le_refl _)) (Nat.ne_of_lt (Nat.lt_succ_self _))
  have I2 := Inv.made (C := C) I
  have r2 : Vals (V.ref (s.heap.objs.size + 1) :: (vs ++ dvs)) (Value.ref (s.heap.objs.size + 1) :: (us ++ ds)) := .cons rfl (r.append hd)
  have hl : (Value.ref (s.heap.objs.size + 1) :: us ++ ds).length = ps.length := r2.length.symm.trans (F.len _ _ _ _ hq)
  have go := F.run _ X.stack _ _ ⟨Value.ref (s.heap.objs.size + 1) :: us, []⟩ (Value.ref (s.heap.objs.size + 1) :: (us ++ ds)) _ _ E (hr.make C us []) (I2.env0.make C us []) (hb _ (Value.ref (s.heap.objs.size + 1) :: us) I2.kIn hl) r2 hq
  refine wpAny_call (make_map (f := f) I.kIn M.makes M.init (beq_iff_eq.mp M.fn) (codeAny_mono go ?_))
  intro rr s' hq'
  match rr, hq' with
  | .error e, hq' => exact hx pins _ _ e s' I2 hq'
  | .ok (.ret u), hq' =>
    obtain ⟨v, H', I3, rv, ev, q3⟩ := I2.after hq'
    subst ev
    exact ⟨rv, ⟨V.ref (s.heap.objs.size + 1), H', I3, rfl, q3⟩⟩
  | .ok .next, hq' => exact hq'.elim
  | .ok .brk, hq' => exact hq'.elim
  | .ok .cont, hq' => exact hq'.elim
theorem gmake (M : Mk X.K C f) (F : FnG X.prog X.w X.K X.mg X.base k f fd ps sp) (hr : RG (k + 1) X.A) (hg : Gl X x) (hm : X.mg x = some (.ref C)) (hb : Binds X.K fd ps ds) (hd : Vals dvs ds) (hx : ∀ σ, PassesAt (L2.CX X.prog X.w) X σ (E σ))
    (ha : PA X (e :: es) t) (hdb : (x == ("__debug__" : Str)) = false := by decide) (he : starEach (e :: es) X.env = (false, eval e X.env) :: starEach es X.env := by rfl) (hpl : (backTo pos (starEach es X.env)).any (·.1) = false := by rfl) :
    PE X (.Call (.Name x p) (e :: es) [] pos) (tMakeG C sp dvs E t) := by
  constructor
  intro pins s σ H Q I h
  refine wpAny_Call_Name_kw (ld_glob I hg hm ?_ hdb)
  refine PySem.W.callWith_K (h₀ := X.base) I.ok.mod.kin M.kp (thn (ha.run pos pins s σ H _ I h) ?_) he hpl
  rintro us s1 ⟨vs, H1, I1, r, q⟩
  exact ⟨I1.kIn, runMake M F hr hb hd (hx σ) I1 r q⟩
theorem gmake0 (M : Mk X.K C f) (F : FnG X.prog X.w X.K X.mg X.base k f fd ps sp) (hr : RG (k + 1) X.A) (hg : Gl X x) (hm : X.mg x = some (.ref C)) (hb : Binds X.K fd ps ds) (hd : Vals dvs ds) (hx : ∀ σ, PassesAt (L2.CX X.prog X.w) X σ (E σ))
    (hdb : (x == ("__debug__" : Str)) = false := by decide) : PE X (.Call (.Name x p) [] [] pos) (tMakeG C sp dvs E tNil) := by
  constructor
  intro pins s σ H Q I h
  exact wpAny_Call_Name_kw (ld_glob I hg hm (PySem.W.callWith_K0 I.kIn M.kp (runMake (us := []) M F hr hb hd (hx σ) I .nil h)) hdb)
end
end W8

/-! W8, part 2: exception classes of the program's own over any built-in base, their __init__ a def. -/
namespace W8
open PySem PySem.Spec PyProof.Rows L2 PySem.Builtin PySem.Builtin.ObjectAttr

/-- classes of the text, then tl, the mro of the built-in base -/
def ownT (tl : List Value) : List Value → Bool
  | .ref _ :: r => ownT tl r
  | l => l == tl
theorem ownT_cases {tl : List Value} : ∀ l : List Value, ownT tl l = true → (∃ c r, l = .ref c :: r ∧ ownT tl r = true) ∨ l = tl := by
  intro l h
  cases l with
  | nil => exact Or.inr (eq_of_beq h)
  | cons a r =>
    cases a with
    | ref c => exact Or.inl ⟨c, r, rfl, h⟩
    | _ => exact Or.inr (eq_of_beq h)
/-- a built-in exception class as a base -/
structure BB (B newId initId : String) (tl : List Value) : Prop where
  f : ExcBaseFacts B newId initId tl
  pass : ∀ self, refuseLoop self "__setattr__" tl = pure ()
  ob : tl.contains (.type "object") = true
theorem bbV : BB "ValueError" "ValueError.__new__" "ValueError.__init__" [.type "ValueError", .type "Exception", .type "BaseException", .type "object"] :=
  ⟨F.excBase_ValueError, fun self => F.store_ValueError.passes self, by decide +kernel⟩
theorem bbI : BB "IndexError" "IndexError.__new__" "IndexError.__init__" [.type "IndexError", .type "LookupError", .type "Exception", .type "BaseException", .type "object"] :=
  ⟨F.excBase_IndexError, fun self => F.store_IndexError.passes self, by decide +kernel⟩
theorem bbO : BB "OverflowError" "OverflowError.__new__" "OverflowError.__init__" [.type "OverflowError", .type "ArithmeticError", .type "Exception", .type "BaseException", .type "object"] :=
  ⟨F.excBase_OverflowError, fun self => F.store_OverflowError.passes self, by decide +kernel⟩
theorem bbR : BB "RuntimeError" "RuntimeError.__new__" "RuntimeError.__init__" [.type "RuntimeError", .type "Exception", .type "BaseException", .type "object"] :=
  ⟨F.excBase_RuntimeError, fun self => F.store_RuntimeError.passes self, by decide +kernel⟩
section
variable {B newId initId : String} {tl : List Value}
theorem BB.passes (b : BB B newId initId tl) (self : Value) : ∀ l : List Value, ownT tl l = true → refuseLoop self "__setattr__" l = pure () := by
  intro l
  induction l with
  | nil =>
    intro h
    have e : ([] : List Value) = tl := eq_of_beq h
    rw [e]
    exact b.pass self
  | cons a r ih =>
    intro h
    rcases ownT_cases _ h with ⟨c, r', e, h'⟩ | e
    · obtain ⟨rfl, rfl⟩ := List.cons.inj e
      rw [refuseLoop_ref]
      exact ih h'
    · rw [e]
      exact b.pass self
theorem BB.has (b : BB B newId initId tl) (Y : String) : ∀ l : List Value, ownT tl l = true → l.contains (.type Y) = tl.contains (.type Y) := by
  intro l
  induction l with
  | nil =>
    intro h
    have e : ([] : List Value) = tl := eq_of_beq h
    rw [e]
  | cons a r ih =>
    intro h
    rcases ownT_cases _ h with ⟨c, r', e, h'⟩ | e
    · obtain ⟨rfl, rfl⟩ := List.cons.inj e
      rw [List.contains_cons, ih h']
      rfl
    · rw [e]
theorem BB.full (b : BB B newId initId tl) {l : List Value} (h : ownT tl l = true) : l.isEmpty = false := by
  cases l with
  | nil =>
    have e : ([] : List Value) = tl := eq_of_beq h
    have z := b.ob
    rw [← e] at z
    cases z
  | cons _ _ => rfl
end

/-! ### self.f = v on an exception, at the model's level -/
section
open Builtin Builtin.ObjectAttr PySem.W
variable {prog : Program} {w : World} {A : Around} {R : Result → Shared → Prop} {hp : Heap} {g : Array GenState} {d : Drawn} {t : Nat} {os : OsState} {B newId initId : String} {tl : List Value}
theorem osaNew {K : Frag} {name : Str} {tk : Tok} {v : Value} {x C : Addr} {fv : Array Value} {cd : ClassData} (b : BB B newId initId tl)
    (X : K.In hp) (hx : hp.get? x = some { cls := .ref C, data := .fields fv }) (hcd : clsIn K C = some cd) (hm : ownT tl cd.mro = true) (hh : cd.hasDict = true) (ha : findIn K (.ref C) name = some none)
    (hq : ∀ h' tk' dx, (∀ b o, b ≠ x → hp.get? b = some o → h'.get? b = some o) → hp.objs.size ≤ dx → dx ≠ x → h'.get? x = some { cls := .ref C, dict := some dx, data := .fields fv } →
      h'.Ns1 dx (fun y => if y = name then some v else none) → R (.ok (.ret .none)) ⟨h', g, d, tk', os⟩) :
    codeAny (model prog w) A (.call (.builtin "object.__setattr__") ⟨[.ref x, .str name tk, v], []⟩) R ⟨hp, g, d, t, os⟩ := by
  have I : InstAt hp x { cls := .ref C, data := .fields fv } C none := ⟨hx, rfl, rfl, trivial⟩
  have SF := F.store_object
  have emp := b.full hm
  have obj : cd.mro.contains (.type "object") = true := (b.has "object" _ hm).trans b.ob
  have xne : x ≠ hp.objs.size := Nat.ne_of_lt (Heap.lt_size hx)
  have inst : Looks (model prog w) hp (isInstance (.ref x) (.type "object")) true :=
    I.type.andThen (looks_mroIn X (by unfold mroIn; rw [hcd, Option.bind_some, if_neg (by rw [emp]; decide), obj]))
  refine codeAny_call_builtin SF.slot.plain SF.entry (@check_slot (model prog w) _ _ ⟨hp, g, d, t, os⟩ "object.__setattr__" "object" "__setattr__" (.ref x) [.str name tk, v] [] _ SF.kind SF.split inst (SF.args (.ref x) (.str name tk) v) ?_)
  have LM : Looks (model prog w) hp (mroOf (.ref C)) cd.mro := (looks_clsIn X hcd).andThen .now
  have LT : Looks (model prog w) hp (storeTaker? none) none := .now
  have LC : Looks (model prog w) hp (classData C) cd := looks_clsIn X hcd
  rw [osa_eq, refuse_eq]
  refine wpAny_bind (wpAny_bind (I.type.at (wpAny_bind (LM.at ?_))))
  rw [b.passes _ _ hm]
  refine wpAny_pure (wpAny_bind (I.type.at (wpAny_bind ((looks_findIn X ha).at (wpAny_bind (LT.at ?_))))))
  show wpAny _ _ (storeInOwnDict (.ref x) (.ref C) (.str name tk) name v false) _ _ _
  obtain ⟨nm, bs, mro, ns, qn, hd, sn, sb, ab, col, del⟩ := cd
  dsimp only at hh
  subst hh
  unfold storeInOwnDict ownDictForStores
  repeat (first | with_reducible refine HandSPX.store_in_new ?_ ?_ | with_reducible refine wpAny_loadPart_at hx ?_ | with_reducible refine LC.at ?_ | wp_step)
  · exact ⟨_, #[], _, (Heap.get?_update_ne _ _ _ _ xne.symm).trans (Heap.get?_push_at rfl rfl), rfl, fun e he => absurd he (by simp), fun _ => rfl⟩
  · intro h' tk' hn' hs
    have hx1 : (hp.push { cls := .type "dict", data := .dict #[] }).get? x = some { cls := .ref C, data := .fields fv } := Heap.get?_push_of_some _ hx
    refine hq h' tk' hp.objs.size (fun b o hb ho => ?_) (Nat.le_refl _) xne.symm ?_ hn'
    · exact (hs.2 b (Nat.ne_of_lt (Heap.lt_size ho))).trans ((Heap.get?_update_ne _ _ _ _ hb).trans (Heap.get?_push_of_some _ ho))
    · exact (hs.2 x xne).trans (Heap.get?_update_self _ hx1 rfl)
theorem osaOld {K : Frag} {name : Str} {tk : Tok} {v : Value} {x C dx : Addr} {fv : Array Value} {cd : ClassData} {m0 : Str → Option Value} {nl : List Str} (b : BB B newId initId tl)
    (X : K.In hp) (hx : hp.get? x = some { cls := .ref C, dict := some dx, data := .fields fv }) (hns : hp.Ns1 dx m0) (hw : Within m0 nl) (hz : nl.length ≤ 1000) (hcd : clsIn K C = some cd) (hm : ownT tl cd.mro = true) (hh : cd.hasDict = true)
    (ha : findIn K (.ref C) name = some none)
    (hq : ∀ h' tk', (∀ b o, b ≠ dx → hp.get? b = some o → h'.get? b = some o) → h'.Ns1 dx (fun y => if y = name then some v else m0 y) → R (.ok (.ret .none)) ⟨h', g, d, tk', os⟩) :
    codeAny (model prog w) A (.call (.builtin "object.__setattr__") ⟨[.ref x, .str name tk, v], []⟩) R ⟨hp, g, d, t, os⟩ := by
  obtain ⟨oD, esD, epD, hoD, hdD, _⟩ := hns.count hw
  have I : InstAt hp x { cls := .ref C, dict := some dx, data := .fields fv } C (some oD) := ⟨hx, rfl, rfl, hoD⟩
  have SF := F.store_object
  have emp := b.full hm
  have obj : cd.mro.contains (.type "object") = true := (b.has "object" _ hm).trans b.ob
  have inst : Looks (model prog w) hp (isInstance (.ref x) (.type "object")) true :=
    I.type.andThen (looks_mroIn X (by unfold mroIn; rw [hcd, Option.bind_some, if_neg (by rw [emp]; decide), obj]))
  refine codeAny_call_builtin SF.slot.plain SF.entry (@check_slot (model prog w) _ _ ⟨hp, g, d, t, os⟩ "object.__setattr__" "object" "__setattr__" (.ref x) [.str name tk, v] [] _ SF.kind SF.split inst (SF.args (.ref x) (.str name tk) v) ?_)
  have LM : Looks (model prog w) hp (mroOf (.ref C)) cd.mro := (looks_clsIn X hcd).andThen .now
  have LT : Looks (model prog w) hp (storeTaker? none) none := .now
  have LC : Looks (model prog w) hp (classData C) cd := looks_clsIn X hcd
  rw [osa_eq, refuse_eq]
  refine wpAny_bind (wpAny_bind (I.type.at (wpAny_bind (LM.at ?_))))
  rw [b.passes _ _ hm]
  refine wpAny_pure (wpAny_bind (I.type.at (wpAny_bind ((looks_findIn X ha).at (wpAny_bind (LT.at ?_))))))
  show wpAny _ _ (storeInOwnDict (.ref x) (.ref C) (.str name tk) name v false) _ _ _
  obtain ⟨nm, bs, mro, ns, qn, hd, sn, sb, ab, col, del⟩ := cd
  dsimp only at hh
  subst hh
  unfold storeInOwnDict ownDictForStores
  repeat (first | with_reducible refine PySem.OEX.store_in_old hns hw hz ?_ | with_reducible refine wpAny_loadPart_at hx ?_ | with_reducible refine LC.at ?_ | wp_step)
  intro h' tk' hn' hs
  exact hq h' tk' (fun b o hb ho => (hs.2 b hb).trans ho) hn'
end

/-! ### over the abstract heap -/
/-- what the written part says of the class at C; tl: its built-in base's mro -/
structure XC (K : PySem.W.Frag) (newId : String) (tl : List Value) (C : Addr) : Prop where
  cls : ∃ nm q N bs bm sn sub ab col dd k0 k1 k2 k3 k5, K.lookup C = some (excClassObj nm q C N bs bm true sn sub ab col dd k0 k1 k2 k3 k5 newId) ∧ ownT tl bm = true
  sa : PySem.W.findIn K (.ref C) "__setattr__" = some (some (.builtin "object.__setattr__"))
  exC : PySem.W.subIn K (.ref C) (.type "BaseException") = some true
  tyC : PySem.W.typeIn K (.ref C) = some (.type "type")
  kC : PySem.W.keepIn K (.ref C) = true
theorem XC.clsIn {K : PySem.W.Frag} {newId : String} {tl : List Value} {C : Addr} (T : XC K newId tl C) : ∃ cd, PySem.W.clsIn K C = some cd ∧ ownT tl cd.mro = true ∧ cd.hasDict = true := by
  obtain ⟨nm, q, N, bs, bm, sn, sub, ab, col, dd, k0, k1, k2, k3, k5, hC, hb⟩ := T.cls
  exact ⟨{ name := nm, bases := bs, mro := .ref C :: bm, ns := N, qualname := q, hasDict := true, slotNames := sn, subclasses := sub, abstract := ab, collection := col, hasDel := false },
    by unfold PySem.W.clsIn; rw [hC] <;> rfl, hb, rfl⟩

section
variable {X : Cx} {pins : List (Addr × Obj)} {σ : L2.St} {H : Hp} {s : Shared} {a C dx : Addr} {f : Str} {y : V} {u : Value} {fs : List (Str × V)} {Q : Unit → Shared → Prop} {E : Value → Shared → Prop} {A : Around}
  {B newId initId : String} {tl : List Value}
theorem storeNew (b : BB B newId initId tl) (T : XC X.K newId tl C) (I : Inv X pins σ H s) (e : H a = some (exo a C none)) (hno : PySem.W.findIn X.K (.ref C) f = some none) (ry : RelV y u)
    (h : ∀ dx s', H dx = none → dx ≠ a → Inv X pins σ (upd (upd H dx (exd dx [(f, y)])) a (exo a C (some dx))) s' → Q () s') : wpAny (model X.prog X.w) A (setAttr (.ref a) f u) Q E s := by
  obtain ⟨cd, hcd, hm, hh⟩ := T.clsIn
  obtain ⟨t1, ho⟩ := exo_at I.hok e
  obtain ⟨hp, g, d, t, os⟩ := s
  refine PySem.W.set_plain I.kIn (ox := { cls := .ref C, dict := none, data := .fields #[.ref t1, .none, .none, .none, .bool false, .none] }) (od := none) ⟨ho, rfl, rfl, trivial⟩ T.sa ?_
  refine osaNew b I.kIn ho hcd hm hh hno ?_
  intro h' tk' dx k dn dne hx hn
  have free : H dx = none := I.hok.fresh dn
  have old : ∀ {b : Addr} {o : Obj}, hp.get? b = some o → b ≠ dx := fun q => Nat.ne_of_lt (Nat.lt_of_lt_of_le (Heap.lt_size q) dn)
  have nota : ∀ {b : Addr}, H b = none → b ≠ a := by
    intro b n z
    rw [z, e] at n
    cases n
  have U : Un X.fs [] H (upd (upd H dx (exd dx [(f, y)])) a (exo a C (some dx))) hp h' := by
    constructor
    · intro b o q n _ _
      exact k b o (nota n) q
    · intro b o q n _ _
      exact ⟨o.slots, k b o (nota n) q⟩
    · intro b o q n _
      rw [upd_ne (nota n), upd_ne (old q)]
      exact n
    · intro b o q _
      by_cases hb : b = a
      · exact ⟨_, by rw [hb]; exact hx⟩
      · exact ⟨o, k b o hb q⟩
    · intro b xs q
      rw [upd_ne (at_ne e q exo_tup), upd_ne (ne_of_none q free)]
      exact q
    · intro b o v q
      rw [upd_ne (at_ne e q exo_frz), upd_ne (ne_of_none q free)]
      exact q
    · intro b ps q
      exact ⟨#[], by rw [upd_ne (at_ne e q exo_tbl), upd_ne (ne_of_none q free), q]; simp⟩
  refine h dx _ free dne (I.un (t' := tk') U ?_)
  intro b o q
  by_cases hb : b = a
  · subst hb
    rw [upd_same] at q
    cases q
    exact exo_ok hx
  · rw [upd_ne hb] at q
    by_cases hd : b = dx
    · subst hd
      rw [upd_same] at q
      cases q
      exact exd_ok hn (relO_put (fs := []) ry fun g => True.intro)
    · rw [upd_ne hd] at q
      refine (I.hok b o q).stay ?_ ?_ ?_
      · intro c v hc z
        refine k c v ?_ z
        rcases hc with hc | hc
        · rw [hc]
          exact hb
        · exact at_ne e hc exo_own
      · intro c hc
        rw [upd_ne (at_ne e hc exo_own), upd_ne (ne_of_none hc free)]
        exact hc
      · intro c xs hc
        rw [upd_ne (at_ne e hc exo_tup), upd_ne (ne_of_none hc free)]
        exact hc
theorem storeOld (b : BB B newId initId tl) (T : XC X.K newId tl C) (I : Inv X pins σ H s) (e : H a = some (exo a C (some dx))) (ed : H dx = some (exd dx fs)) (hl : fs.length ≤ 900) (hno : PySem.W.findIn X.K (.ref C) f = some none) (ry : RelV y u)
    (h : ∀ s', Inv X pins σ (upd H dx (exd dx ((f, y) :: fs))) s' → Q () s') : wpAny (model X.prog X.w) A (setAttr (.ref a) f u) Q E s := by
  obtain ⟨cd, hcd, hm, hh⟩ := T.clsIn
  obtain ⟨t1, ho⟩ := exo_at I.hok e
  obtain ⟨mA, hns, rel⟩ := exd_at I.hok ed
  have hw := within_of rel
  obtain ⟨hp, g, d, t, os⟩ := s
  obtain ⟨oD, _, _, hoD, _, _⟩ := hns.count hw
  refine PySem.W.set_plain I.kIn (ox := { cls := .ref C, dict := some dx, data := .fields #[.ref t1, .none, .none, .none, .bool false, .none] }) (od := some oD) ⟨ho, rfl, rfl, hoD⟩ T.sa ?_
  refine osaOld b I.kIn ho hns hw (by rw [List.length_map]; omega) hcd hm hh hno ?_
  intro h' tk' k hn
  have there : ∃ o, h'.get? dx = some o := by
    obtain ⟨o, _, _, e', _⟩ := hn
    exact ⟨o, e'⟩
  exact h _ (I.write (t' := tk') (x := dx) (e := dx) (o := exd dx ((f, y) :: fs)) (by rw [ed]; exact True.intro) (.inl rfl) k there (exd_ok hn (relO_put ry rel)))
theorem baseInit {us : List Value} {Q : Value → Shared → Prop} (b : BB B newId initId tl) (T : XC X.K newId tl C) (I : Inv X pins σ H s) (e : H a = some (exo a C none)) (hl : us.length ≤ sizeLine) (h : ∀ s', Inv X pins σ H s' → Q .none s') :
    wpAny (model X.prog X.w) A (call (.builtin initId) (.ref a :: us)) Q E s := by
  obtain ⟨nm, q, N, bs, bm, sn, sub, ab, col, dd, k0, k1, k2, k3, k5, hC, hbm⟩ := T.cls
  obtain ⟨t1, ho⟩ := exo_at I.hok e
  obtain ⟨hp, g, d, t, os⟩ := s
  refine wpAny_call (PySem.HandSPX.init_base b.f (fun Y => b.has Y bm hbm) (I.kIn _ _ hC) ho hl ?_)
  intro h' t2 k hx
  have J := I.write (t' := t) (x := a) (e := a) (o := exo a C none) (by rw [e]; exact True.intro) (.inl rfl) k ⟨_, hx⟩ (exo_ok hx)
  have same : upd H a (exo a C none) = H := by
    funext c
    by_cases hc : c = a
    · rw [hc, upd_same, e]
    · rw [upd_ne hc]
  rw [same] at J
  exact h _ J
end

/-! ### readings and rules -/
/-- B.__init__(self, ..) -/
def tBI (K : PySem.W.Frag) (newId : String) (tl : List Value) (ta : TA) : TE := fun σ H Q => ta σ H fun vs H1 => ∃ (a C : Addr) (ws : List V), vs = .ref a :: ws ∧ ws.length ≤ 1000 ∧ XC K newId tl C ∧ H1 a = some (exo a C none) ∧ Q .non H1
/-- self.f = e, self an exception that is being made -/
def tXst (K : PySem.W.Frag) (newId : String) (tl : List Value) (f : Str) (to te : TE) : TS := fun D σ H => te σ H fun y H1 => to σ H1 fun x H2 => ∃ a C : Addr, x = .ref a ∧ XC K newId tl C ∧ PySem.W.findIn K (.ref C) f = some none ∧
  ((H2 a = some (exo a C none) ∧ ∀ dx, H2 dx = none → dx ≠ a → D.nx σ (upd (upd H2 dx (exd dx [(f, y)])) a (exo a C (some dx)))) ∨
    ∃ (dx : Addr) (fs : List (Str × V)), H2 a = some (exo a C (some dx)) ∧ H2 dx = some (exd dx fs) ∧ fs.length ≤ 900 ∧ D.nx σ (upd H2 dx (exd dx ((f, y) :: fs))))
/-- C(e, ..), C's own __init__ keeping sp -/
def tMkX (C : Addr) (sp : Sp) (ta : TA) : L2.St → Hp → XK → Prop := fun σ H Q => ta σ H fun vs H1 => vs.length ≤ 1000 ∧ ∀ a, H1 a = none → sp (.ref a :: vs) (upd H1 a (exo a C none))
  (fun v H2 => v = .non ∧ ∃ (d : Addr) (fs : List (Str × V)), H2 a = some (exo a C (some d)) ∧ H2 d = some (exd d fs) ∧ H1 d = none ∧ Q (.ref C) (some d) (upd (del H2 a) d (.xd fs))) (fun _ _ _ => False)
/-- what the name of a base stands for, and that its __init__ is initId -/
inductive BaseN (K : PySem.W.Frag) (mg : Str → Option Value) (bn : Str) (initId : String) : Prop
  | blt (T : String) (hm : mg bn = none) (hv : bootBuiltins bn = some (.type T)) (hn : bn ≠ "__name__") (ht : typeOf (.type T) = pure (.type "type")) (hs : Manifest.isStub T = false)
      (vV : PySem.W.findCls K (.type T) (.type "type") "__init__" = some (.val (.builtin initId)))
  | own (C : Addr) (hm : mg bn = some (.ref C)) (hg : PySem.W.specialIn K (.ref C) "__getattribute__" = some (some (.builtin "type.__getattribute__"))) (hr : PySem.W.readsIn K C (.type "type") = true)
      (vV : PySem.W.findCls K (.ref C) (.type "type") "__init__" = some (.val (.builtin initId)))
section
variable {X : Cx} {o e : Expr} {es : List Expr} {to te : TE} {ta : TA} {f bn : Str} {p p' p1 p2 pos : Pos} {B newId initId : String} {tl : List Value}
theorem pe_binit {pl : Sem Bool} (b : BB B newId initId tl) (hid : PySem.W.handedIn (.builtin initId) = true) (hg : Gl X bn) (hb : BaseN X.K X.mg bn initId) (hdb : (bn == ("__debug__" : Str)) = false) (ha : PA X (e :: es) ta)
    (hc : eval (.Call (.Attribute (.Name bn p1) "__init__" p2) (e :: es) [] pos) X.env = (do
      let ov ← eval (.Name bn p1) X.env
      standAt p2.atName
      let (f, first) ← holding [ov] (getMethod ov "__init__" pl)
      callWith pos f first (backTo pos (starEach (e :: es) X.env)) (backToKw pos (keywordEach [] X.env))) := by rfl)
    (he : starEach (e :: es) X.env = (false, eval e X.env) :: starEach es X.env := by rfl) (hpl : (backTo pos (starEach es X.env)).any (·.1) = false := by rfl) :
    PE X (.Call (.Attribute (.Name bn p1) "__init__" p2) (e :: es) [] pos) (tBI X.K newId tl ta) := by
  constructor
  intro pins s σ H Q I h
  have rest : ∀ s1, Inv X pins σ H s1 → wpAny (model X.prog X.w) X.A (callWith pos (Value.builtin initId) [] (backTo pos (starEach (e :: es) X.env)) (backToKw pos (keywordEach [] X.env))) (EP X pins σ Q) X.xe s1 := by
    intro s1 I1
    show wpAny _ _ (callWith pos (Value.builtin initId) [] (backTo pos (starEach (e :: es) X.env)) []) _ _ _
    refine PyProof.Rows.callWith_method1 (thn (ha.run pos pins _ σ H _ I1 h) ?_) he hpl
    rintro us s2 ⟨vs, H1, I2, r1, a, C, ws, ev, hl, T, ea, q⟩
    subst ev
    cases r1 with
    | @cons _ u0 _ ur ra rw' =>
      obtain rfl : u0 = Value.ref a := ra
      have hlen : ur.length ≤ sizeLine := by
        rw [← Paired.length rw', sizeLine_eq]
        omega
      exact baseInit b T I2 ea hlen fun s' J => ⟨.non, H1, J, rfl, q⟩
  cases hb with
  | blt T hm hv hn ht hs vV =>
    refine PySem.W.methodCall_KW (ld_blt I hg hm hv ?_ hn hdb) hc
    obtain ⟨m, fr⟩ := I.fr
    exact PySem.W.method_type fr I.ok.mod.kin ht hs vV hid (rest _ (I.tok _))
  | own C hm hga hr vV =>
    refine PySem.W.methodCall_KW (ld_glob I hg hm ?_ hdb) hc
    exact PySem.W.method_cls I.kIn hga (PySem.W.cls_value I.kIn hr vV hid (rest _ (I.tok _)))
theorem ps_xst (b : BB B newId initId tl) (ho : PE X o to) (he : PE X e te) (hs : swapsWith e (some (.Attribute o f p')) pos.line X.env = pure false := by rfl) : PS X (.Assign [.Attribute o f p'] e pos) (tXst X.K newId tl f to te) := by
  constructor
  intro pins s σ H D I h
  refine plainObj_wpAny_Assign_Attribute (thn (he.run pins s σ H _ I h) ?_) hs
  rintro v s1 ⟨y, H1, I1, r1, q1⟩
  refine thn (ho.run pins s1 σ H1 _ I1 q1) ?_
  rintro u s2 ⟨x, H2, I2, r2, a, C, ex, T, hno, q⟩
  subst ex
  obtain rfl : u = Value.ref a := r2
  rcases q with ⟨ea, q⟩ | ⟨dx, fs, ea, ed, hl, q⟩
  · exact storeNew b T I2 ea hno r1 fun dx s' n ne J => ⟨σ, _, J, q dx n ne⟩
  · exact storeOld b T I2 ea ed hl hno r1 fun s' J => ⟨σ, _, J, q⟩
/-- C(e, ..) -/
theorem pmkX {x : Str} {C fI : Addr} {k : Nat} {fd : FuncData} {ps : List Str} {sp : Sp} (b : BB B newId initId tl) (T : XC X.K newId tl C) (iC : PySem.W.findIn X.K (.ref C) "__init__" = some (some (.ref fI)))
    (tI : PySem.W.typeIn X.K (.ref fI) = some (.type "function")) (F1 : FnG X.prog X.w X.K X.mg X.base k fI fd ps sp) (hr : RG (k + 1) X.A) (hb : Binds X.K fd ps []) (hg : Gl X x) (hm : X.mg x = some (.ref C)) (ha : PA X (e :: es) ta)
    (hdb : (x == ("__debug__" : Str)) = false := by decide) (he : starEach (e :: es) X.env = (false, eval e X.env) :: starEach es X.env := by rfl) (hpl : (backTo pos (starEach es X.env)).any (·.1) = false := by rfl) :
    PMk X (.Call (.Name x p) (e :: es) [] pos) (tMkX C sp ta) := by
  intro pins s σ H Q I h
  obtain ⟨nm, q, N, bs, bm, sn, sub, ab, col, dd, k0, k1, k2, k3, k5, hC, hbm⟩ := T.cls
  refine wpAny_Call_Name_kw (ld_glob I hg hm ?_ hdb)
  refine PySem.W.callWith_K (h₀ := X.base) I.ok.mod.kin T.kC (thn (ha.run pos pins s σ H _ I h) ?_) he hpl
  rintro us s1 ⟨vs, H1, I1, r1, hz, q1⟩
  refine ⟨I1.kIn, ?_⟩
  show wpAny _ _ (call (.ref C) us) _ _ _
  obtain ⟨hp, g, dr, tk, os⟩ := s1
  have up : hp.objs.size ≤ hp.objs.size + 1 := Nat.le_succ _
  have free : H1 (hp.objs.size + 1) = none := I1.hok.fresh up
  have hq := q1 (hp.objs.size + 1) free
  have kept : ∀ b o, hp.get? b = some o → ((hp.push (PySem.W.kdv_tup us)).push (PySem.HandSPX.excO C hp.objs.size)).get? b = some o := fun b o e => Heap.get?_push_of_some _ (Heap.get?_push_of_some _ e)
  have there : ((hp.push (PySem.W.kdv_tup us)).push (PySem.HandSPX.excO C hp.objs.size)).get? (hp.objs.size + 1) = some (PySem.HandSPX.excO C hp.objs.size) := by heap_get
  have I2 : Inv X pins σ (upd H1 (hp.objs.size + 1) (exo (hp.objs.size + 1) C none)) ⟨(hp.push (PySem.W.kdv_tup us)).push (PySem.HandSPX.excO C hp.objs.size), g, dr, tk, os⟩ :=
    I1.laid (t' := tk) (a := hp.objs.size + 1) (o := exo (hp.objs.size + 1) C none) (h' := (hp.push (PySem.W.kdv_tup us)).push (PySem.HandSPX.excO C hp.objs.size)) kept up (exo_ok there)
  have r2 : Vals (V.ref (hp.objs.size + 1) :: vs) (Value.ref (hp.objs.size + 1) :: us) := .cons rfl r1
  have hl : ((Value.ref (hp.objs.size + 1) :: us) ++ []).length = ps.length := by
    rw [List.append_nil]
    exact r2.length.symm.trans (F1.len _ _ _ _ hq)
  have hus : us.length ≤ sizeLine := by
    rw [← Paired.length r1, sizeLine_eq]
    omega
  have bnd := hb ⟨(hp.push (PySem.W.kdv_tup us)).push (PySem.HandSPX.excO C hp.objs.size), g, dr, tk, os⟩ (Value.ref (hp.objs.size + 1) :: us) I2.kIn hl
  rw [List.append_nil] at bnd
  have go := F1.run _ X.stack _ _ ⟨Value.ref (hp.objs.size + 1) :: us, []⟩ (Value.ref (hp.objs.size + 1) :: us) _ _ (fun _ _ _ => False) (hr.make C us []) (I2.env0.make C us []) bnd r2 hq
  refine wpAny_call (PySem.HandSPX.call_own b.f (fun Y => b.has Y bm hbm) (I1.kIn _ _ hC) (PySem.W.looks_findIn I1.kIn iC) (fun self => PySem.W.bind_fn I1.kIn self tI) hus (codeAny_mono go ?_))
  intro r s' hq'
  match r, hq' with
  | .error er, hq' => exact passL (X := X) pins σ _ _ er s' I2 hq'
  | .ok (.ret u), hq' =>
    obtain ⟨v, H2, os2, bare2, un2, hok2, rv, ev, d, fs, ea, ed, hd1, q2⟩ := hq'
    subst ev
    obtain ⟨h2, g2, d2, t2, os'⟩ := s'
    exact ⟨rv, mk_end (raises_own T.exC T.tyC) I1 up kept un2 hok2 os2 bare2 ea ed hd1 q2⟩
  | .ok .next, hq' => exact hq'.elim
  | .ok .brk, hq' => exact hq'.elim
  | .ok .cont, hq' => exact hq'.elim
end
end W8

/-! W8, part 3: the usual __init__ of an exception class, its raise; try with many clauses, named or not; what a clause reads of its exception. -/
namespace W8
open PySem PySem.Spec PyProof.Rows L2

/-! ### B.__init__(self, text); self.f = f -/
def xBody (bn txt f : Str) (p1 p2 p3 p4 p5 p6 p7 p8 p9 p10 : Pos) (z : Nat) : List Stmt :=
  [.Expr (.Call (.Attribute (.Name bn p1) "__init__" p2) [.Name "self" p3, .Constant (.str txt) z p4] [] p5) p6, .Assign [.Attribute (.Name "self" p7) f p8] (.Name f p9) p10]
/-- what __init__ does: a fresh exception gets its dict, with one field -/
def spXI (K : PySem.W.Frag) (newId : String) (tl : List Value) (f : Str) : Sp := fun vs H Q _ => ∃ (a C : Addr) (v : V), vs = [.ref a, v] ∧ XC K newId tl C ∧ PySem.W.findIn K (.ref C) f = some none ∧ H a = some (exo a C none) ∧
  ∀ dx, H dx = none → dx ≠ a → Q .non (upd (upd H dx (exd dx [(f, v)])) a (exo a C (some dx)))
section
variable {P : Program} {w : World} {K : PySem.W.Frag} {mg : Str → Option Value} {base : Heap} {B newId initId : String} {tl : List Value}
theorem xinit (b : BB B newId initId tl) (hid : PySem.W.handedIn (.builtin initId) = true) {qual bn txt f : Str} {params : Arguments} {scope : Scope} {p1 p2 p3 p4 p5 p6 p7 p8 p9 p10 : Pos} {z : Nat} {fI : Addr} {fd : FuncData}
    (F : FunD K "__init__" qual params (xBody bn txt f p1 p2 p3 p4 p5 p6 p7 p8 p9 p10 z) scope [] [] fI fd) (S : FnScope ["self", f] ["self", f] scope) (hs : scope.names.lookup ("self" : Str) = some NameKind.local) (hf : scope.names.lookup f = some NameKind.local)
    (hb : scope.names.lookup bn = some NameKind.globalImplicit) (hB : BaseN K mg bn initId) (d1 : (bn == ("__debug__" : Str)) = false) (d2 : (f == ("__debug__" : Str)) = false) (d3 : (f == ("__classdict__" : Str)) = false)
    (hc : ∀ env : Env, ∃ pl, eval (.Call (.Attribute (.Name bn p1) "__init__" p2) [.Name "self" p3, .Constant (.str txt) z p4] [] p5) env = (do
      let ov ← eval (.Name bn p1) env
      standAt p2.atName
      let (f, first) ← holding [ov] (getMethod ov "__init__" pl)
      callWith p5 f first (backTo p5 (starEach [.Name "self" p3, .Constant (.str txt) z p4] env)) (backToKw p5 (keywordEach [] env)))) :
    FnG P w K mg base 1 fI fd ["self", f] (spXI K newId tl f) := by
  refine fnG_of F S ?_ ?_
  · rintro vs H Q E ⟨a, C, v, rfl, _⟩
    rfl
  · rintro cdv A outer s H vs Q E hr ⟨a, C, v, rfl, T, hno, e, k⟩
    obtain ⟨pl, hc⟩ := hc (envOfC qual scope s.heap.objs.size fI cdv)
    refine ⟨_, pss_cons (ps_expr (pe_binit (pl := pl) b hid hb hB d1 (pa_cons (pe_var (i := 0) rfl (.inl hs)) (pa_cons pe_str pa_nil)) hc)) (pss_one (ps_xst b (pe_var (i := 0) rfl (.inl hs)) (pe_var (i := 1) rfl (.inl hf) d2 d3))), ?_⟩
    exact ⟨_, rfl, a, C, _, rfl, (show (1 : Nat) ≤ 1000 by decide), T, e, _, rfl, _, rfl, a, C, rfl, T, hno, Or.inl ⟨e, fun dx n ne => k dx n ne⟩⟩
end
/-- the exception class of the text called x, at C, with the one field f -/
structure EX (K : PySem.W.Frag) (mg : Str → Option Value) (newId : String) (tl : List Value) (x f : Str) (C : Addr) : Prop where
  gC : mg x = some (.ref C)
  T : XC K newId tl C
  ga : PySem.W.findIn K (.ref C) "__getattribute__" = some (some (.builtin "BaseException.__getattribute__"))
  gg : PySem.W.findIn K (.ref C) "__getattr__" = some none
  hd : PySem.W.hasDictIn K C = true
  no : PySem.W.findIn K (.ref C) f = some none
/-- .. and its __init__ keeps its promise -/
structure EXI (P : Program) (w : World) (K : PySem.W.Frag) (mg : Str → Option Value) (base : Heap) (newId : String) (tl : List Value) (x f : Str) (C : Addr) : Prop where
  E : EX K mg newId tl x f C
  ini : ∃ fI fd, PySem.W.findIn K (.ref C) "__init__" = some (some (.ref fI)) ∧ PySem.W.typeIn K (.ref fI) = some (.type "function") ∧ FnG P w K mg base 1 fI fd ["self", f] (spXI K newId tl f) ∧ Binds K fd ["self", f] []
/-- C(e): a new exception, its dict at d -/
def tMk1 (C : Addr) (f : Str) (ta : TA) : L2.St → Hp → XK → Prop := fun σ H Q => ta σ H fun vs H1 => ∃ v, vs = [v] ∧ ∀ d, H1 d = none → Q (.ref C) (some d) (upd H1 d (.xd [(f, v)]))
theorem PMk.imp {X : Cx} {e : Expr} {t u : L2.St → Hp → XK → Prop} (h : PMk X e t) (hi : ∀ σ H Q, u σ H Q → t σ H Q) : PMk X e u := fun pins s σ H Q I q => h pins s σ H Q I (hi σ H Q q)
theorem TA.monoT {X : Cx} {es : List Expr} {t u : TA} (h : PA X es t) (hi : ∀ σ H Q, u σ H Q → t σ H Q) : PA X es u := ⟨fun pos pins s σ H Q I q => h.run pos pins s σ H Q I (hi σ H Q q)⟩
/-- a reading that may be weakened -/
def MonoA (ta : TA) : Prop := ∀ σ H (Q R : List V → Hp → Prop), ta σ H Q → (∀ vs H', Q vs H' → R vs H') → ta σ H R
theorem PA.thn {X : Cx} {es : List Expr} {ta : TA} (h : PA X es ta) {R : List V → Hp → Prop} (pos : Pos) (pins : List (Addr × Obj)) (s : Shared) (σ : L2.St) (H : Hp) (Q : List V → Hp → Prop) (I : Inv X pins σ H s) (q : ta σ H Q) (k : ∀ vs H', Q vs H' → R vs H') :
    wpAny (model X.prog X.w) X.A (spliced (backTo pos (starEach es X.env))) (AP X pins σ R) X.xe s :=
  L2.thn (h.run pos pins s σ H Q I q) fun _ _ ⟨vs, H1, I1, r, q1⟩ => ⟨vs, H1, I1, r, k _ _ q1⟩
theorem PA.mono {X : Cx} {es : List Expr} {ta : TA} (h : PA X es ta) : PA X es (fun σ H Q => ∃ R : List V → Hp → Prop, ta σ H R ∧ ∀ vs H', R vs H' → Q vs H') :=
  ⟨fun pos pins s σ H Q I ⟨R, q, k⟩ => PA.thn h pos pins s σ H R I q k⟩
section
variable {X : Cx} {e : Expr} {es : List Expr} {ta : TA} {x f : Str} {C : Addr} {p pos pos2 : Pos} {B newId initId : String} {tl : List Value} {k : Nat} {W : WX}
theorem pmk1 (b : BB B newId initId tl) (T : EXI X.prog X.w X.K X.mg X.base newId tl x f C) (hr : RG (k + 2) X.A) (hg : Gl X x) (ha : PA X [e] ta)
    (hdb : (x == ("__debug__" : Str)) = false := by decide) (he : starEach (e :: []) X.env = (false, eval e X.env) :: starEach [] X.env := by rfl) (hpl : (backTo pos (starEach [] X.env)).any (·.1) = false := by rfl) :
    PMk X (.Call (.Name x p) [e] [] pos) (tMk1 C f ta) := by
  obtain ⟨fI, fd, iC, tI, F, bnd⟩ := T.ini
  refine PMk.imp (pmkX b T.E.T iC tI F (hr.mono (by omega : 1 + 1 ≤ k + 2)) bnd hg T.E.gC (PA.mono ha) hdb he hpl) ?_
  intro σ H Q q
  refine ⟨_, q, ?_⟩
  rintro vs H' ⟨v, rfl, q⟩
  refine ⟨(show (1 : Nat) ≤ 1000 by decide), fun a na => ⟨a, C, v, rfl, T.E.T, T.E.no, upd_same, fun dx ndx ne => ⟨rfl, dx, [(f, v)], upd_same, by rw [upd_ne ne, upd_same], by rw [← ndx, upd_ne ne], ?_⟩⟩⟩
  have hd' : H' dx = none := by rw [← ndx, upd_ne ne]
  have same : upd (del (upd (upd (upd H' a (exo a C none)) dx (exd dx [(f, v)])) a (exo a C (some dx))) a) dx (.xd [(f, v)]) = upd H' dx (.xd [(f, v)]) := by
    funext c
    by_cases h1 : c = dx
    · rw [h1, upd_same, upd_same]
    · rw [upd_ne h1, upd_ne h1]
      by_cases h2 : c = a
      · rw [h2, del_same, na]
      · rw [del_ne h2, upd_ne h2, upd_ne h1, upd_ne h2]
  rw [same]
  exact q dx hd'
/-- raise C(e) -/
def tRaise1 (C : Addr) (f : Str) (W : WX) (ta : TA) : TS := fun _ σ H => tMk1 C f ta σ H fun cls d H' => W cls d σ H'
theorem ps_raise1 (hc : X.calm = true) (b : BB B newId initId tl) (T : EXI X.prog X.w X.K X.mg X.base newId tl x f C) (hr : RG (k + 2) X.A) (tk : Takes X W) (hg : Gl X x) (ha : PA X [e] ta)
    (hdb : (x == ("__debug__" : Str)) = false := by decide) (he : starEach (e :: []) X.env = (false, eval e X.env) :: starEach [] X.env := by rfl) (hpl : (backTo pos (starEach [] X.env)).any (·.1) = false := by rfl) :
    PS X (.Raise (some (.Call (.Name x p) [e] [] pos)) none pos2) (tRaise1 C f W ta) := ps_raise hc tk (pmk1 b T hr hg ha hdb he hpl)
/-- e.f, e the exception that the suite holds (at a; its class cls, its dict d) -/
def tXf (C : Addr) (f : Str) (a : Addr) (cls : Value) (d : Option Addr) (te : TE) : TE := fun σ H Q => te σ H fun x H1 => x = .ref a ∧ cls = .ref C ∧ ∃ (dd : Addr) (v : V), d = some dd ∧ H1 dd = some (.xd [(f, v)]) ∧ Q v H1
theorem pe_xf {mgC : Str → Option Value} {a : Addr} {oe : Obj} {cls : Value} {d : Option Addr} {pn : List (Addr × Obj)} {te : TE} (T : EX X.K mgC newId tl x f C) (hz : Zc cls d oe) (hf : ∃ vs, oe.data = .fields vs) (he : PE (X.suite a ((a, oe) :: pn)) e te)
    (hb : attributeBase e f X.env (eval e X.env) = eval e X.env := by rfl) : PE (X.suite a ((a, oe) :: pn)) (.Attribute e f pos) (tXf C f a cls d te) := by
  constructor
  intro pins s σ H Q I h
  refine attr_of hb (thn (he.run pins s σ H _ I h) ?_)
  rintro u s1 ⟨x', H1, I1, rx, ex, ec, dd, v, ed, ea, q⟩
  subst ex
  obtain rfl : u = Value.ref a := rx
  subst ec
  subst ed
  obtain ⟨ha, _⟩ := I1.pin (a, oe) (List.mem_append_left _ List.mem_cons_self)
  obtain ⟨vs, hd⟩ := hf
  obtain ⟨mA, hns, hr⟩ : ObjOk X.prog X.w H1 s1.heap dd (.xd [(f, v)]) := I1.hok dd _ ea
  obtain ⟨od, ho, hl⟩ := lookIn_ns hns
  have l : List.lookup f [(f, v)] = some v := by simp [List.lookup]
  obtain ⟨u, hu, ru⟩ := RelO.some_of (v := v) (o := mA f) (by rw [← l]; exact hr f)
  have J : PySem.W.InstAt s1.heap a oe C (some od) := ⟨ha, hz.1, by unfold PySem.W.notCls; rw [hd] <;> rfl, by rw [hz.2]; exact ho⟩
  exact HandSPX.exc_get I1.kIn J T.ga T.gg T.T.exC (PySem.W.findObj_own T.hd T.no rfl (by rw [hl, hu])) (handed_of ru) ⟨v, H1, I1.tok _, ru, q⟩
end

/-! ### try: body, except x as n: .., except y: .. -/
/-- a clause: its class, the slot of its name, its suite's reading -/
structure Hd where
  c : Value
  i : Option Nat
  ts : Addr → Value → Option Addr → TS
/-- the ends of a suite whose name goes -/
def gone (i : Option Nat) (D : Ends) : Ends := match i with
  | none => D
  | some i => { nx := fun σ H => D.nx (σ.set i none) H, rt := D.rt, bk := fun σ H => D.bk (σ.set i none) H, ct := fun σ H => D.ct (σ.set i none) H }
def named (i : Option Nat) (a : Addr) (σ : L2.St) : L2.St := match i with
  | none => σ
  | some i => σ.set i (some (.ref a))
def wHds (K : PySem.W.Frag) (Wout : WX) (D : Ends) : List Hd → WX
  | [] => Wout
  | h :: r => fun cls d σ H => ∃ b, PySem.W.exmOne K cls h.c = some b ∧ (b = true → ∀ a, H a = none → h.ts a cls d (gone h.i D) (named h.i a σ) H) ∧ (b = false → wHds K Wout D r cls d σ H)
inductive Hds (X : Cx) : List ExceptHandler → List Hd → Prop
  | nil : Hds X [] []
  | plain {x : Str} {c : Value} {ts : Addr → Value → Option Addr → TS} {b0 : Stmt} {suite : List Stmt} {np pos' : Pos} {hds : List ExceptHandler} {l : List Hd} (hc : Names X x c)
      (hsu : ∀ (a : Addr) (oe : Obj) (cls : Value) (d : Option Addr) (pn : List (Addr × Obj)), Zc cls d oe → (∃ vs, oe.data = .fields vs) → PSs (X.suite a ((a, oe) :: pn)) (b0 :: suite) (ts a cls d)) (r : Hds X hds l) :
      Hds X (.ExceptHandler (some (.Name x np)) none (b0 :: suite) pos' :: hds) (⟨c, none, ts⟩ :: l)
  | as {x n : Str} {i : Nat} {c : Value} {ts : Addr → Value → Option Addr → TS} {b0 : Stmt} {suite : List Stmt} {np pos' : Pos} {hds : List ExceptHandler} {l : List Hd} (hc : Names X x c) (hN : X.N.Nodup) (hi : X.N[i]? = some n) (hln : X.env.kindOf n = some .local)
      (hsu : ∀ (a : Addr) (oe : Obj) (cls : Value) (d : Option Addr) (pn : List (Addr × Obj)), Zc cls d oe → (∃ vs, oe.data = .fields vs) → PSs (X.suite a ((a, oe) :: pn)) (b0 :: suite) (ts a cls d)) (r : Hds X hds l) :
      Hds X (.ExceptHandler (some (.Name x np)) (some n) (b0 :: suite) pos' :: hds) (⟨c, some i, ts⟩ :: l)
section
variable {X : Cx} {body : List Stmt} {h0 : ExceptHandler} {hds : List ExceptHandler} {l : List Hd} {pos : Pos} {tb : WX → TS} {Wout : WX}
theorem ps_tryG (hs : X.stack = X.env :: X.outer) (hf : X.env.frame = some X.env.locals) (tk : Takes X Wout)
    (hb : ∀ (W : WX) (pn : List (Addr × Obj)) (xe : Value → Shared → Prop), Takes (X.tr pn xe) W → PassesOwn (model X.prog X.w) X.A X.env xe → PSs (X.tr pn xe) body (tb W))
    (hh : Hds X (h0 :: hds) l) : PS X (.Try body (h0 :: hds) [] [] pos) (fun D σ H => tb (wHds X.K Wout D l) D σ H) := by
  constructor
  intro pins s σ H D I h
  have ok := I.ok
  have hfr : X.A.frames = some (X.env :: X.outer) := by rw [ok.frames, hs]
  refine wpAny_Try_except ?_
  refine wpAny_mono ((hb (wHds X.K Wout D l) (X.pn ++ pins) (fun e s1 => wpAny (model X.prog X.w) X.A (noteFrame e X.env) (fun _ s2 => wpAny (model X.prog X.w) X.A (setFlight e none) (fun _ s3 =>
    wpAny (model X.prog X.w) X.A (handleBy e X.env (h0 :: hds)) (SP X pins D) X.xe s3) X.xe s2) X.xe s1) ?_ PassesOwn.looking).run [] s σ H D (I.toTry _) h) ?_ (fun e s1 he => he)
  · rintro u s' ⟨a, G, sI, pins', σ', H', cls, d, rfl, J', nb, up, sky, na, os, ag, ww⟩
    have J : Inv X pins σ' H' sI := J'.ofTry ok
    have sky' : Sky G (X.env :: X.outer) a (Zc cls d) X.env.locals s'.heap := by rw [← hs]; exact sky
    show wpAny (model X.prog X.w) X.A (noteFrame (.ref a) X.env) _ _ _
    refine Sky.land Zc.steady hfr hf sky' ?_
    intro h3 fl3 up3
    have J3 : Inv X pins σ' H' { s' with heap := h3 } := J.landed nb fl3.1 (up.trans up3) os ag
    obtain ⟨oe3, vs3, he3, hz3, hd3⟩ := fl3.there
    have outside : a ∉ frs (X.env :: X.outer) := by
      intro hm
      obtain ⟨_, o', e', hnf⟩ := fl3.2.2.1.mem hm
      rw [he3] at e'
      cases e'
      exact hnf _ hd3
    have nL : a ≠ X.env.locals := fun z => outside (List.mem_filterMap.mpr ⟨X.env, List.mem_cons_self, by rw [hf, z]⟩)
    have nF : a ∉ X.fs := by
      intro hm
      obtain ⟨e, he, q⟩ := List.mem_filterMap.mp hm
      exact outside (List.mem_filterMap.mpr ⟨e, List.mem_cons_of_mem _ he, q⟩)
    have S3 := J3.suite he3 hd3 na nL nF
    have tests : ∀ {x : Str} {c : Value} {np : Pos} {Q : Value → Shared → Prop} {E : Value → Shared → Prop}, Names X x c → Q c { s' with heap := h3 } →
        wpAny (model X.prog X.w) (X.A.mark (some (.ref a))) (eval (.Name x np) X.env) Q E { s' with heap := h3 } := by
      intro x c np Q E hc q
      obtain ⟨hg, hdbg, hm | ⟨hm, hv, hnn⟩⟩ := hc
      · exact ld_glob (X := X.suite a ((a, oe3) :: (X.pn ++ pins))) S3 hg hm q hdbg
      · exact ld_blt (X := X.suite a ((a, oe3) :: (X.pn ++ pins))) S3 hg hm hv q hnn hdbg
    have LT : PySem.W.Looks (model X.prog X.w) h3 (typeOf (.ref a)) cls := fun A Q E s k q => wpAny_typeOf_ref (k _ _ he3) (by rw [hz3.1]; exact q)
    have go : ∀ {hds' : List ExceptHandler} {l' : List Hd}, Hds X hds' l' → wHds X.K Wout D l' cls d σ' H' →
        wpAny (model X.prog X.w) X.A (handleBy (.ref a) X.env hds') (SP X pins D) X.xe { s' with heap := h3 } := by
      intro hds' l' hk
      induction hk with
      | nil =>
        intro ww
        refine wpAny_handleBy_nil ?_
        obtain ⟨k1, k2, k3, oe, vs, T, oT, ts', he, hz, hd, h1, hr⟩ := id fl3
        unfold PySem.passOn
        refine wpAny_bind (wpAny_field he hd h1 ?_)
        rw [if_neg (show ¬ ((Value.ref T == Value.none) = true) from by simp)]
        have fin : wpAny (model X.prog X.w) X.A (setFlight (.ref a) X.env.frame) (fun _ s4 => wpAny (model X.prog X.w) X.A (throw (.ref a) : Sem Flow) (SP X pins D) X.xe s4) X.xe { s' with heap := h3 } := by
          rw [hf]
          refine HandSPX.setFlight_upZ fl3 ?_
          intro h4 hh4 up4
          refine wpAny_throw (tk _ _ ?_)
          exact ⟨a, G, sI, pins, σ', H', cls, d, rfl, J, nb, (up.trans up3).trans up4, .inr (.inr (by rw [hs]; exact hh4)), na, os, ag, ww⟩
        first
          | exact wpAny_bind (wpAny_pure (wpAny_bind fin))
          | exact wpAny_bind fin
      | @plain x c ts b0 suite np pos' hds2 l2 hc hsu r ih =>
        rintro ⟨b, hb1, hyes, hno⟩
        refine wpAny_handleBy_cons (codeAny_handlers_test ?_) (by intro q; cases q)
        refine tests hc ((PySem.W.exm_one (M := model X.prog X.w) (J3.kIn) LT hb1).here ?_)
        cases b with
        | true =>
          refine codeAny_handlers_suite ?_
          refine HandSPX.lands_againZ fl3 ?_
          intro h4 fl4 up4
          have J4 : Inv X pins σ' H' { s' with heap := h4 } := J.landed nb fl4.1 ((up.trans up3).trans up4) os ag
          obtain ⟨oe4, vs4, he4, hz4, hd4⟩ := fl4.there
          have S4 := J4.suite he4 hd4 na nL nF
          refine wpAny_mono ((hsu a oe4 cls d (X.pn ++ pins) hz4 ⟨_, hd4⟩).run [] _ _ H' _ S4 (hyes rfl a na)) ?_ (fun _ _ z => False.elim z)
          intro f s6 hsp
          match f, hsp with
          | .next, ⟨σ6, H6, S6, q6⟩ => exact ⟨_, _, S6.unsuite ok, q6⟩
          | .brk, ⟨σ6, H6, S6, q6⟩ => exact ⟨_, _, S6.unsuite ok, q6⟩
          | .cont, ⟨σ6, H6, S6, q6⟩ => exact ⟨_, _, S6.unsuite ok, q6⟩
          | .ret u, ⟨v6, σ6, H6, S6, r6, q6⟩ => exact ⟨_, _, _, S6.unsuite ok, r6, q6⟩
        | false =>
          show wpAny _ X.A (handleBy (.ref a) X.env hds2) _ _ _
          exact ih (hno rfl)
      | @as x n i c ts b0 suite np pos' hds2 l2 hc hN hi hln hsu r ih =>
        rintro ⟨b, hb1, hyes, hno⟩
        refine wpAny_handleBy_cons (codeAny_handlers_test ?_) (by intro q; cases q)
        refine tests hc ((PySem.W.exm_one (M := model X.prog X.w) (J3.kIn) LT hb1).here ?_)
        cases b with
        | true =>
          refine codeAny_handlers_suite_as ?_
          refine HandSPX.lands_againZ fl3 ?_
          intro h4 fl4 up4
          have J4 : Inv X pins σ' H' { s' with heap := h4 } := J.landed nb fl4.1 ((up.trans up3).trans up4) os ag
          obtain ⟨oe4, vs4, he4, hz4, hd4⟩ := fl4.there
          have S4 := J4.suite he4 hd4 na nL nF
          refine store_ok (X := X.suite a ((a, oe4) :: (X.pn ++ pins))) (v := .ref a) S4 hN hi (.inl hln) rfl ?_ (.inr hln)
          intro s5 S5
          refine wpAny_mono ((hsu a oe4 cls d (X.pn ++ pins) hz4 ⟨_, hd4⟩).run [] s5 _ H' _ S5 (hyes rfl a na)) ?_ (fun _ _ z => False.elim z)
          intro f s6 hsp
          have end_ : ∀ {σ6 : L2.St} {H6 : Hp} {Q : Shared → Prop}, Inv (X.suite a ((a, oe4) :: (X.pn ++ pins))) [] σ6 H6 s6 → (∀ s7, Inv X pins (σ6.set i none) H6 s7 → Q s7) →
              wpAny (model X.prog X.w) X.A (do bindName X.env n .none; unbindBehindTheSuite X.env n pos') (fun _ s7 => Q s7) X.xe s6 := fun {σ6 H6 Q} S6 hq => gone_ok (S6.unsuite ok) hN hi hln hq
          match f, hsp with
          | .next, ⟨σ6, H6, S6, q6⟩ => exact end_ S6 fun s7 J7 => ⟨_, _, J7, q6⟩
          | .brk, ⟨σ6, H6, S6, q6⟩ => exact end_ S6 fun s7 J7 => ⟨_, _, J7, q6⟩
          | .cont, ⟨σ6, H6, S6, q6⟩ => exact end_ S6 fun s7 J7 => ⟨_, _, J7, q6⟩
          | .ret u, ⟨v6, σ6, H6, S6, r6, q6⟩ => exact end_ S6 fun s7 J7 => ⟨_, _, _, J7, r6, q6⟩
        | false =>
          show wpAny _ X.A (handleBy (.ref a) X.env hds2) _ _ _
          exact ih (hno rfl)
    exact go hh ww
  · intro f s1 hsp
    match f, hsp with
    | .next, ⟨σ', H', J', q⟩ => exact wpAny_execs_nil ⟨σ', H', J'.ofTry ok, q⟩
    | .brk, ⟨σ', H', J', q⟩ => exact ⟨σ', H', J'.ofTry ok, q⟩
    | .cont, ⟨σ', H', J', q⟩ => exact ⟨σ', H', J'.ofTry ok, q⟩
    | .ret u, ⟨v, σ', H', J', r, q⟩ => exact ⟨v, σ', H', J'.ofTry ok, r, q⟩
end
end W8

/-! W8, part 4: a list comprehension whose element calls defs that may raise. -/
namespace W8
open PySem PySem.Spec PyProof.Rows L2

theorem tracedBut {base h h' : Heap} {e C : Addr} {Z : Obj → Prop} {fl : Value} {m : Str → Option Value} (t : HandSPX.TracedZ h base e Z fl) (hn : h.Ns C m) (hs : Heap.SameBut C h h') : HandSPX.TracedZ h' base e Z fl := by
  obtain ⟨oe, vs, T, oT, ts, he, hz, hd, h1, hnT, hTe, hT, hdT, h3⟩ := t
  obtain ⟨o, es, ep, ho, hdo, _⟩ := hn
  have ne : ∀ {b : Addr} {ob : Obj} {fs : Array Value}, h.get? b = some ob → ob.data = .fields fs → b ≠ C := by
    intro b ob fs q qd z
    rw [z, ho] at q
    cases q
    rw [hdo] at qd
    cases qd
  exact ⟨oe, vs, T, oT, ts, (hs.2 e (ne he hd)).trans he, hz, hd, h1, hnT, hTe, (hs.2 T (ne hT hdT)).trans hT, hdT, h3⟩
/-- the block's context, with a wish about exceptions -/
abbrev blkx (X : Cx) (s : Shared) (H : Hp) (scope : Scope) (cenv : Env) (fp : List Addr) (xe : Value → Shared → Prop) : Cx := { X.blk s H scope cenv fp with xe := xe }
theorem okWish {X : Cx} {E : Value → Shared → Prop} (ok : X.Ok) : ({ X with xe := E } : Cx).Ok :=
  ⟨ok.mod, ok.kind, ok.glob, ok.blt, ok.above, ok.inj, ok.has, ok.cab, ok.hd, ok.frames, ok.stk, ok.exf, ok.bs, ok.bsz, ok.noex, ok.exfs, ok.funs, ok.frf⟩
theorem invWish {X : Cx} {E : Value → Shared → Prop} {pins : List (Addr × Obj)} {σ : L2.St} {H : Hp} {s : Shared} (I : Inv X pins σ H s) : Inv ({ X with xe := E } : Cx) pins σ H s :=
  ⟨okWish I.ok, I.os, I.bare, I.base, I.loc, I.cell, I.free, I.freeC, I.pin, I.hok, I.len⟩
/-- an exception of a call within the block, noted and brought out of the comprehension -/
theorem blk_fail {X : Cx} {pins pins' : List (Addr × Obj)} {σ σ' : L2.St} {H3 H1 : Hp} {s3 s1 s' : Shared} {scope : Scope} {ce : Env} {fp : List Addr} {xe : Value → Shared → Prop} {E : XK} {W : WX} {u : Value}
    (hs : X.stack = X.env :: X.outer) (hf : X.env.frame = some X.env.locals) (tk : Takes X W) (hW : ∀ cls d H, E cls d H → W cls d σ H) (hcf : ce.frame = X.env.frame) (hcl : ce.locals = s3.heap.objs.size)
    (I3 : Inv X pins σ H3 s3) (hfp : ∀ b ∈ fp, FpOk X pins H3 b) (I1 : Inv (blkx X s3 H3 scope ce fp xe) pins' σ' H1 s1) (c : L2.CX X.prog X.w X.stack H1 s1 E u s') :
    notedBy (model X.prog X.w) X.A ce (CompFails (model X.prog X.w) X.A X.xe ce) u s' := by
  obtain ⟨a, G, H', cls, d, rfl, fl, hok, ub, na, os, ag, hE⟩ := c
  have hfr : X.A.frames = some (X.env :: X.outer) := by rw [I3.ok.frames, hs]
  show wpAny _ _ (noteFrame (.ref a) ce) _ _ _
  rw [noteFrame_env _ hcf]
  have fl' : HandSPX.FlyingZ G (X.env :: X.outer) a (Zc cls d) s'.heap := by rw [← hs]; exact fl
  refine HandSPX.looks_onZ Zc.steady hfr hf fl' ?_
  intro h2 hh up2
  -- the block's own dict
  obtain ⟨m, hn, -⟩ := I1.loc
  obtain ⟨oC, esC, epC, hoC, hdC, rC⟩ := hn
  have cN : H1 ce.locals = none := I1.free
  have stX : ∀ b, b ∈ frs X.stack → b ≠ ce.locals := by
    intro b hb z
    have q := I3.stack.mem hb
    obtain ⟨_, o, ho, _⟩ := q
    have lt := Heap.lt_size ho
    rw [z, hcl] at lt
    exact Nat.lt_irrefl _ lt
  have cG : G.get? ce.locals = some oC := ub.keep _ _ hoC cN fun hb => stX _ hb rfl
  have c2 : h2.get? ce.locals = some oC := hh.1 _ _ cG
  have nC2 : h2.Ns ce.locals m := ⟨oC, esC, epC, c2, hdC, rC⟩
  -- the ground without it
  obtain ⟨G', g1, g2⟩ := restrict G fun b => decide (b ≠ ce.locals)
  have gk : ∀ b, b ≠ ce.locals → G'.get? b = G.get? b := fun b hb => g1 b (decide_eq_true hb)
  have gC : G'.get? ce.locals = none := g2 _ (by simp)
  have gsub : ∀ b o, G'.get? b = some o → G.get? b = some o ∧ b ≠ ce.locals := by
    intro b o e
    by_cases hb : b = ce.locals
    · rw [hb, gC] at e
      cases e
    · exact ⟨(gk b hb).symm.trans e, hb⟩
  have gnone : ∀ b, G.get? b = none → G'.get? b = none := by
    intro b e
    cases q : G'.get? b with
    | none => rfl
    | some o =>
      rw [(gsub b o q).1] at e
      cases e
  have hh' : HandSPX.HeldZ G' (X.env :: X.outer) a (Zc cls d) X.env.locals h2 := by
    obtain ⟨k1, k2, k3, oe, vs, T, oT, ts, he, hz, hd, h1, hnT, r⟩ := hh
    refine ⟨fun b o e => k1 b o (gsub b o e).1, gnone _ k2, funFrames_none k3 fun L hL => gnone _ (k3.mem hL).1, oe, vs, T, oT, ts, he, hz, hd, h1, gnone _ hnT, r⟩
  refine ⟨m, nC2, ?_⟩
  intro h4 m4 hn4 hs4
  have h4' : HandSPX.HeldZ G' (X.env :: X.outer) a (Zc cls d) X.env.locals h4 := by
    obtain ⟨k1, k2, k3, k4⟩ := hh'
    exact ⟨fun b o e => (hs4.2 b (gsub b o e).2).trans (k1 b o e), k2, Heap.FunFrames.sameBut hs4 hn4 k3, tracedBut k4 nC2 hs4⟩
  unfold PySem.passOn
  obtain ⟨-, -, -, oe, vs, T, oT, ts, he, hz, hd, h1, r⟩ := id h4'
  refine wpAny_bind (wpAny_field he hd h1 ?_)
  rw [if_neg (show ¬ ((Value.ref T == Value.none) = true) from by simp)]
  have fin : wpAny (model X.prog X.w) X.A (setFlight (.ref a) ce.frame) (fun _ s5 => wpAny (model X.prog X.w) X.A (throw (.ref a) : Sem Value) (fun _ _ => False) X.xe s5) X.xe { s' with heap := h4 } := by
    rw [hcf, hf]
    refine HandSPX.setFlight_onZ h4' ?_
    intro h5 hh5 up5
    refine wpAny_throw (tk _ _ ?_)
    -- the state without the exception, back in the def's context
    obtain ⟨S, q1, q2⟩ := restrict G' fun b => (G'.get? b).isSome || decide (b ∈ frs X.stack)
    obtain ⟨R, r1, r2⟩ := restrict s'.heap fun b => (G'.get? b).isSome || decide (b ∈ frs X.stack)
    have fC : (decide (ce.locals ∈ frs X.stack)) = false := by
      rw [decide_eq_false]
      intro hb
      exact stX _ hb rfl
    have st : G.StaysIn s'.heap := fl.1
    have inG : ∀ b o, G'.get? b = some o → R.get? b = some o := by
      intro b o e
      rw [r1 b (by simp [e])]
      exact st b o (gsub b o e).1
    have inF : ∀ b, b ∈ frs X.stack → R.get? b = s'.heap.get? b := fun b hb => r1 b (by simp [hb])
    have out : ∀ b o, R.get? b = some o → s'.heap.get? b = some o ∧ ((G'.get? b).isSome = true ∨ b ∈ frs X.stack) := by
      intro b o e
      cases q : ((G'.get? b).isSome || decide (b ∈ frs X.stack)) with
      | false =>
        rw [r2 b q] at e
        cases e
      | true =>
        rw [r1 b q] at e
        exact ⟨e, by simpa [Bool.or_eq_true] using q⟩
    have okG' : HOk X.prog X.w H' G' := by
      intro b o q
      have nb : ∀ c, (c = b ∨ H' c = some (.own b)) → c ≠ ce.locals := by
        intro c hc z
        have nn : H' ce.locals = none := ub.free _ _ hoC cN
        rcases hc with hc | hc
        · rw [← hc, z, nn] at q
          cases q
        · rw [z, nn] at hc
          cases hc
      exact (hok b o q).stay (fun c v hc y => (gk c (nb c hc)).trans y) (fun _ y => y) fun _ _ y => y
    have below : ∀ b o, s3.heap.get? b = some o → b ≠ ce.locals := by
      intro b o e z
      have lt := Heap.lt_size e
      rw [z, hcl] at lt
      exact Nat.lt_irrefl _ lt
    have J : Inv X pins σ H' { s' with heap := R, os := s3.os } := by
      refine I3.call' (ch := fp) rfl ?_ (okG'.kept inG) ag ?_
      · constructor
        · intro b o e n hb hx
          exact inG b o ((gk b (below b o e)).trans (ub.keep b o (I1.base.keep b o e n hb hx) (I1.base.free b o e n hx) hb))
        · intro b o e n hb hx
          obtain ⟨sl, e1⟩ := I1.base.slot b o e n hb hx
          obtain ⟨sl2, e2⟩ := ub.slot b _ e1 hb
          exact ⟨sl2, by rw [inF b hb]; exact e2⟩
        · intro b o e n hx
          obtain ⟨o', e1⟩ := I1.base.there b o e hx
          exact ub.free b o' e1 (I1.base.free b o e n hx)
        · intro b o e hx
          obtain ⟨o', e1⟩ := I1.base.there b o e hx
          by_cases hb : b ∈ frs X.stack
          · obtain ⟨sl, q⟩ := ub.slot b o' e1 hb
            exact ⟨_, by rw [inF b hb]; exact q⟩
          · obtain ⟨o2, q⟩ := ub.there b o' e1 hb
            exact ⟨o2, inG b o2 ((gk b (below b o e)).trans q)⟩
        · intro b xs e
          exact ub.tups b xs (I1.base.tups b xs e)
        · intro b o v e
          exact ub.frzs b o v (I1.base.frzs b o v e)
        · intro b ps e
          obtain ⟨m1, e1⟩ := I1.base.tbls b ps e
          obtain ⟨m2, e2⟩ := ub.tbls b _ e1
          exact ⟨m1 ++ m2, by rw [e2, Array.append_assoc]⟩
      · intro b hb
        obtain ⟨f0, f1, f2, f3, f4, f5⟩ := hfp b hb
        exact ⟨f3, f1, f4, f5⟩
    have os' : s'.os = s3.os := os.trans I1.os
    refine ⟨a, G', { s' with heap := R, os := s3.os }, pins, σ, H', cls, d, rfl, J, ?_, ?_, Or.inr (Or.inr (by rw [hs]; exact hh5)), na, os', ag, hW _ _ _ hE⟩
    · intro b o e hb
      obtain ⟨e', h⟩ := out b o e
      rcases h with h | h
      · obtain ⟨o', q⟩ := Option.isSome_iff_exists.mp h
        have z := st b o' (gsub b o' q).1
        rw [e'] at z
        cases z
        exact q
      · exact absurd h hb
    · have neC : ∀ b o, R.get? b = some o → b ≠ ce.locals := by
        intro b o e z
        obtain ⟨_, h⟩ := out b o e
        rw [z] at h
        rcases h with h | h
        · rw [gC] at h
          cases h
        · exact stX _ h rfl
      intro b o e hnf
      obtain ⟨sl, e2⟩ := up2 b o (out b o e).1 hnf
      have e4 := (hs4.2 b (neC b o e)).trans e2
      obtain ⟨sl5, e5⟩ := up5 b _ (show ({ s' with heap := h4 } : Shared).heap.get? b = some _ from e4) hnf
      exact ⟨sl5, e5⟩
  first
    | exact fin
    | exact wpAny_bind fin
    | exact wpAny_bind (wpAny_pure (wpAny_bind fin))

theorem invWish' {X : Cx} {E : Value → Shared → Prop} {pins : List (Addr × Obj)} {σ : L2.St} {H : Hp} {s : Shared} (I : Inv ({ X with xe := E } : Cx) pins σ H s) : Inv X pins σ H s :=
  ⟨⟨I.ok.mod, I.ok.kind, I.ok.glob, I.ok.blt, I.ok.above, I.ok.inj, I.ok.has, I.ok.cab, I.ok.hd, I.ok.frames, I.ok.stk, I.ok.exf, I.ok.bs, I.ok.bsz, I.ok.noex, I.ok.exfs, I.ok.funs, I.ok.frf⟩, I.os, I.bare, I.base, I.loc, I.cell, I.free, I.freeC, I.pin, I.hok, I.len⟩
section
variable {X : Cx}
theorem lcX_core {pins : List (Addr × Obj)} {s : Shared} {σ : L2.St} {H : Hp} {Q : VK} {elt tg iter : Expr} {ifs : List Expr} {scope : Scope} {own : List (Str × Nat)} {pos pos' : Pos} {wi : TI} {g : TG} {tt : TT} {te : TE} {use : Option (Value → Sem Unit)} {Qf : Value → Shared → Prop}
    {E : XK} {W : WX} (hst : X.stack = X.env :: X.outer) (hfr : X.env.frame = some X.env.locals) (tk : Takes X W) (hW : ∀ cls d H, E cls d H → W cls d σ H)
    (hc : X.calm = true) (hN : X.N.Nodup) (I : Inv X pins σ H s) (hi : PI X tg iter wi) (ok : BlkOk X.N X.env.scope scope own)
    (hg : ∀ (s : Shared) (H : Hp) (C : Addr) (cl : List (Str × Addr)) (fp : List Addr) (xe : Value → Shared → Prop), PG (blkx X s H scope (compEnvC scope cl C X.env) fp xe) tg g)
    (ht : ∀ (s : Shared) (H : Hp) (C : Addr) (cl : List (Str × Addr)) (fp : List Addr) (xe : Value → Shared → Prop), PTs (blkx X s H scope (compEnvC scope cl C X.env) fp xe) ifs tt)
    (he : ∀ (s : Shared) (H : Hp) (C : Addr) (cl : List (Str × Addr)) (fp : List Addr) (xe : Value → Shared → Prop), Passes (L2.CX X.prog X.w) (blkx X s H scope (compEnvC scope cl C X.env) fp xe) E →
      PE (blkx X s H scope (compEnvC scope cl C X.env) fp xe) elt te) (hs : ∀ x, foldedSetIterable iter X.env x = pure x)
    (h : tLc wi g tt te (own.map (·.2)) σ H Q)
    (hRR : ∀ D (ce : Env) s' m H', Inv X pins σ H' s' → Q (.ref D) H' → s'.heap.Ns ce.locals m → FpOk X pins H' ce.locals → compEnds (model X.prog X.w) X.A X.xe use Qf (.ref D) ce (.ok .next) s') :
    wpAny (model X.prog X.w) X.A (comprehension (.ListComp elt [⟨tg, iter, ifs, 0⟩] scope pos) scope X.env pos' (newList []) false (eval iter X.env) use) Qf X.xe s := by
  have hfree : ∀ y ∈ scope.names, y.2 = .free → ∃ c, X.env.cells.lookup y.1 = some c := by
    intro y hy e
    rcases ok.free y hy e with k | k
    · exact I.ok.has _ (.inl k)
    · exact I.ok.has _ (.inr k)
  refine comprehension_at (use := use) rfl hs (closure_ok hfree) ok.kind (fun y hy e => by rw [ok.uniq y hy, e]) ?_
  refine thn (hi.run pins s σ H _ I h) ?_
  intro xv s1 hx
  refine thn hx ?_
  rintro itv s2 ⟨it, fp, tn, J, H2, e, I2, T, st2, f2, q⟩
  subst e
  refine wpAny_newObj_type (newEnv_comp ?_) (by show 0 ≤ sizeLine; decide)
  generalize hD : s2.heap.objs.size = D
  have hDn : H2 D = none := I2.hok.fresh (Nat.le_of_eq hD)
  obtain ⟨Wn, ⟨m0, w0⟩, turn⟩ := q D hDn
  generalize hs3 : ({ s2 with heap := s2.heap.push { cls := .type "list", data := .seq ([] : List Value).toArray } } : Shared) = s3
  have I3 : Inv X pins σ (upd H2 D (.lst [])) s3 := by
    rw [← hs3]
    refine I2.laid (t' := s2.toks) (fun b o e => Heap.get?_push_of_some _ e) (Nat.le_of_eq hD) ⟨Nat.zero_le _, [], 0, .nil, ?_⟩
    rw [← hD]
    exact Heap.get?_push_size _ rfl
  have h3 : s3.heap = s2.heap.push { cls := .type "list", data := .seq ([] : List Value).toArray } := by rw [← hs3]
  have sz : ∀ b ∈ fp, b < s2.heap.objs.size := by
    intro b hb
    obtain ⟨o, e, _⟩ := T.obj _ _ st2 b hb
    exact Heap.lt_size e
  have f3 : ∀ b ∈ fp, FpOk X pins (upd H2 D (.lst [])) b ∧ b < s3.heap.objs.size := by
    intro b hb
    have hlt := sz b hb
    refine ⟨⟨?_, (f2 b hb).2⟩, by rw [h3, Heap.size_push]; exact Nat.lt_succ_of_lt hlt⟩
    rw [upd_ne (by rw [← hD]; exact Nat.ne_of_lt hlt)]
    exact (f2 b hb).1
  have st3 : tn 0 s3.heap := T.keep _ _ _ st2 fun b _ o e => by rw [h3]; exact Heap.get?_push_of_some _ e
  have I4 := block_start I3 ok hN f3
  have nfp : ∀ b ∈ fp, (upd H2 D (.lst [])) b = none := fun b hb => (f3 b hb).1.1
  show codeAny _ _ (.compStart (.ListComp elt [⟨tg, iter, ifs, 0⟩] scope pos) 0 (.ref it) (.ref D) (compEnvC scope (cellsFrom (s3.heap.objs.size + 1) scope.names (cloFrom X.env.cells scope.names [])) s3.heap.objs.size X.env)) (compEnds (model X.prog X.w) X.A X.xe use Qf (.ref D) (compEnvC scope (cellsFrom (s3.heap.objs.size + 1) scope.names (cloFrom X.env.cells scope.names [])) s3.heap.objs.size X.env)) { s3 with heap := pushCells (s3.heap.push { cls := .type "dict", data := .dict #[] }) scope.names }
  have ces : ∃ ce, ce = compEnvC scope (cellsFrom (s3.heap.objs.size + 1) scope.names (cloFrom X.env.cells scope.names [])) s3.heap.objs.size X.env := ⟨_, rfl⟩
  obtain ⟨ce, hce⟩ := ces
  generalize hxe : notedBy (model X.prog X.w) X.A ce (CompFails (model X.prog X.w) X.A X.xe ce) = xe
  have pg := hg s3 (upd H2 D (.lst [])) s3.heap.objs.size (cellsFrom (s3.heap.objs.size + 1) scope.names (cloFrom X.env.cells scope.names [])) fp xe
  have pt := ht s3 (upd H2 D (.lst [])) s3.heap.objs.size (cellsFrom (s3.heap.objs.size + 1) scope.names (cloFrom X.env.cells scope.names [])) fp xe
  have pe := he s3 (upd H2 D (.lst [])) s3.heap.objs.size (cellsFrom (s3.heap.objs.size + 1) scope.names (cloFrom X.env.cells scope.names [])) fp xe
  rw [← hce] at I4 pg pt pe ⊢
  have cL : ce.locals = s3.heap.objs.size := by rw [hce]; rfl
  have cF : ce.frame = X.env.frame := by rw [hce]; rfl
  generalize hH3 : upd H2 D (.lst []) = H3 at I3 I4 pg pt pe w0 nfp f3
  have pss : Passes (L2.CX X.prog X.w) (blkx X s3 H3 scope ce fp xe) E := by
    intro pins1 σ1 H1 s1 e1 s1' J1 c1
    have z := blk_fail hst hfr tk hW cF cL I3 (fun b hb => (f3 b hb).1) J1 c1
    rw [hxe] at z
    exact z
  replace pe := pe pss
  generalize hs4 : ({ s3 with heap := pushCells (s3.heap.push { cls := .type "dict", data := .dict #[] }) scope.names } : Shared) = s4 at I4 ⊢
  have I4' : Inv (blkx X s3 H3 scope ce fp xe) [] (wipe σ (own.map (·.2))) H3 s4 := invWish I4
  have st4 : tn 0 s4.heap := T.keep _ _ _ st3 fun b _ o e => by rw [← hs4]; exact pushCells_keeps _ _ _ _ (Heap.get?_push_of_some _ e)
  have stat : ∀ {σ' : L2.St} {H' : Hp} {s' : Shared}, Inv (blkx X s3 H3 scope ce fp xe) [] σ' H' s' → (∀ b ∈ fp, H' b = none) → ∀ b ∈ fp, FpOk (blkx X s3 H3 scope ce fp xe) [] H' b := by
    intro σ' H' s' I' hn b hb
    exact ⟨hn b hb, (I'.ok.exf b hb).1, I'.ok.exfs b hb, .inl hb, fun x c e => (I'.ok.exf b hb).2 x c e, fun p hp => absurd (show p ∈ ([] : List (Addr × Obj)) ++ [] from hp) (by simp)⟩
  have loop : codeAny (model X.prog X.w) X.A (.compLoop (.ListComp elt [⟨tg, iter, ifs, 0⟩] scope pos) 0 (.ref it) (.ref D) ce) (compEnds (model X.prog X.w) X.A X.xe use Qf (.ref D) ce) s4 := by
    have errs : (fun e s' => compEnds (model X.prog X.w) X.A X.xe use Qf (.ref D) ce (.error e) s') = CompFails (model X.prog X.w) X.A X.xe ce := by
      funext e s'
      cases use <;> rfl
    refine compLoop_any (fun n s' => ∃ i H', Inv (blkx X s3 H3 scope ce fp xe) [] (wipe σ (own.map (·.2))) H' s' ∧ tn i s'.heap ∧ (∀ b ∈ fp, H' b = none) ∧ Wn i n H') ?_ m0 ⟨0, H3, I4', st4, nfp, w0⟩
    rw [errs, hxe]
    rintro n s5 ⟨i, H5, I5, st5, n5, w5⟩
    rcases turn i n H5 w5 with ⟨stop, qq⟩ | ⟨go, Nx, hNx, step⟩
    · have td := T.done (blkx X s3 H3 scope ce fp xe) rfl rfl rfl hc i [] s5 _ H5 (fun _ _ => False) I5 (stat I5 n5) st5 stop
      refine thnF td ?_
      rintro r s6 ⟨hr, I6⟩
      subst hr
      have I7 : Inv X pins σ H5 s6 := I3.call' (ch := fp) I6.os I6.base I6.hok I6.bare fun b hb => ⟨(f3 b hb).1.2.2.2.1, (f3 b hb).1.2.1, (f3 b hb).1.2.2.2.2.1, (f3 b hb).1.2.2.2.2.2⟩
      have nC : H5 ce.locals = none := I6.free
      obtain ⟨m, hn, _⟩ := I6.loc
      exact hRR D ce s6 m H5 I7 qq hn (by rw [cL] at nC ⊢; exact I3.fpOk (Nat.le_refl _) nC)
    · have ti := T.item (blkx X s3 H3 scope ce fp xe) rfl rfl rfl hc i [] s5 _ H5 xe I5 (stat I5 n5) st5 go
      refine thn ti ?_
      rintro r s6 ⟨u, hr, h6⟩
      subst hr
      refine thn h6 ?_
      rintro _ s7 ⟨x, H7, I7, r7, y7, st7, n7⟩
      have I7' := I7.pinned (stat I7 n7) (T.obj _ _ st7)
      refine thn (pg.run _ s7 _ H7 x u _ I7' r7 (step x H7 y7)) ?_
      rintro _ s8 ⟨σ8, H8, I8, hw8, q8⟩
      refine thn (pt.run _ s8 σ8 H8 _ I8 q8) ?_
      rintro b s9 ⟨H9, I9, q9⟩
      have fin : ∀ {s' : Shared} {H' : Hp}, Inv (blkx X s3 H3 scope ce fp xe) ([] ++ pinsAt fp s7.heap) σ8 H' s' → Nx H' → ∃ m, m < n ∧ ∃ i H', Inv (blkx X s3 H3 scope ce fp xe) [] (wipe σ (own.map (·.2))) H' s' ∧ tn i s'.heap ∧ (∀ b ∈ fp, H' b = none) ∧ Wn i m H' := by
        intro s' H' I' nx
        obtain ⟨m', hm, w'⟩ := hNx H' nx
        have pin' : ∀ b ∈ fp, ∀ o, s7.heap.get? b = some o → s'.heap.get? b = some o ∧ H' b = none := fun b hb o e =>
          let z := I'.pin (b, o) (List.mem_append_right _ (List.mem_append_right _ (mem_pinsAt hb e)))
          ⟨z.1, z.2.1⟩
        have hl : (wipe σ (own.map (·.2))).length = σ8.length := by rw [← hw8, wipe_length]
        refine ⟨m', hm, i + 1, H', (I'.unpinned (pins := [])).weak hl ?_, T.keep _ _ _ st7 fun b hb o e => (pin' b hb o e).1, ?_, w'⟩
        · intro j v e
          rw [← hw8] at e
          exact (wipe_some e).1
        · intro b hb
          obtain ⟨o, e, _⟩ := T.obj _ _ st7 b hb
          exact (pin' b hb o e).2
      cases b with
      | false =>
        simp only [Bool.false_eq_true, if_false] at q9 ⊢
        exact fin I9 q9
      | true =>
        simp only [if_true] at q9 ⊢
        refine thn (pe.run _ s9 σ8 H9 _ I9 q9) ?_
        rintro z s10 ⟨yv, H10, I10, r10, acc, hD10, hz10, nx⟩
        exact app_ok (X := blkx X s3 H3 scope ce fp xe) I10 hD10 hz10 r10 fun s11 I11 => fin I11 nx
  exact codeAny_compStart_list loop (T.self X.A 0 _ _ _ st4 loop)
/-- [elt for target in iter if ..], where calls in elt may let out what E says -/
theorem pe_lcX {elt tg iter : Expr} {ifs : List Expr} {scope : Scope} {own : List (Str × Nat)} {pos : Pos} {wi : TI} {g : TG} {tt : TT} {te : TE} {E : XK} {W : WX}
    (hst : X.stack = X.env :: X.outer) (hfr : X.env.frame = some X.env.locals) (tk : Takes X W) (hW : ∀ cls d σ H, E cls d H → W cls d σ H)
    (hc : X.calm = true) (hN : X.N.Nodup) (hi : PI X tg iter wi) (ok : BlkOk X.N X.env.scope scope own)
    (hg : ∀ (s : Shared) (H : Hp) (C : Addr) (cl : List (Str × Addr)) (fp : List Addr) (xe : Value → Shared → Prop), PG (blkx X s H scope (compEnvC scope cl C X.env) fp xe) tg g)
    (ht : ∀ (s : Shared) (H : Hp) (C : Addr) (cl : List (Str × Addr)) (fp : List Addr) (xe : Value → Shared → Prop), PTs (blkx X s H scope (compEnvC scope cl C X.env) fp xe) ifs tt)
    (he : ∀ (s : Shared) (H : Hp) (C : Addr) (cl : List (Str × Addr)) (fp : List Addr) (xe : Value → Shared → Prop), Passes (L2.CX X.prog X.w) (blkx X s H scope (compEnvC scope cl C X.env) fp xe) E →
      PE (blkx X s H scope (compEnvC scope cl C X.env) fp xe) elt te) (hs : ∀ x, foldedSetIterable iter X.env x = pure x := by intro _; rfl) :
    PE X (.ListComp elt [⟨tg, iter, ifs, 0⟩] scope pos) (tLc wi g tt te (own.map (·.2))) := by
  constructor
  intro pins s σ H Q I h
  rw [eval_ListComp]
  refine lcX_core (use := none) hst hfr tk (fun cls d H => hW cls d σ H) hc hN I hi ok hg ht he hs h ?_
  intro D ce s' m H' I' q hn f
  refine ⟨m, hn, ?_⟩
  intro h'' sb
  obtain ⟨f0, f1, f2, f3, f4, f5⟩ := f
  exact ⟨.ref D, H', I'.turned (t' := s'.toks) (fun b o hb e => (sb.2 b hb).trans e) f0 f1 f3 f4 f5, rfl, q⟩
end
end W8

/-! W8, part 5: rules that HandS lacks: either of two rules, repr of data, swapcase, enumerate over a tuple, a star among targets. -/
namespace W8
open PySem PySem.Spec PyProof.Rows L2

/-! ### one of two rules -/
section
variable {X : Cx}
theorem orOp {f : Value → Value → Sem Value} {r r' : R2} (h : OpR X f r) (h' : OpR X f r') : OpR X f (fun x y H Q => r x y H Q ∨ r' x y H Q) := by
  intro pins s σ H x y v u Q I rx ry q
  rcases q with q | q
  · exact h pins s σ H x y v u Q I rx ry q
  · exact h' pins s σ H x y v u Q I rx ry q
theorem orCall {f : Value} {r r' : List V → Hp → VK → Prop} (h : CallR X f r) (h' : CallR X f r') : CallR X f (fun xs H Q => r xs H Q ∨ r' xs H Q) := by
  intro pins s σ H xs us Q I rx q
  rcases q with q | q
  · exact h pins s σ H xs us Q I rx q
  · exact h' pins s σ H xs us Q I rx q
theorem orPI {tg e : Expr} {w w' : TI} (h : PI X tg e w) (h' : PI X tg e w') : PI X tg e (fun σ H R => w σ H R ∨ w' σ H R) := by
  constructor
  intro pins s σ H R I q
  rcases q with q | q
  · exact h.run pins s σ H R I q
  · exact h'.run pins s σ H R I q
end

/-! ### data: how it stays, how it is shown -/
theorem sqT_same {K : PySem.W.Frag} {H H' : Hp} {a : Addr} {xs : List V} (e : Same H H') (h : SqT K H a xs) : SqT K H' a xs := by
  rcases h with (h | ⟨o, h⟩) | h
  · exact .inl (.inl (e _ _ h))
  · exact .inl (.inr ⟨o, e _ _ h⟩)
  · exact .inr h
mutual
theorem Dp_same {K : PySem.W.Frag} {H H' : Hp} (e : Same H H') : ∀ (d : PyData) (v : V), Dp K H v d → Dp K H' v d
  | .none, _, .non => .non
  | .bool b, _, .bl _ => .bl b
  | .int i, _, .int _ => .int i
  | .str x, _, .str _ => .str x
  | .list ds, _, .lst hs ha => .lst (e.seq hs) (DpAll_same e ds _ ha)
  | .tuple ds, _, .tup hs ha => .tup (sqT_same e hs) (DpAll_same e ds _ ha)
theorem DpAll_same {K : PySem.W.Frag} {H H' : Hp} (e : Same H H') : ∀ (ds : List PyData) (vs : List V), DpAll K H vs ds → DpAll K H' vs ds
  | [], _, .nil => .nil
  | d :: ds, _, .cons h r => .cons (Dp_same e d _ h) (DpAll_same e ds _ r)
end
mutual
theorem Dp_nodict {K : PySem.W.Frag} {H : Hp} : ∀ (d : PyData) (v : V), Dp K H v d → d.hasDict = false
  | .none, _, .non => rfl
  | .bool b, _, .bl _ => rfl
  | .int i, _, .int _ => rfl
  | .str x, _, .str _ => rfl
  | .list ds, _, .lst hs ha => by
    show PyData.hasDictAll ds = false
    exact DpAll_nodict ds _ ha
  | .tuple ds, _, .tup hs ha => by
    show PyData.hasDictAll ds = false
    exact DpAll_nodict ds _ ha
theorem DpAll_nodict {K : PySem.W.Frag} {H : Hp} : ∀ (ds : List PyData) (vs : List V), DpAll K H vs ds → PyData.hasDictAll ds = false
  | [], _, .nil => rfl
  | d :: ds, _, .cons h r => by
    show (d.hasDict || PyData.hasDictAll ds) = false
    rw [Dp_nodict d _ h, DpAll_nodict ds _ r]
    rfl
end
theorem DpAll_len {K : PySem.W.Frag} {H : Hp} : ∀ {vs : List V} {ds : List PyData}, DpAll K H vs ds → vs.length = ds.length
  | _, _, .nil => rfl
  | _, _, .cons _ r => congrArg Nat.succ (DpAll_len r)
theorem DpAll_map {K : PySem.W.Frag} {H : Hp} {α : Type} {f : α → V} {g : α → PyData} (h : ∀ a, Dp K H (f a) (g a)) : ∀ l : List α, DpAll K H (l.map f) (l.map g)
  | [] => .nil
  | a :: l => .cons (h a) (DpAll_map h l)
theorem DpAll_append {K : PySem.W.Frag} {H : Hp} : ∀ {vs ws : List V} {ds es : List PyData}, DpAll K H vs ds → DpAll K H ws es → DpAll K H (vs ++ ws) (ds ++ es)
  | _, _, _, _, .nil, h => h
  | _, _, _, _, .cons h r, h' => .cons h (DpAll_append r h')
theorem DpAll_at {K : PySem.W.Frag} {H : Hp} : ∀ {vs : List V} {ds : List PyData} {i : Nat} {v : V}, DpAll K H vs ds → vs[i]? = some v → ∃ d, ds[i]? = some d ∧ Dp K H v d
  | _, _, _, _, .nil, e => by simp at e
  | _, _, 0, _, .cons h _, e => by
    simp at e
    subst e
    exact ⟨_, rfl, h⟩
  | _, _, i + 1, _, .cons _ r, e => by
    obtain ⟨d, h1, h2⟩ := DpAll_at (i := i) r (by simpa using e)
    exact ⟨d, by simpa using h1, h2⟩
section
variable {X : Cx} {pins : List (Addr × Obj)} {σ : L2.St} {H : Hp} {s : Shared}
theorem emp_at (I : Inv X pins σ H s) {a : Addr} (h : H a = some (.dK [])) : (a == sysModules) = false ∧ ∃ o n, s.heap.get? a = some o ∧ o.cls = .type "dict" ∧ o.data = .dict #[] n := by
  obtain ⟨_, hsm, vs, kv, o, es, ep, hg, hx, hd, hk, hp, hn⟩ : ObjOk X.prog X.w H s.heap a (.dK []) := I.hok a _ h
  cases kv
  refine ⟨hsm, o, ep, hg, hx.1, ?_⟩
  have e : es = #[] := by
    obtain ⟨l⟩ := es
    cases l with
    | nil => rfl
    | cons b r => cases hp
  rw [hd, e]
/-- repr(x): x data, or the empty dict -/
def rRepr (K : PySem.W.Frag) : List V → Hp → VK → Prop := fun xs H Q => ∃ x d, xs = [x] ∧ (Dp K H x d ∨ (d = .dict [] ∧ ∃ a, x = .ref a ∧ H a = some (.dK []))) ∧ d.showable = true ∧ d.depth ≤ 60 ∧ d.shown.length ≤ sizeLine ∧ Q (.str d.shown) H
theorem call_repr {k : Nat} (hr : RG k X.A) : CallR X (.builtin "repr") (rRepr X.K) := by
  intro pins s σ H xs us Q I r h
  obtain ⟨x, d, rfl, hx, hs, hd, hz, q⟩ := h
  cases r with
  | cons r rr =>
    cases rr
    rename_i u
    have hu := hr.r.units
    have done : ∀ h' u' tk, (∀ b o, s.heap.get? b = some o → h'.get? b = some o) → EP X pins σ Q (.str d.shown u') { s with heap := h', toks := tk } := fun h' u' tk hk => ⟨.str d.shown, H, I.kept (t' := tk) hk, ⟨_, rfl⟩, q⟩
    have byRef : ∀ (a : Addr) (as : List Addr), u = .ref a → Reads s.heap u d as → (d.hasDict = true → sysModules ∉ as) → wpAny (model X.prog X.w) X.A (call (.builtin "repr") [u]) (EP X pins σ Q) X.xe s := by
      intro a as eu hrd hsm
      subst eu
      exact repr_of_reads' hrd hs hsm hr.g (by omega) (fun _ _ e => e) done hz
    rcases hx with hx | ⟨rfl, a, rfl, ha⟩
    · obtain ⟨as, hrd⟩ := Dp.reads I d _ u hx r
      have nod : d.hasDict = true → sysModules ∉ as := by
        rw [Dp_nodict d _ hx]
        intro z
        cases z
      cases hx with
      | non =>
        obtain rfl : u = .none := r
        exact PySem.P.repr_of_none ⟨.str _, H, I.tok _, ⟨_, rfl⟩, q⟩
      | bl b =>
        obtain rfl : u = .bool b := r
        exact PySem.P.repr_of_bool ⟨.str _, H, I.tok _, ⟨_, rfl⟩, q⟩
      | int i =>
        obtain ⟨t, rfl⟩ := r
        exact PySem.P.repr_of_int (of_decide_eq_true hs) ⟨.str _, H, I.tok _, ⟨_, rfl⟩, q⟩
      | str x =>
        obtain ⟨t, rfl⟩ := r
        exact PySem.P.repr_of_str ⟨.str _, H, I.tok _, ⟨_, rfl⟩, q⟩ hz
      | lst h1 h2 =>
        have eu := r
        exact byRef _ as eu hrd nod
      | tup h1 h2 =>
        have eu := r
        exact byRef _ as eu hrd nod
    · obtain rfl : u = .ref a := r
      obtain ⟨hsm, o, n, ho, hc, hd'⟩ := emp_at I ha
      refine byRef a _ rfl (Reads.dict (kvs := []) ho hc hd' .nil .nil) (fun _ hm => ?_)
      have e : sysModules = a := by simpa using hm
      rw [← e] at hsm
      simp at hsm

/-! ### texts -/
theorem mt_swapcase : MtR X "str.swapcase" (fun x xs H Q => ∃ a, x = .str a ∧ xs = [] ∧ a.length ≤ 5592405 ∧ Q (.str (Txt.swapcase a)) H) :=
  mt0 (C := fun a => a.length ≤ 5592405) (g := fun a => .str (Txt.swapcase a)) fun a _ s _ hc h =>
    PySem.SC.swapcase (PyProof.Rows.fit_swapcase hc) (h _ (s.toks + 1) ⟨_, rfl⟩)
end

/-! ### enumerate over a tuple -/
set_option maxHeartbeats 1000000 in
theorem newEnumT (t : Addr) (items : Array Value) :
    Meets (Builtin.«enumerate.__new__» ⟨[.type "enumerate", .ref t], []⟩) (fun _ R s => s.heap.IsTuple t items ∧
      R (.ok (.ret (.ref (s.heap.push { cls := .type "tuple_iterator", data := .fields #[.ref t, .int 0 0] }).objs.size)))
        { s with heap := (s.heap.push { cls := .type "tuple_iterator", data := .fields #[.ref t, .int 0 0] }).push { cls := .type "enumerate", data := .fields #[.none, .bool false, .ref s.heap.objs.size, rawInt 0, .none, .none] } }) :=
  .of_wp fun prog w A R s h => by
    obtain ⟨hp, g, d, tk, os⟩ := s
    obtain ⟨h1, h⟩ := h
    have hsub := sub_enumerate
    obtain ⟨o, ho, hc, hd⟩ := id h1
    have q1 : ∀ {A' : Around} {E : Value → Shared → Prop} {Q : Value → Shared → Prop}, Q (.ref hp.objs.size) ⟨hp.push { cls := .type "tuple_iterator", data := .fields #[.ref t, .int 0 0] }, g, d, tk, os⟩ → wpAny (model prog w) A' (pyIter (.ref t)) Q E ⟨hp, g, d, tk, os⟩ :=
      fun q => wpAny_pyIter_tuple h1 q
    wp_walk using q1
    refine wpAny_stack_any fun st => wpAny_pure ?_
    split
    · rename_i c _ _ _ _ _
      cases (c == Value.type "enumerate")
      · wp_walk using q1
        exact ⟨_, rfl, h⟩
      · wp_walk using q1
        exact ⟨_, rfl, h⟩
    · wp_walk using q1
      exact ⟨_, rfl, h⟩
theorem callEnumT {prog : Program} {w : World} {A : Around} {E : Value → Shared → Prop} {s : Shared} {t : Addr} {items : Array Value} {Q : Value → Shared → Prop} (ht : s.heap.IsTuple t items)
    (h : ∀ h', IsEnum h' (s.heap.objs.size + 1) s.heap.objs.size 0 .none → h'.IsTupleIter s.heap.objs.size t 0 → h'.objs.size = s.heap.objs.size + 2 →
      (∀ b o, s.heap.get? b = some o → h'.get? b = some o) → Q (.ref (s.heap.objs.size + 1)) { s with heap := h' }) :
    wpAny (model prog w) A (call (.type "enumerate") [.ref t]) Q E s := by
  refine callType_new F.called_enumerate (by decide) (F.typeCall_enumerate_1 _) (F.newCall_enumerate_1 _) (fun obj => F.args_object_init_2 obj _) F.entry_enumerate_new
    (newEnumT t items) ⟨ht, ?_⟩
  have hz : (s.heap.push { cls := .type "tuple_iterator", data := .fields #[.ref t, .int 0 0] }).objs.size = s.heap.objs.size + 1 := Heap.size_push ..
  show _ ∧ _
  rw [hz]
  have he : IsEnum ((s.heap.push { cls := .type "tuple_iterator", data := .fields #[.ref t, .int 0 0] }).push
      { cls := .type "enumerate", data := .fields #[.none, .bool false, .ref s.heap.objs.size, rawInt 0, .none, .none] }) (s.heap.objs.size + 1) s.heap.objs.size 0 .none := by
    have z := Heap.get?_push_size (s.heap.push { cls := .type "tuple_iterator", data := .fields #[.ref t, .int 0 0] })
      (o := { cls := .type "enumerate", data := .fields #[.none, .bool false, .ref s.heap.objs.size, rawInt 0, .none, .none] }) rfl
    rw [hz] at z
    exact z
  refine ⟨⟨_, he, rfl⟩, h _ he ⟨_, Heap.get?_push_of_some _ (Heap.get?_push_size _ rfl), rfl, rfl⟩ (by rw [Heap.size_push, hz]) fun b o x => Heap.get?_push_of_some _ (Heap.get?_push_of_some _ x)⟩
/-- the tuple at a, each item in a new pair -/
def Itet (K : PySem.W.Frag) (a : Addr) : It :=
  ⟨fun i H => ∃ (xs : List V) (x : V), SqT K H a xs ∧ xs[i]? = some x, fun i H v H' => ∃ T x, v = .ref T ∧ H T = none ∧ H' = upd H T (.tup [.int (i : Nat), x]) ∧ ∀ xs, SqT K H a xs → xs[i]? = some x, fun i H => ∃ xs : List V, SqT K H a xs ∧ xs.length = i⟩
theorem turn_enumT {P : Program} {w : World} {K : PySem.W.Frag} {elts : List Expr} {kk : Nat} {tpos : Pos} (a e it : Addr) :
    Turn P w K (.Tuple elts kk tpos) (Itet K a) [e, it] e (fun i h => (∃ old, IsEnum h e it ((i : Nat) : Int) old) ∧ h.IsTupleIter it a i ∧ e ≠ it ∧ a ≠ it ∧ a ≠ e) where
  mem := by simp
  obj := by
    rintro i h ⟨⟨old, he⟩, ⟨o, ho, hc, hd⟩, _⟩ b hb
    have e' : b = e ∨ b = it := by simpa using hb
    rcases e' with z | z
    · rw [z]
      exact ⟨_, he, fun v q => nomatch q⟩
    · rw [z]
      exact ⟨o, ho, fun v q => by rw [hd] at q; cases q⟩
  keep := by
    rintro i h h' ⟨⟨old, he⟩, hi, r⟩ k
    exact ⟨⟨old, k e (by simp) _ he⟩, hi.at fun o q => k it (by simp) o q, r⟩
  item := by
    intro X hP hw hK hc i pins s σ H E I hf st hg
    subst hP hw hK
    obtain ⟨⟨old, he⟩, hit, hne, hai, hae⟩ := st
    obtain ⟨xs, x, hq, hx⟩ := hg
    obtain ⟨its, rv, p, hz⟩ := I.tuple hq
    obtain ⟨u, hu, ru⟩ := rv.get hx
    have hel : e < s.heap.objs.size := Heap.lt_size he
    have hil : it < s.heap.objs.size := by
      obtain ⟨_, q, _⟩ := hit
      exact Heap.lt_size q
    have D := PySem.Draws.tuple (prog := X.prog) (w := X.w) (A := X.A.in1) (I.ok.hd hc) it a hai its.toArray
    refine wpAny_pyNext_enum_itemD D he (i := i) ⟨hit, p⟩ (by have z := (List.getElem?_eq_some_iff.mp hu).1; simpa using z) hne (by simp [hne, Ne.symm hae]) ?_
    intro y h' tk hy ho hst hT hsz hk
    obtain rfl : y = u := by
      have z : its.toArray[i]? = some y := hy
      rw [List.getElem?_toArray, hu] at z
      exact (Option.some.inj z).symm
    refine ⟨_, rfl, wpAny_letOwnedTupleGo_enum (s := { s with heap := h', toks := tk + 1 }) ho ?_⟩
    intro h'' he' sb
    have hT2 : h''.get? s.heap.objs.size = some { cls := .type "tuple", data := .seq #[.int i tk, y] } := (sb.2 _ (Nat.ne_of_gt hel)).trans hT
    have new : ObjOk X.prog X.w (upd H s.heap.objs.size (.tup [.int (i : Nat), x])) h'' s.heap.objs.size (.tup [.int (i : Nat), x]) :=
      ⟨by show 2 ≤ sizeLine; decide, [.int i tk, y], .cons ⟨_, rfl⟩ (.cons ru .nil), ⟨_, hT2, rfl, _, rfl⟩⟩
    have I1 : Inv X pins σ (upd H s.heap.objs.size (.tup [.int (i : Nat), x])) { s with heap := h'', toks := tk + 1 } :=
      I.turnedNew (ch := [e, it]) (fun b ob hb q => (sb.2 b (fun z => hb (by simp [z]))).trans (hk b ob (fun z => hb (by simp [z])) (fun z => hb (by simp [z])) q)) hf (Nat.le_refl _) new
    refine ⟨.ref s.heap.objs.size, _, I1, rfl, ⟨_, x, rfl, I.hok.fresh (Nat.le_refl _), rfl, fun ys hy => by rw [I.tuple_inj hy hq]; exact hx⟩, ⟨⟨y, ?_⟩, hst.1.at fun o q => (sb.2 it (Ne.symm hne)).trans q, hne, hai, hae⟩, ?_⟩
    · have e1 : ((i + 1 : Nat) : Int) = (i : Int) + 1 := by omega
      rw [e1]
      exact he'
    · intro b hb
      have hb' : b < s.heap.objs.size := by
        have e' : b = e ∨ b = it := by simpa using hb
        rcases e' with z | z
        · rw [z]
          exact hel
        · rw [z]
          exact hil
      rw [upd_ne (Nat.ne_of_lt hb')]
      exact (hf b hb).1
  done := by
    intro X hP hw hK hc i pins s σ H E I hf st hg
    subst hP hw hK
    obtain ⟨⟨old, he⟩, hit, hne, hai, hae⟩ := st
    obtain ⟨xs, hq, hx⟩ := hg
    obtain ⟨its, rv, p, hz⟩ := I.tuple hq
    obtain ⟨f0, f1, f2, f3, f4, f5⟩ := hf it (by simp)
    have hl := rv.length
    have D := PySem.Draws.tuple (prog := X.prog) (w := X.w) (A := X.A.in1) (I.ok.hd hc) it a hai its.toArray
    obtain rfl : i = its.toArray.size := by
      rw [List.size_toArray, ← hx]
      omega
    exact wpAny_pyNext_enum_endD D he ⟨hit, p⟩ fun h' eb => ⟨rfl, I.turned (t' := s.toks) (fun b o hb q => eb b o hb q) f0 f1 f3 f4 f5⟩
  self := by
    rintro A i s Q E ⟨⟨_, he⟩, _⟩ h
    exact wpAny_pyIter_enum he h
def iEnumT (K : PySem.W.Frag) (ta : TA) : TI := fun σ H R => ta σ H fun vs H1 => ∃ a xs, vs = [.ref a] ∧ SqT K H1 a xs ∧ R (Itet K a) H1
theorem pi_enumT {X : Cx} {e : Expr} {ta : TA} {p pos tpos : Pos} {elts : List Expr} {kk : Nat} (hg : Gl X "enumerate") (hm : X.mg "enumerate" = none) (ha : PA X [e] ta) (hs : starEach [e] X.env = [(false, eval e X.env)] := by rfl) :
    PI X (.Tuple elts kk tpos) (.Call (.Name "enumerate" p) [e] [] pos) (iEnumT X.K ta) := by
  refine ⟨fun pins s σ H R I h => ?_⟩
  refine Call_ (ld_blt I hg hm boot_enumerate (PyProof.Rows.callWith_type1 (thn (ha.run pos pins s σ H _ I h) fun us s1 ⟨vs, H1, I1, r1, q1⟩ => ?_) hs rfl))
  obtain ⟨a, xs, ex, hq, q⟩ := q1
  subst ex
  cases r1 with
  | cons r rr =>
    cases rr
    cases r
    obtain ⟨its, rv, p', hz⟩ := I1.tuple hq
    have hlt : a < s1.heap.objs.size := by
      obtain ⟨o, z, _⟩ := id p'
      exact Heap.lt_size z
    refine callEnumT p' fun h' he hit hsz hk => wpAny_pyIter_enum he ?_
    have I2 : Inv X pins σ H1 { s1 with heap := h' } := I1.kept (t' := s1.toks) hk
    refine ⟨s1.heap.objs.size + 1, [s1.heap.objs.size + 1, s1.heap.objs.size], _, _, H1, rfl, I2, turn_enumT a (s1.heap.objs.size + 1) s1.heap.objs.size, ⟨⟨.none, he⟩, hit, Nat.succ_ne_self _, Nat.ne_of_lt hlt, Nat.ne_of_lt (Nat.lt_succ_of_lt hlt)⟩, fun b hb => ?_, q⟩
    have e' : b = s1.heap.objs.size + 1 ∨ b = s1.heap.objs.size := by simpa using hb
    have hle : s1.heap.objs.size ≤ b := by
      rcases e' with z | z
      · rw [z]; exact Nat.le_add_right _ _
      · rw [z]; exact Nat.le_refl _
    exact I1.fpOk hle (I1.hok.fresh hle)
end W8

/-! W8, part 6: the law's end for promises FnG; a hook whose facts are told by a Bool of one's own. -/
namespace W8
open PySem PySem.Spec PyProof.Rows L2

/-! ### the law's end -/
theorem lawG {P : Program} {w : World} {K : PySem.W.Frag} {mg mb : Str → Option Value} {k : Nat} {fa a : Addr} {fd : FuncData} {x : Str} {sp : Sp} {st : Shared} {us : List Value} {zs : List Int}
    (KX : K.In st.heap) (hmain : st.heap.Ns mainGlobals mg) (hblt : st.heap.Ns builtinsNs mb) (hboot : ∀ y : Str, y ≠ "__name__" → mb y = bootBuiltins y) (hnl : st.heap.NoLimit) (hgen : st.gens = #[])
    (hlist : st.heap.get? a = some { cls := .type "list", data := .seq us.toArray }) (hints : IntsAre us zs) (hlen : zs.length ≤ sizeLine) (hroom : RG k callerA)
    (hF : ∀ base : Heap, K.In base → base.Ns mainGlobals mg → FnG P w K mg base k fa fd [x] sp) (hbind : ∀ (s : Shared) (u : Value), BindsTo s fd ⟨[u], []⟩ [(x, u)])
    (hsp : ∀ H : Hp, SqL K H a (zs.map V.int) → sp [.ref a] H (fun v _ => v = .bl true) fun _ _ _ => False) :
    codeAny (model P w) callerA (.call (.ref fa) ⟨[.ref a], []⟩) (fun r s' => r = .ok (.ret (.bool true)) ∧ OldK st.heap s'.heap ∧ s'.os = st.os ∧ AllBare s'.gens) st := by
  have rel := vals_ints hints
  have sz := hints.length
  have main : ∀ H : Hp, (∀ b, H b = none ∨ ∃ ob xs, H b = some (.frz ob xs)) → SqL K H a (zs.map V.int) → HOk P w H st.heap → (∀ b, H b ≠ none → b = a) → (H a ≠ none → K.lookup a = none) →
      codeAny (model P w) callerA (.call (.ref fa) ⟨[.ref a], []⟩) (fun r s' => r = .ok (.ret (.bool true)) ∧ OldK st.heap s'.heap ∧ s'.os = st.os ∧ AllBare s'.gens) st := by
    intro H only hS hok oneA freeA
    have nothing : ∀ {b : Addr} {o : Obj} {d : Array DictEntry} {n : Nat}, st.heap.get? b = some o → o.data = .dict d n → H b = none := by
      intro b o d n e ed
      by_cases hz : H b = none
      · exact hz
      · rw [oneA b hz, hlist] at e
        cases e
        cases (show Data.seq us.toArray _ = Data.dict d n from ed)
    have space : ∀ {b : Addr} {m : Str → Option Value}, st.heap.Ns b m → (hidT st.heap H).Ns b m := by
      rintro b m ⟨o, d, n, e, ed, r⟩
      exact ⟨o, d, n, hidT_get e (nothing e ed), ed, r⟩
    have KB : K.In (hidT st.heap H) := by
      intro b o e
      refine hidT_get (KX b o e) ?_
      by_cases hz : H b = none
      · exact hz
      · have eb := oneA b hz
        rw [eb] at hz e
        rw [freeA hz] at e
        cases e
    have noLim : (hidT st.heap H).NoLimit := by
      obtain ⟨mc, q1, q2⟩ := hnl
      exact ⟨mc, space q1, q2⟩
    have env : Env0 P w K mg (hidT st.heap H) callerA [] st H :=
      ⟨rfl, ⟨KB, space hmain, ⟨mb, space hblt, hboot⟩, noLim⟩, fun b o e => of_hidT e, Nat.le_of_eq (hidT_size _ _), trivial, fun b hb => (List.not_mem_nil hb).elim, hok, .of_eq hgen⟩
    have ran := (hF _ KB (space hmain)).run callerA [] st H ⟨[.ref a], []⟩ [.ref a] [.ref a] _ _ hroom env (hbind st (.ref a)) (.cons rfl .nil) (hsp H hS)
    refine codeAny_mono ran ?_
    intro r s' q
    match r, q with
    | .error e, q =>
      obtain ⟨_, _, _, _, _, _, _, _, _, _, _, _, z⟩ := q
      exact z.elim
    | .ok .next, q => exact q.elim
    | .ok .brk, q => exact q.elim
    | .ok .cont, q => exact q.elim
    | .ok (.ret u), ⟨v, H', os, bare, un, hok', rv, ev⟩ =>
      subst ev
      obtain rfl : u = Value.bool true := rv
      refine ⟨rfl, OldK.of_keep fun b o e => ?_, os, bare⟩
      by_cases hz : H b = none
      · exact un.keep b o e hz (fun z => (List.not_mem_nil z).elim) (by simp)
      · rcases only b with z | ⟨ob, xs, z⟩
        · exact absurd z hz
        · have e1 := (hok b _ z).1
          have e2 := (hok' b _ (un.frzs b ob _ z)).1
          rw [e] at e1
          rw [e1]
          exact e2
  by_cases hk : K.lookup a = none
  · have at_ : ∀ b, b = a → (fun b => if b = a then some (HO.frz { cls := .type "list", data := .seq us.toArray } (.lst (zs.map V.int))) else none : Hp) b = some (.frz { cls := .type "list", data := .seq us.toArray } (.lst (zs.map V.int))) := fun b hb => if_pos hb
    have no_ : ∀ b, b ≠ a → (fun b => if b = a then some (HO.frz { cls := .type "list", data := .seq us.toArray } (.lst (zs.map V.int))) else none : Hp) b = none := fun b hb => if_neg hb
    refine main (fun b => if b = a then some (.frz { cls := .type "list", data := .seq us.toArray } (.lst (zs.map V.int))) else none) (fun b => ?_) (.inl (.inr ⟨_, at_ a rfl⟩)) (fun b u z => ?_) (fun b z => ?_) (fun _ => hk)
    · by_cases hb : b = a
      · exact .inr ⟨_, _, at_ b hb⟩
      · exact .inl (no_ b hb)
    · by_cases hb : b = a
      · have q := (at_ b hb).symm.trans z
        cases q
        rw [hb]
        exact ⟨hlist, by rw [List.length_map]; exact hlen, us, _, rel, hlist⟩
      · have q := (no_ b hb).symm.trans z
        cases q
    · by_cases hb : b = a
      · exact hb
      · exact absurd (no_ b hb) z
  · obtain ⟨o, e⟩ := Option.ne_none_iff_exists'.mp hk
    have e2 := KX a o e
    rw [hlist] at e2
    cases e2
    refine main (fun _ => none) (fun _ => .inl rfl) (.inr ⟨_, us.toArray, _, e, rfl, rfl, rfl, by rw [List.size_toArray, sz]; exact hlen, by simpa using rel⟩) (fun b u z => ?_) (fun b z => absurd rfl z) (fun z => absurd rfl z)
    cases (show (none : Option HO) = some u from z)
theorem roomC : RG 100 callerA := ⟨⟨rfl, by decide, by decide⟩, rfl⟩
theorem walkG {l : PySem.W.OpenLaw} {n k : Nat} {q : Program} {loose : List Str} {XP : (Str → Option Value) → Heap → Prop} {YP : World → Heap → Prop} {d : DefRec} {x : Str}
    (hn : l.most = some n) (hn2 : n ≤ sizeLine) (hdf : d.params.defaults = []) (hr : RG k callerA)
    (F : ∀ (w : World) (mg : Str → Option Value) (fa : Addr) (h : Heap), YP w h → h.Ns mainGlobals mg → mg d.name = some (.ref fa) →
      ∃ (K : PySem.W.Frag) (fd : FuncData) (sp : Sp), K.In h ∧ (∀ (s : Shared) (u : Value), BindsTo s fd ⟨[u], []⟩ [(x, u)]) ∧
        (∀ (H : Hp) (a : Addr) (ns : List Int), ns.length ≤ n → SqL K H a (ns.map V.int) → sp [.ref a] H (fun v _ => v = .bl true) fun _ _ _ => False) ∧
        ∀ base : Heap, K.In base → base.Ns mainGlobals mg → FnG l.prog w K mg base k fa fd [x] sp) :
    PySem.W.WalkO q loose XP YP l.row.toRowW d [] (fun f vs => PySem.call f vs) := by
  refine Att.attach_call hn hdf fun w s₀ s₁ mg mb fa o pm cd doc a vs ns G Y ho hd hcd hmg hobj hints hlen hg => ?_
  obtain ⟨K, fd, sp, KX, hb, hsp, hF⟩ := F w mg fa _ Y G.T.g hmg
  exact lawG KX G.T.g G.T.b G.T.builtins G.T.nolimit hg hobj hints (Nat.le_trans hlen hn2) hr hF hb fun H hS => hsp H a ns hlen hS

/-! ### facts about exception classes, by a Bool of K -/
/-- C is a class of excClassObj's form, its tail ends in tl -/
def xcB (K : PySem.W.Frag) (newId : String) (tl : List Value) (C : Addr) : Bool := (match K.lookup C with
  | some ⟨.type t, _, .cls cd, sl⟩ => (match cd.mro, sl.toList with
    | .ref C' :: bm, [_, _, _, _, some (.builtin n), _] => decide (t = "type") && (decide (C' = C) && (decide (n = newId) && (cd.hasDict && (!cd.hasDel && ownT tl bm))))
    | _, _ => false)
  | _ => false) && (He.eqO (PySem.W.findIn K (.ref C) "__setattr__") (some (some (.builtin "object.__setattr__"))) && (decide (PySem.W.subIn K (.ref C) (.type "BaseException") = some true) &&
    (decide (PySem.W.typeIn K (.ref C) = some (.type "type")) && PySem.W.keepIn K (.ref C))))
theorem xcB_ok {K : PySem.W.Frag} {newId : String} {tl : List Value} {C : Addr} (h : xcB K newId tl C = true) : XC K newId tl C := by
  obtain ⟨h1, h⟩ := He.ba h
  obtain ⟨h2, h⟩ := He.ba h
  obtain ⟨h3, h⟩ := He.ba h
  obtain ⟨h4, h5⟩ := He.ba h
  refine ⟨?_, He.eqO_ok h2, of_decide_eq_true h3, of_decide_eq_true h4, h5⟩
  split at h1
  · rename_i t dd cd sl hl
    split at h1
    · rename_i C' bm k0 k1 k2 k3 n k5 hm hs
      obtain ⟨g1, h1⟩ := He.ba h1
      obtain ⟨g2, h1⟩ := He.ba h1
      obtain ⟨g3, h1⟩ := He.ba h1
      obtain ⟨g4, h1⟩ := He.ba h1
      obtain ⟨g5, g6⟩ := He.ba h1
      have e1 : t = "type" := of_decide_eq_true g1
      have e2 : C' = C := of_decide_eq_true g2
      have e3 : n = newId := of_decide_eq_true g3
      subst e1 e2 e3
      obtain ⟨nm, bs, mro, ns, qn, hd, sn, sub, ab, col, del⟩ := cd
      dsimp only at hm g4 g5
      subst hm g4
      have g7 : del = false := by
        cases del with
        | false => rfl
        | true => cases g5
      subst g7
      have hsl : sl = #[k0, k1, k2, k3, some (.builtin n), k5] := by
        obtain ⟨l⟩ := sl
        simp only at hs
        rw [hs]
      subst hsl
      exact ⟨nm, qn, ns, bs, bm, sn, sub, ab, col, dd, k0, k1, k2, k3, k5, hl, g6⟩
    · cases h1
  · cases h1
/-- the class called x, its field f, the builtin base's __new__ and tail -/
def exB (K : PySem.W.Frag) (newId : String) (tl : List Value) (x f : Str) : Bool := He.eqO (PySem.W.nsIn K mainGlobals x) (some (some (.ref (He.ga K x)))) && (xcB K newId tl (He.ga K x) &&
  (He.eqO (PySem.W.findIn K (.ref (He.ga K x)) "__getattribute__") (some (some (.builtin "BaseException.__getattribute__"))) && (He.eqO (PySem.W.findIn K (.ref (He.ga K x)) "__getattr__") (some none) &&
    (PySem.W.hasDictIn K (He.ga K x) && He.eqO (PySem.W.findIn K (.ref (He.ga K x)) f) (some none)))))
theorem exB_ok {K : PySem.W.Frag} {newId : String} {tl : List Value} {x f : Str} {h : Heap} {mg : Str → Option Value} (X : K.In h) (G : h.Ns mainGlobals mg) (q : exB K newId tl x f = true) : EX K mg newId tl x f (He.ga K x) := by
  obtain ⟨q1, q⟩ := He.ba q
  obtain ⟨q2, q⟩ := He.ba q
  obtain ⟨q3, q⟩ := He.ba q
  obtain ⟨q4, q⟩ := He.ba q
  obtain ⟨q5, q6⟩ := He.ba q
  exact ⟨He.glo_ok X G q1, xcB_ok q2, He.eqO_ok q3, He.eqO_ok q4, q5, He.eqO_ok q6⟩
/-- its own __init__ -/
def iniB (K : PySem.W.Frag) (x : Str) : Bool := He.eqO (PySem.W.findIn K (.ref (He.ga K x)) "__init__") (some (some (.ref (He.ma K (He.ga K x) "__init__")))) && decide (PySem.W.typeIn K (.ref (He.ma K (He.ga K x) "__init__")) = some (.type "function"))
theorem iniB_ok {K : PySem.W.Frag} {x : Str} (q : iniB K x = true) : PySem.W.findIn K (.ref (He.ga K x)) "__init__" = some (some (.ref (He.ma K (He.ga K x) "__init__"))) ∧ PySem.W.typeIn K (.ref (He.ma K (He.ga K x) "__init__")) = some (.type "function") := by
  obtain ⟨q1, q2⟩ := He.ba q
  exact ⟨He.eqO_ok q1, of_decide_eq_true q2⟩
/-- what a class gives for __init__ is the builtin itself -/
def cvB (r : Option PySem.W.CFound) (i : String) : Bool := match r with
  | some (.val (.builtin j)) => decide (j = i)
  | _ => false
theorem cvB_ok {r : Option PySem.W.CFound} {i : String} (h : cvB r i = true) : r = some (.val (.builtin i)) := by
  unfold cvB at h
  split at h
  · rw [of_decide_eq_true h]
  · cases h
/-- what a base's name stands for: a builtin class, or a class of the text -/
def bnB (K : PySem.W.Frag) (bn : Str) (T : Option String) (initId : String) : Bool := match T with
  | some T => He.eqO (PySem.W.nsIn K mainGlobals bn) (some none) && cvB (PySem.W.findCls K (.type T) (.type "type") "__init__") initId
  | none => He.eqO (PySem.W.nsIn K mainGlobals bn) (some (some (.ref (He.ga K bn)))) && (He.eqO (PySem.W.specialIn K (.ref (He.ga K bn)) "__getattribute__") (some (some (.builtin "type.__getattribute__"))) &&
    (PySem.W.readsIn K (He.ga K bn) (.type "type") && cvB (PySem.W.findCls K (.ref (He.ga K bn)) (.type "type") "__init__") initId))
theorem bnB_own {K : PySem.W.Frag} {bn : Str} {initId : String} {h : Heap} {mg : Str → Option Value} (X : K.In h) (G : h.Ns mainGlobals mg) (q : bnB K bn none initId = true) : BaseN K mg bn initId := by
  obtain ⟨q1, q⟩ := He.ba q
  obtain ⟨q2, q⟩ := He.ba q
  obtain ⟨q3, q4⟩ := He.ba q
  exact .own (He.ga K bn) (He.glo_ok X G q1) (He.eqO_ok q2) q3 (cvB_ok q4)
theorem bnB_blt {K : PySem.W.Frag} {bn : Str} {T initId : String} {h : Heap} {mg : Str → Option Value} (X : K.In h) (G : h.Ns mainGlobals mg) (q : bnB K bn (some T) initId = true)
    (hv : bootBuiltins bn = some (.type T)) (hn : bn ≠ "__name__") (ht : typeOf (.type T) = pure (.type "type")) (hs : Manifest.isStub T = false) : BaseN K mg bn initId := by
  obtain ⟨q1, q2⟩ := He.ba q
  exact .blt T (He.free_ok X G q1) hv hn ht hs (cvB_ok q2)

/-! ### the hook: He's facts, and a Bool of one's own -/
/-- what an object names that the facts read -/
def refsW (o : Obj) : List Addr := match o.data with
  | .dict es _ => es.toList.flatMap fun e => He.refV e.val
  | .func fd => He.refV fd.code ++ (He.refV fd.defaults ++ He.refV fd.kwdefaults)
  | .cls cd => [cd.ns]
  | .seq its _ => its.toList.flatMap He.refV
  | _ => []
def nextW (g : Addr → Option Obj) (as : List Addr) : List Addr := as.flatMap fun a => match g a with
  | some o => refsW o
  | none => []
/-- n steps behind these -/
def goW (g : Addr → Option Obj) : Nat → List Addr → List Addr
  | 0, as => as
  | n + 1, as => as ++ goW g n (nextW g as)
def asW (g : Addr → Option Obj) (n : Nat) : List Addr := cStatics :: goW g n [mainGlobals]
/-- K of a heap -/
abbrev frW (g : Addr → Option Obj) (n : Nat) : PySem.W.Frag := He.frG g (asW g n)
abbrev AlW : Type := (Bool × Bool) × List He.AlD
/-- He's facts and a Bool of one's own -/
def obA (n : Nat) (fa : List He.Fa) (ex : PySem.W.Frag → Bool) (g : Addr → Option Obj) : Bool × Bool := (fa.all fun f => f.ok (frW g n), ex (frW g n))
/-- the defs, some at a time -/
def obF (n : Nat) (g : Addr → Option Obj) (fn : List He.DefD) : He.AlD := He.obsD [] fn (frW g n)
def obsW (n : Nat) (fa : List He.Fa) (fns : List (List He.DefD)) (ex : PySem.W.Frag → Bool) (g : Addr → Option Obj) : AlW := (obA n fa ex g, fns.map (obF n g))
structure SaysW (fa : List He.Fa) (fns : List (List He.DefD)) (ex : PySem.W.Frag → Bool) (K : PySem.W.Frag) : Prop where
  f : ∀ f ∈ fa, f.ok K = true
  e : ex K = true
  d : ∀ fn ∈ fns, He.SaysD [] fn K
def hookW (n : Nat) (fa : List He.Fa) (fns : List (List He.DefD)) (ex : PySem.W.Frag → Bool) : PySem.W.Hook where
  α := AlW
  obs := fun s => obsW n fa fns ex s.heap.get?
  val := fun _ => ((true, true), fns.map He.valD)
  says := fun _ h => ∃ K : PySem.W.Frag, K.In h ∧ SaysW fa fns ex K
  of := fun _ h e => ⟨frW _ n, He.frG_in, by
    have e1 : obA n fa ex _ = (true, true) := congrArg (fun z : AlW => z.1) e
    have e2 : fns.map (obF n _) = fns.map He.valD := congrArg (fun z : AlW => z.2) e
    exact ⟨List.all_eq_true.mp (congrArg (fun z : Bool × Bool => z.1) e1), congrArg (fun z : Bool × Bool => z.2) e1, fun fn hf => List.map_inj_left.mp e2 fn hf⟩⟩
  keeps := fun _ _ _ ⟨K, hK, c⟩ k => ⟨K, PySem.W.Frag.In.keeps hK k, c⟩
theorem obsW_eq {n : Nat} {fa : List He.Fa} {fns : List (List He.DefD)} {ex : PySem.W.Frag → Bool} {g : Addr → Option Obj} {s : Shared} (h : ∀ a, g a = s.heap.get? a) : obsW n fa fns ex g = (hookW n fa fns ex).obs s := by
  have e : g = s.heap.get? := funext h
  rw [e] <;> rfl
/-- the run, told in parts -/
theorem run_parts {S β γ δ ζ : Type} {o : Option S} {a : S → β} {b : S → γ} {x : β} {y : γ} {c : S → δ} {z : δ} {fns : List ζ} {F : S → ζ → He.AlD} {V : ζ → He.AlD} (h0 : o.map (fun s => (a s, b s)) = some (x, y)) (h1 : o.map c = some z)
    (h2 : ∀ fn ∈ fns, o.map (fun s => F s fn) = some (V fn)) : o.map (fun s => (a s, b s, (c s, fns.map (F s)))) = some (x, y, (z, fns.map V)) := by
  cases o with
  | none => cases h0
  | some s =>
    have e0 := Option.some.inj h0
    have e1 : c s = z := Option.some.inj h1
    have e2 : fns.map (F s) = fns.map V := List.map_inj_left.mpr fun fn hf => Option.some.inj (h2 fn hf)
    show some (a s, b s, (c s, fns.map (F s))) = _
    rw [e1, e2, (Prod.mk.inj e0).1, (Prod.mk.inj e0).2]
noncomputable abbrev FRun (R : PySem.W.OpenRow) (M : Nat) (w : World) (os : OsState) : Option PySem.W.SharedT := HandSHeadRun.endF (HandSHeadRun.stepQ (HandSHeadRun.denQ HandSHeadRun.tabQ) R.prog w) M R.prog w os
theorem runW {R : PySem.W.OpenRow} {q : Program} {M n : Nat} {ls : List PySem.Str} {w : World} {fa : List He.Fa} {fns : List (List He.DefD)} {ex : PySem.W.Frag → Bool}
    (h0 : ∀ os, (FRun R M w os).map (fun s => (HandSHeadRun.looksF R.prog (PySem.W.boot_heap w.params) s.abs, HandSHeadRun.seenQ q ls (importedModules R.prog.main.body) (fun s => PySem.W.xlAt q [] s && PySem.W.recOk R.toRowW.records s) s.abs)) = some (true, PySem.W.openGood q ls))
    (h1 : ∀ os, (FRun R M w os).map (fun s => obA n fa ex (HandSHeadRun.getT s)) = some (true, true))
    (h2 : ∀ os, ∀ fn ∈ fns, (FRun R M w os).map (fun s => obF n (HandSHeadRun.getT s) fn) = some (He.valD fn)) :
    HandSHeadRun.RunEq R q (hookW n fa fns ex) (fun s => obsW n fa fns ex (HandSHeadRun.getT s)) M ls w := fun os => run_parts (h0 os) (h1 os) (h2 os)

/-- the keyword-only default x of the def at f, if it is an object -/
def kwAt (f : Str × Option Str) (x : Str) (K : PySem.W.Frag) : Addr := match K.lookup (He.fAd K f) with
  | some ⟨_, _, .func fd, _⟩ => (match fd.kwdefaults with
    | .ref D => (match PySem.W.nsIn K D x with
      | some (some (.ref a)) => a
      | _ => 0)
    | _ => 0)
  | _ => 0

/-- an empty tuple of the module's own -/
def tup0B (K : PySem.W.Frag) (a : Addr) : Bool := match K.lookup a with
  | some ⟨.type c, _, .seq its _, _⟩ => decide (c = "tuple") && its.isEmpty
  | _ => false
theorem tup0_ok {K : PySem.W.Frag} {a : Addr} (h : tup0B K a = true) (H : Hp) : SqT K H a [] := by
  unfold tup0B at h
  cases q : K.lookup a with
  | none =>
    rw [q] at h
    cases h
  | some o =>
    obtain ⟨oc, od, dt, osl⟩ := o
    rw [q] at h
    cases oc with
    | type c =>
      cases dt with
      | seq its n =>
        obtain ⟨h1, h2⟩ := He.ba (show (decide (c = "tuple") && its.isEmpty) = true from h)
        have e : its = #[] := Array.isEmpty_iff.mp h2
        subst e
        exact .inr ⟨_, #[], n, q, congrArg Value.type (of_decide_eq_true h1), rfl, Nat.zero_le _, .nil⟩
      | _ => cases h
    | _ => cases dt <;> cases h

/-! ### facts for the walks -/
def fdAt (K : PySem.W.Frag) (a : Addr) : FuncData := match K.lookup a with
  | some ⟨_, _, .func fd, _⟩ => fd
  | _ => default
theorem fdAt_of {K : PySem.W.Frag} {x qual : Str} {params : Arguments} {body : List Stmt} {scope : Scope} {dvs : List V} {kws : List (Str × V)} {f : Addr} {fd : FuncData} (F : FunD K x qual params body scope dvs kws f fd) : FunD K x qual params body scope dvs kws f (fdAt K f) := by
  have e : fdAt K f = fd := by
    obtain ⟨_, _, _, _, _, _, _, _, _, _, rfl, lk, _⟩ := F.ex
    unfold fdAt
    rw [lk]
  rw [e]
  exact F
/-- the module's facts, for a walk -/
structure Md (fa : List He.Fa) (fns : List (List He.DefD)) (ex : PySem.W.Frag → Bool) (P : Program) (w : World) (K : PySem.W.Frag) (mg : Str → Option Value) (base : Heap) : Prop where
  X : K.In base
  G : base.Ns mainGlobals mg
  S : SaysW fa fns ex K
abbrev FunDD (K : PySem.W.Frag) (d : He.DefD) : Prop := FunD K d.name d.qual d.params d.body d.scope (d.dvs K) (d.kws K) (He.fAd K d.at_) (fdAt K (He.fAd K d.at_))
section
variable {fa : List He.Fa} {fns : List (List He.DefD)} {ex : PySem.W.Frag → Bool} {P : Program} {w : World} {K : PySem.W.Frag} {mg : Str → Option Value} {base : Heap}
theorem Md.fact (c : Md fa fns ex P w K mg base) (i : Nat) {f : He.Fa} (h : fa[i]? = some f) : f.ok K = true := c.S.f f (List.mem_of_getElem? h)
theorem Md.glo (c : Md fa fns ex P w K mg base) (i : Nat) {x : Str} (h : fa[i]? = some (.glo x)) : mg x = some (.ref (He.ga K x)) := He.glo_ok c.X c.G (c.fact i h)
theorem Md.free (c : Md fa fns ex P w K mg base) (i : Nat) {x : Str} (h : fa[i]? = some (.free x)) : mg x = none := He.free_ok c.X c.G (c.fact i h)
theorem Md.def_ (c : Md fa fns ex P w K mg base) (j i : Nat) {fn : List He.DefD} {d : He.DefD} (hj : fns[j]? = some fn) (h : fn[i]? = some d) : FunDD K d := by
  obtain ⟨fd, F⟩ := (c.S.d fn (List.mem_of_getElem? hj)).def_ i h
  exact fdAt_of F
end
/-- a module's constant -/
theorem pe_gint {X : Cx} {x : Str} {i : Int} {pos : Pos} (hg : Gl X x) (h : ∃ t, X.mg x = some (.int i t)) (hd : (x == ("__debug__" : Str)) = false := by decide) : PE X (.Name x pos) (tC (.int i)) := by
  obtain ⟨t, h⟩ := h
  exact pe_glob hg h ⟨t, rfl⟩ hd
theorem pe_gstr {X : Cx} {x z : Str} {pos : Pos} (hg : Gl X x) (h : ∃ t, X.mg x = some (.str z t)) (hd : (x == ("__debug__" : Str)) = false := by decide) : PE X (.Name x pos) (tC (.str z)) := by
  obtain ⟨t, h⟩ := h
  exact pe_glob hg h ⟨t, rfl⟩ hd
end W8

namespace W8
open PySem PySem.Spec PyProof.Rows L2
abbrev tp (i : Nat) : Stmt := PySem.Challenge.pw_walkshome_k79_generator_errors_everywher.main.body.getD i (.Pass ⟨0, 0, 0, 0⟩)
abbrev s_wall : Stmt := tp 0
def dd_wall : He.DefD := ⟨("_wall", none), "_wall", "_wall", defArgs s_wall, defBody s_wall, defScope s_wall, [], []⟩
abbrev s_InvalidPath_init : Stmt := inClass (tp 3) 0
def dd_InvalidPath_init : He.DefD := ⟨("InvalidPath", some "__init__"), "__init__", "InvalidPath.__init__", defArgs s_InvalidPath_init, defBody s_InvalidPath_init, defScope s_InvalidPath_init, [], []⟩
abbrev s_InvalidPaths_init : Stmt := inClass (tp 4) 0
def dd_InvalidPaths_init : He.DefD := ⟨("InvalidPaths", some "__init__"), "__init__", "InvalidPaths.__init__", defArgs s_InvalidPaths_init, defBody s_InvalidPaths_init, defScope s_InvalidPaths_init, [], []⟩
abbrev s_InvalidNumber_init : Stmt := inClass (tp 5) 0
def dd_InvalidNumber_init : He.DefD := ⟨("InvalidNumber", some "__init__"), "__init__", "InvalidNumber.__init__", defArgs s_InvalidNumber_init, defBody s_InvalidNumber_init, defScope s_InvalidNumber_init, [], []⟩
abbrev s_InvalidGraph_init : Stmt := inClass (tp 6) 0
def dd_InvalidGraph_init : He.DefD := ⟨("InvalidGraph", some "__init__"), "__init__", "InvalidGraph.__init__", defArgs s_InvalidGraph_init, defBody s_InvalidGraph_init, defScope s_InvalidGraph_init, [], []⟩
abbrev s_InvalidDerivation_init : Stmt := inClass (tp 7) 0
def dd_InvalidDerivation_init : He.DefD := ⟨("InvalidDerivation", some "__init__"), "__init__", "InvalidDerivation.__init__", defArgs s_InvalidDerivation_init, defBody s_InvalidDerivation_init, defScope s_InvalidDerivation_init, [], []⟩
abbrev s_InvalidNode_init : Stmt := inClass (tp 8) 0
def dd_InvalidNode_init : He.DefD := ⟨("InvalidNode", some "__init__"), "__init__", "InvalidNode.__init__", defArgs s_InvalidNode_init, defBody s_InvalidNode_init, defScope s_InvalidNode_init, [], []⟩
abbrev s_InvalidFold_init : Stmt := inClass (tp 9) 0
def dd_InvalidFold_init : He.DefD := ⟨("InvalidFold", some "__init__"), "__init__", "InvalidFold.__init__", defArgs s_InvalidFold_init, defBody s_InvalidFold_init, defScope s_InvalidFold_init, [], []⟩
abbrev s_LimitExceeded_init : Stmt := inClass (tp 10) 0
def dd_LimitExceeded_init : He.DefD := ⟨("LimitExceeded", some "__init__"), "__init__", "LimitExceeded.__init__", defArgs s_LimitExceeded_init, defBody s_LimitExceeded_init, defScope s_LimitExceeded_init, [], []⟩
abbrev s_NotFolded_init : Stmt := inClass (tp 11) 0
def dd_NotFolded_init : He.DefD := ⟨("NotFolded", some "__init__"), "__init__", "NotFolded.__init__", defArgs s_NotFolded_init, defBody s_NotFolded_init, defScope s_NotFolded_init, [], []⟩
abbrev s_Conflict_init : Stmt := inClass (tp 12) 0
def dd_Conflict_init : He.DefD := ⟨("Conflict", some "__init__"), "__init__", "Conflict.__init__", defArgs s_Conflict_init, defBody s_Conflict_init, defScope s_Conflict_init, [], []⟩
abbrev s_is_integer : Stmt := tp 18
def dd_is_integer : He.DefD := ⟨("is_integer", none), "is_integer", "is_integer", defArgs s_is_integer, defBody s_is_integer, defScope s_is_integer, [], []⟩
abbrev s_is_path : Stmt := tp 19
def dd_is_path : He.DefD := ⟨("is_path", none), "is_path", "is_path", defArgs s_is_path, defBody s_is_path, defScope s_is_path, [], []⟩
abbrev s_require_path : Stmt := tp 20
def dd_require_path : He.DefD := ⟨("require_path", none), "require_path", "require_path", defArgs s_require_path, defBody s_require_path, defScope s_require_path, [], []⟩
abbrev s_reduce_all : Stmt := tp 21
def dd_reduce_all : He.DefD := ⟨("reduce_all", none), "reduce_all", "reduce_all", defArgs s_reduce_all, defBody s_reduce_all, defScope s_reduce_all, [], []⟩
abbrev s_inverted : Stmt := tp 22
def dd_inverted : He.DefD := ⟨("inverted", none), "inverted", "inverted", defArgs s_inverted, defBody s_inverted, defScope s_inverted, [], []⟩
abbrev s_reduced : Stmt := tp 23
def dd_reduced : He.DefD := ⟨("reduced", none), "reduced", "reduced", defArgs s_reduced, defBody s_reduced, defScope s_reduced, [], []⟩
abbrev s_require_paths : Stmt := tp 24
def dd_require_paths : He.DefD := ⟨("require_paths", none), "require_paths", "require_paths", defArgs s_require_paths, defBody s_require_paths, defScope s_require_paths, [], []⟩
abbrev s_split_core : Stmt := tp 25
def dd_split_core : He.DefD := ⟨("split_core", none), "split_core", "split_core", defArgs s_split_core, defBody s_split_core, defScope s_split_core, [], []⟩
abbrev s_reduced_generator : Stmt := tp 26
def dd_reduced_generator : He.DefD := ⟨("reduced_generator", none), "reduced_generator", "reduced_generator", defArgs s_reduced_generator, defBody s_reduced_generator, defScope s_reduced_generator, [], []⟩
abbrev s_reduced_generators : Stmt := tp 27
def dd_reduced_generators : He.DefD := ⟨("reduced_generators", none), "reduced_generators", "reduced_generators", defArgs s_reduced_generators, defBody s_reduced_generators, defScope s_reduced_generators, [], []⟩
abbrev s_Graph_init : Stmt := inClass (tp 31) 0
def dd_Graph_init : He.DefD := ⟨("Graph", some "__init__"), "__init__", "Graph.__init__", defArgs s_Graph_init, defBody s_Graph_init, defScope s_Graph_init, [.int 1, .adr (He.dflAt ("Graph", some "__init__") 1)], []⟩
abbrev s_Graph_has_node : Stmt := inClass (tp 31) 1
def dd_Graph_has_node : He.DefD := ⟨("Graph", some "has_node"), "has_node", "Graph.has_node", defArgs s_Graph_has_node, defBody s_Graph_has_node, defScope s_Graph_has_node, [], []⟩
abbrev s_Graph_accepts : Stmt := inClass (tp 31) 2
def dd_Graph_accepts : He.DefD := ⟨("Graph", some "accepts"), "accepts", "Graph.accepts", defArgs s_Graph_accepts, defBody s_Graph_accepts, defScope s_Graph_accepts, [], []⟩
abbrev s_Graph_size : Stmt := inClass (tp 31) 3
def dd_Graph_size : He.DefD := ⟨("Graph", some "size"), "size", "Graph.size", defArgs s_Graph_size, defBody s_Graph_size, defScope s_Graph_size, [], []⟩
abbrev s_Graph_edges : Stmt := inClass (tp 31) 4
def dd_Graph_edges : He.DefD := ⟨("Graph", some "edges"), "edges", "Graph.edges", defArgs s_Graph_edges, defBody s_Graph_edges, defScope s_Graph_edges, [], []⟩
abbrev s_Graph_follow : Stmt := inClass (tp 31) 5
def dd_Graph_follow : He.DefD := ⟨("Graph", some "follow"), "follow", "Graph.follow", defArgs s_Graph_follow, defBody s_Graph_follow, defScope s_Graph_follow, [], []⟩
abbrev s_Graph_target : Stmt := inClass (tp 31) 6
def dd_Graph_target : He.DefD := ⟨("Graph", some "target"), "target", "Graph.target", defArgs s_Graph_target, defBody s_Graph_target, defScope s_Graph_target, [], []⟩
abbrev s_Graph_missing : Stmt := inClass (tp 31) 7
def dd_Graph_missing : He.DefD := ⟨("Graph", some "missing"), "missing", "Graph.missing", defArgs s_Graph_missing, defBody s_Graph_missing, defScope s_Graph_missing, [], []⟩
abbrev s_Graph_is_complete : Stmt := inClass (tp 31) 8
def dd_Graph_is_complete : He.DefD := ⟨("Graph", some "is_complete"), "is_complete", "Graph.is_complete", defArgs s_Graph_is_complete, defBody s_Graph_is_complete, defScope s_Graph_is_complete, [], []⟩
abbrev s_Graph_eq : Stmt := inClass (tp 31) 9
def dd_Graph_eq : He.DefD := ⟨("Graph", some "__eq__"), "__eq__", "Graph.__eq__", defArgs s_Graph_eq, defBody s_Graph_eq, defScope s_Graph_eq, [], []⟩
abbrev s_Graph_len : Stmt := inClass (tp 31) 10
def dd_Graph_len : He.DefD := ⟨("Graph", some "__len__"), "__len__", "Graph.__len__", defArgs s_Graph_len, defBody s_Graph_len, defScope s_Graph_len, [], []⟩
abbrev s_Graph_repr : Stmt := inClass (tp 31) 11
def dd_Graph_repr : He.DefD := ⟨("Graph", some "__repr__"), "__repr__", "Graph.__repr__", defArgs s_Graph_repr, defBody s_Graph_repr, defScope s_Graph_repr, [], []⟩
abbrev s_require_graph : Stmt := tp 33
def dd_require_graph : He.DefD := ⟨("require_graph", none), "require_graph", "require_graph", defArgs s_require_graph, defBody s_require_graph, defScope s_require_graph, [], []⟩
abbrev s_visited : Stmt := tp 34
def dd_visited : He.DefD := ⟨("visited", none), "visited", "visited", defArgs s_visited, defBody s_visited, defScope s_visited, [], []⟩
abbrev s_last_node : Stmt := tp 35
def dd_last_node : He.DefD := ⟨("last_node", none), "last_node", "last_node", defArgs s_last_node, defBody s_last_node, defScope s_last_node, [], []⟩
abbrev s_breadth_first_numbers : Stmt := tp 36
def dd_breadth_first_numbers : He.DefD := ⟨("breadth_first_numbers", none), "breadth_first_numbers", "breadth_first_numbers", defArgs s_breadth_first_numbers, defBody s_breadth_first_numbers, defScope s_breadth_first_numbers, [], []⟩
abbrev s_canonical_graph : Stmt := tp 37
def dd_canonical_graph : He.DefD := ⟨("canonical_graph", none), "canonical_graph", "canonical_graph", defArgs s_canonical_graph, defBody s_canonical_graph, defScope s_canonical_graph, [], []⟩
abbrev s_missing_edges : Stmt := tp 39
def dd_missing_edges : He.DefD := ⟨("missing_edges", none), "missing_edges", "missing_edges", defArgs s_missing_edges, defBody s_missing_edges, defScope s_missing_edges, [], []⟩
abbrev s_completed : Stmt := tp 40
def dd_completed : He.DefD := ⟨("completed", none), "completed", "completed", defArgs s_completed, defBody s_completed, defScope s_completed, [], []⟩
abbrev s_extend_by : Stmt := tp 41
def dd_extend_by : He.DefD := ⟨("extend_by", none), "extend_by", "extend_by", defArgs s_extend_by, defBody s_extend_by, defScope s_extend_by, [], []⟩
abbrev s_initial_edges : Stmt := tp 43
def dd_initial_edges : He.DefD := ⟨("initial_edges", none), "initial_edges", "initial_edges", defArgs s_initial_edges, defBody s_initial_edges, defScope s_initial_edges, [], []⟩
abbrev s_Folding_init : Stmt := inClass (tp 44) 0
def dd_Folding_init : He.DefD := ⟨("Folding", some "__init__"), "__init__", "Folding.__init__", defArgs s_Folding_init, defBody s_Folding_init, defScope s_Folding_init, [], []⟩
abbrev s_Folding_start : Stmt := inClass (tp 44) 1
def dd_Folding_start : He.DefD := ⟨("Folding", some "start"), "start", "Folding.start", defArgs s_Folding_start, defBody s_Folding_start, defScope s_Folding_start, [], []⟩
abbrev s_Folding_add_edge : Stmt := inClass (tp 44) 2
def dd_Folding_add_edge : He.DefD := ⟨("Folding", some "add_edge"), "add_edge", "Folding.add_edge", defArgs s_Folding_add_edge, defBody s_Folding_add_edge, defScope s_Folding_add_edge, [], []⟩
abbrev s_Folding_nodes : Stmt := inClass (tp 44) 3
def dd_Folding_nodes : He.DefD := ⟨("Folding", some "nodes"), "nodes", "Folding.nodes", defArgs s_Folding_nodes, defBody s_Folding_nodes, defScope s_Folding_nodes, [], []⟩
abbrev s_Folding_edges : Stmt := inClass (tp 44) 4
def dd_Folding_edges : He.DefD := ⟨("Folding", some "edges"), "edges", "Folding.edges", defArgs s_Folding_edges, defBody s_Folding_edges, defScope s_Folding_edges, [], []⟩
abbrev s_Folding_pairs : Stmt := inClass (tp 44) 5
def dd_Folding_pairs : He.DefD := ⟨("Folding", some "pairs"), "pairs", "Folding.pairs", defArgs s_Folding_pairs, defBody s_Folding_pairs, defScope s_Folding_pairs, [], []⟩
abbrev s_Folding_is_folded : Stmt := inClass (tp 44) 6
def dd_Folding_is_folded : He.DefD := ⟨("Folding", some "is_folded"), "is_folded", "Folding.is_folded", defArgs s_Folding_is_folded, defBody s_Folding_is_folded, defScope s_Folding_is_folded, [], []⟩
abbrev s_Folding_fold : Stmt := inClass (tp 44) 7
def dd_Folding_fold : He.DefD := ⟨("Folding", some "fold"), "fold", "Folding.fold", defArgs s_Folding_fold, defBody s_Folding_fold, defScope s_Folding_fold, [], []⟩
abbrev s_Folding_merge : Stmt := inClass (tp 44) 8
def dd_Folding_merge : He.DefD := ⟨("Folding", some "merge"), "merge", "Folding.merge", defArgs s_Folding_merge, defBody s_Folding_merge, defScope s_Folding_merge, [], []⟩
abbrev s_Folding_fold_everything : Stmt := inClass (tp 44) 9
def dd_Folding_fold_everything : He.DefD := ⟨("Folding", some "fold_everything"), "fold_everything", "Folding.fold_everything", defArgs s_Folding_fold_everything, defBody s_Folding_fold_everything, defScope s_Folding_fold_everything, [], []⟩
abbrev s_Folding_node_map : Stmt := inClass (tp 44) 10
def dd_Folding_node_map : He.DefD := ⟨("Folding", some "node_map"), "node_map", "Folding.node_map", defArgs s_Folding_node_map, defBody s_Folding_node_map, defScope s_Folding_node_map, [], []⟩
abbrev s_Folding_fold_count : Stmt := inClass (tp 44) 11
def dd_Folding_fold_count : He.DefD := ⟨("Folding", some "fold_count"), "fold_count", "Folding.fold_count", defArgs s_Folding_fold_count, defBody s_Folding_fold_count, defScope s_Folding_fold_count, [], []⟩
abbrev s_Folding_graph : Stmt := inClass (tp 44) 12
def dd_Folding_graph : He.DefD := ⟨("Folding", some "graph"), "graph", "Folding.graph", defArgs s_Folding_graph, defBody s_Folding_graph, defScope s_Folding_graph, [], []⟩
abbrev s_Folding_clone : Stmt := inClass (tp 44) 13
def dd_Folding_clone : He.DefD := ⟨("Folding", some "clone"), "clone", "Folding.clone", defArgs s_Folding_clone, defBody s_Folding_clone, defScope s_Folding_clone, [], []⟩
abbrev s_Folding_len : Stmt := inClass (tp 44) 14
def dd_Folding_len : He.DefD := ⟨("Folding", some "__len__"), "__len__", "Folding.__len__", defArgs s_Folding_len, defBody s_Folding_len, defScope s_Folding_len, [], []⟩
abbrev s_fold_paths : Stmt := tp 45
def dd_fold_paths : He.DefD := ⟨("fold_paths", none), "fold_paths", "fold_paths", defArgs s_fold_paths, defBody s_fold_paths, defScope s_fold_paths, [], []⟩
abbrev s_folded_graph : Stmt := tp 46
def dd_folded_graph : He.DefD := ⟨("folded_graph", none), "folded_graph", "folded_graph", defArgs s_folded_graph, defBody s_folded_graph, defScope s_folded_graph, [], []⟩
abbrev s_LabelledFolding_init : Stmt := inClass (tp 48) 0
def dd_LabelledFolding_init : He.DefD := ⟨("LabelledFolding", some "__init__"), "__init__", "LabelledFolding.__init__", defArgs s_LabelledFolding_init, defBody s_LabelledFolding_init, defScope s_LabelledFolding_init, [], []⟩
abbrev s_LabelledFolding_generator_line : Stmt := inClass (tp 48) 1
def dd_LabelledFolding_generator_line : He.DefD := ⟨("LabelledFolding", some "generator_line"), "generator_line", "LabelledFolding.generator_line", defArgs s_LabelledFolding_generator_line, defBody s_LabelledFolding_generator_line, defScope s_LabelledFolding_generator_line, [], []⟩
abbrev s_LabelledFolding_inverse_line : Stmt := inClass (tp 48) 2
def dd_LabelledFolding_inverse_line : He.DefD := ⟨("LabelledFolding", some "inverse_line"), "inverse_line", "LabelledFolding.inverse_line", defArgs s_LabelledFolding_inverse_line, defBody s_LabelledFolding_inverse_line, defScope s_LabelledFolding_inverse_line, [], []⟩
abbrev s_LabelledFolding_product_line : Stmt := inClass (tp 48) 3
def dd_LabelledFolding_product_line : He.DefD := ⟨("LabelledFolding", some "product_line"), "product_line", "LabelledFolding.product_line", defArgs s_LabelledFolding_product_line, defBody s_LabelledFolding_product_line, defScope s_LabelledFolding_product_line, [], []⟩
abbrev s_LabelledFolding_add_generator : Stmt := inClass (tp 48) 4
def dd_LabelledFolding_add_generator : He.DefD := ⟨("LabelledFolding", some "add_generator"), "add_generator", "LabelledFolding.add_generator", defArgs s_LabelledFolding_add_generator, defBody s_LabelledFolding_add_generator, defScope s_LabelledFolding_add_generator, [], []⟩
abbrev s_LabelledFolding_walk : Stmt := inClass (tp 48) 5
def dd_LabelledFolding_walk : He.DefD := ⟨("LabelledFolding", some "walk"), "walk", "LabelledFolding.walk", defArgs s_LabelledFolding_walk, defBody s_LabelledFolding_walk, defScope s_LabelledFolding_walk, [], []⟩
abbrev s_LabelledFolding_add_edge : Stmt := inClass (tp 48) 6
def dd_LabelledFolding_add_edge : He.DefD := ⟨("LabelledFolding", some "add_edge"), "add_edge", "LabelledFolding.add_edge", defArgs s_LabelledFolding_add_edge, defBody s_LabelledFolding_add_edge, defScope s_LabelledFolding_add_edge, [], []⟩
abbrev s_LabelledFolding_current : Stmt := inClass (tp 48) 7
def dd_LabelledFolding_current : He.DefD := ⟨("LabelledFolding", some "current"), "current", "LabelledFolding.current", defArgs s_LabelledFolding_current, defBody s_LabelledFolding_current, defScope s_LabelledFolding_current, [], []⟩
abbrev s_LabelledFolding_merge_pending : Stmt := inClass (tp 48) 8
def dd_LabelledFolding_merge_pending : He.DefD := ⟨("LabelledFolding", some "merge_pending"), "merge_pending", "LabelledFolding.merge_pending", defArgs s_LabelledFolding_merge_pending, defBody s_LabelledFolding_merge_pending, defScope s_LabelledFolding_merge_pending, [], []⟩
abbrev s_LabelledFolding_merge : Stmt := inClass (tp 48) 9
def dd_LabelledFolding_merge : He.DefD := ⟨("LabelledFolding", some "merge"), "merge", "LabelledFolding.merge", defArgs s_LabelledFolding_merge, defBody s_LabelledFolding_merge, defScope s_LabelledFolding_merge, [], []⟩
abbrev s_LabelledFolding_derivation_of : Stmt := inClass (tp 48) 10
def dd_LabelledFolding_derivation_of : He.DefD := ⟨("LabelledFolding", some "derivation_of"), "derivation_of", "LabelledFolding.derivation_of", defArgs s_LabelledFolding_derivation_of, defBody s_LabelledFolding_derivation_of, defScope s_LabelledFolding_derivation_of, [], []⟩
abbrev s_required_lines : Stmt := tp 49
def dd_required_lines : He.DefD := ⟨("required_lines", none), "required_lines", "required_lines", defArgs s_required_lines, defBody s_required_lines, defScope s_required_lines, [], []⟩
abbrev s_derive_all : Stmt := tp 50
def dd_derive_all : He.DefD := ⟨("derive_all", none), "derive_all", "derive_all", defArgs s_derive_all, defBody s_derive_all, defScope s_derive_all, [], []⟩
abbrev s_derive : Stmt := tp 51
def dd_derive : He.DefD := ⟨("derive", none), "derive", "derive", defArgs s_derive, defBody s_derive, defScope s_derive, [], []⟩
abbrev s_is_generated : Stmt := tp 52
def dd_is_generated : He.DefD := ⟨("is_generated", none), "is_generated", "is_generated", defArgs s_is_generated, defBody s_is_generated, defScope s_is_generated, [], []⟩
abbrev s_are_closed : Stmt := tp 54
def dd_are_closed : He.DefD := ⟨("are_closed", none), "are_closed", "are_closed", defArgs s_are_closed, defBody s_are_closed, defScope s_are_closed, [], []⟩
abbrev s_separating_graph : Stmt := tp 55
def dd_separating_graph : He.DefD := ⟨("separating_graph", none), "separating_graph", "separating_graph", defArgs s_separating_graph, defBody s_separating_graph, defScope s_separating_graph, [], []⟩
abbrev s_is_model : Stmt := tp 56
def dd_is_model : He.DefD := ⟨("is_model", none), "is_model", "is_model", defArgs s_is_model, defBody s_is_model, defScope s_is_model, [], []⟩
abbrev s_refutes : Stmt := tp 57
def dd_refutes : He.DefD := ⟨("refutes", none), "refutes", "refutes", defArgs s_refutes, defBody s_refutes, defScope s_refutes, [], []⟩
abbrev s_counterexample : Stmt := tp 58
def dd_counterexample : He.DefD := ⟨("counterexample", none), "counterexample", "counterexample", defArgs s_counterexample, defBody s_counterexample, defScope s_counterexample, [], []⟩
abbrev s_check_counterexample : Stmt := tp 59
def dd_check_counterexample : He.DefD := ⟨("check_counterexample", none), "check_counterexample", "check_counterexample", defArgs s_check_counterexample, defBody s_check_counterexample, defScope s_check_counterexample, [], []⟩
abbrev s_certify : Stmt := tp 60
def dd_certify : He.DefD := ⟨("certify", none), "certify", "certify", defArgs s_certify, defBody s_certify, defScope s_certify, [], []⟩
abbrev s_certificate : Stmt := tp 61
def dd_certificate : He.DefD := ⟨("certificate", none), "certificate", "certificate", defArgs s_certificate, defBody s_certificate, defScope s_certificate, [], []⟩
abbrev s_morphism : Stmt := tp 62
def dd_morphism : He.DefD := ⟨("morphism", none), "morphism", "morphism", defArgs s_morphism, defBody s_morphism, defScope s_morphism, [], []⟩
abbrev s_is_line : Stmt := tp 67
def dd_is_line : He.DefD := ⟨("is_line", none), "is_line", "is_line", defArgs s_is_line, defBody s_is_line, defScope s_is_line, [], []⟩
abbrev s_line_values : Stmt := tp 68
def dd_line_values : He.DefD := ⟨("line_values", none), "line_values", "line_values", defArgs s_line_values, defBody s_line_values, defScope s_line_values, [], []⟩
abbrev s_derives : Stmt := tp 69
def dd_derives : He.DefD := ⟨("derives", none), "derives", "derives", defArgs s_derives, defBody s_derives, defScope s_derives, [], []⟩
abbrev s_check_derivation : Stmt := tp 70
def dd_check_derivation : He.DefD := ⟨("check_derivation", none), "check_derivation", "check_derivation", defArgs s_check_derivation, defBody s_check_derivation, defScope s_check_derivation, [], []⟩
abbrev s_join_factors : Stmt := tp 71
def dd_join_factors : He.DefD := ⟨("join_factors", none), "join_factors", "join_factors", defArgs s_join_factors, defBody s_join_factors, defScope s_join_factors, [], []⟩
abbrev s_expand : Stmt := tp 72
def dd_expand : He.DefD := ⟨("expand", none), "expand", "expand", defArgs s_expand, defBody s_expand, defScope s_expand, [], [("limit", .int 1000)]⟩
abbrev s_is_factor : Stmt := tp 73
def dd_is_factor : He.DefD := ⟨("is_factor", none), "is_factor", "is_factor", defArgs s_is_factor, defBody s_is_factor, defScope s_is_factor, [], []⟩
abbrev s_check_factors : Stmt := tp 74
def dd_check_factors : He.DefD := ⟨("check_factors", none), "check_factors", "check_factors", defArgs s_check_factors, defBody s_check_factors, defScope s_check_factors, [], []⟩
abbrev s_first_generated : Stmt := tp 76
def dd_first_generated : He.DefD := ⟨("first_generated", none), "first_generated", "first_generated", defArgs s_first_generated, defBody s_first_generated, defScope s_first_generated, [], []⟩
abbrev s_require_separable : Stmt := tp 77
def dd_require_separable : He.DefD := ⟨("require_separable", none), "require_separable", "require_separable", defArgs s_require_separable, defBody s_require_separable, defScope s_require_separable, [], []⟩
abbrev s_separate : Stmt := tp 78
def dd_separate : He.DefD := ⟨("separate", none), "separate", "separate", defArgs s_separate, defBody s_separate, defScope s_separate, [], []⟩
abbrev s_separates : Stmt := tp 79
def dd_separates : He.DefD := ⟨("separates", none), "separates", "separates", defArgs s_separates, defBody s_separates, defScope s_separates, [], []⟩
abbrev s_check_separation : Stmt := tp 80
def dd_check_separation : He.DefD := ⟨("check_separation", none), "check_separation", "check_separation", defArgs s_check_separation, defBody s_check_separation, defScope s_check_separation, [], []⟩
abbrev s_reduced_problem : Stmt := tp 81
def dd_reduced_problem : He.DefD := ⟨("reduced_problem", none), "reduced_problem", "reduced_problem", defArgs s_reduced_problem, defBody s_reduced_problem, defScope s_reduced_problem, [], []⟩
abbrev s_classify : Stmt := tp 82
def dd_classify : He.DefD := ⟨("classify", none), "classify", "classify", defArgs s_classify, defBody s_classify, defScope s_classify, [], []⟩
abbrev s_check_classification : Stmt := tp 83
def dd_check_classification : He.DefD := ⟨("check_classification", none), "check_classification", "check_classification", defArgs s_check_classification, defBody s_check_classification, defScope s_check_classification, [], []⟩
abbrev s_spanning_tree : Stmt := tp 85
def dd_spanning_tree : He.DefD := ⟨("spanning_tree", none), "spanning_tree", "spanning_tree", defArgs s_spanning_tree, defBody s_spanning_tree, defScope s_spanning_tree, [], []⟩
abbrev s_by_source : Stmt := tp 86
def dd_by_source : He.DefD := ⟨("by_source", none), "by_source", "by_source", defArgs s_by_source, defBody s_by_source, defScope s_by_source, [], []⟩
abbrev s_edges_outside : Stmt := tp 87
def dd_edges_outside : He.DefD := ⟨("edges_outside", none), "edges_outside", "edges_outside", defArgs s_edges_outside, defBody s_edges_outside, defScope s_edges_outside, [], []⟩
abbrev s_loop_through : Stmt := tp 88
def dd_loop_through : He.DefD := ⟨("loop_through", none), "loop_through", "loop_through", defArgs s_loop_through, defBody s_loop_through, defScope s_loop_through, [], []⟩
abbrev s_basis_of : Stmt := tp 89
def dd_basis_of : He.DefD := ⟨("basis_of", none), "basis_of", "basis_of", defArgs s_basis_of, defBody s_basis_of, defScope s_basis_of, [], []⟩
abbrev s_basis : Stmt := tp 90
def dd_basis : He.DefD := ⟨("basis", none), "basis", "basis", defArgs s_basis, defBody s_basis, defScope s_basis, [], []⟩
abbrev s_rank : Stmt := tp 91
def dd_rank : He.DefD := ⟨("rank", none), "rank", "rank", defArgs s_rank, defBody s_rank, defScope s_rank, [], []⟩
abbrev s_completion_basis : Stmt := tp 92
def dd_completion_basis : He.DefD := ⟨("completion_basis", none), "completion_basis", "completion_basis", defArgs s_completion_basis, defBody s_completion_basis, defScope s_completion_basis, [], []⟩
abbrev s_first_open : Stmt := tp 94
def dd_first_open : He.DefD := ⟨("first_open", none), "first_open", "first_open", defArgs s_first_open, defBody s_first_open, defScope s_first_open, [], []⟩
abbrev s_equivalent : Stmt := tp 95
def dd_equivalent : He.DefD := ⟨("equivalent", none), "equivalent", "equivalent", defArgs s_equivalent, defBody s_equivalent, defScope s_equivalent, [], []⟩
abbrev s_compare : Stmt := tp 96
def dd_compare : He.DefD := ⟨("compare", none), "compare", "compare", defArgs s_compare, defBody s_compare, defScope s_compare, [], []⟩
abbrev s_are_derivations : Stmt := tp 97
def dd_are_derivations : He.DefD := ⟨("are_derivations", none), "are_derivations", "are_derivations", defArgs s_are_derivations, defBody s_are_derivations, defScope s_are_derivations, [], []⟩
abbrev s_refutes_member : Stmt := tp 98
def dd_refutes_member : He.DefD := ⟨("refutes_member", none), "refutes_member", "refutes_member", defArgs s_refutes_member, defBody s_refutes_member, defScope s_refutes_member, [], []⟩
abbrev s_check_comparison : Stmt := tp 99
def dd_check_comparison : He.DefD := ⟨("check_comparison", none), "check_comparison", "check_comparison", defArgs s_check_comparison, defBody s_check_comparison, defScope s_check_comparison, [], []⟩
abbrev s_passage_counts : Stmt := tp 100
def dd_passage_counts : He.DefD := ⟨("passage_counts", none), "passage_counts", "passage_counts", defArgs s_passage_counts, defBody s_passage_counts, defScope s_passage_counts, [], []⟩
abbrev s_add_parities : Stmt := tp 101
def dd_add_parities : He.DefD := ⟨("add_parities", none), "add_parities", "add_parities", defArgs s_add_parities, defBody s_add_parities, defScope s_add_parities, [], []⟩
abbrev s_parity_solution : Stmt := tp 102
def dd_parity_solution : He.DefD := ⟨("parity_solution", none), "parity_solution", "parity_solution", defArgs s_parity_solution, defBody s_parity_solution, defScope s_parity_solution, [], []⟩
abbrev s_reduced_short_list : Stmt := tp 103
def dd_reduced_short_list : He.DefD := ⟨("reduced_short_list", none), "reduced_short_list", "reduced_short_list", defArgs s_reduced_short_list, defBody s_reduced_short_list, defScope s_reduced_short_list, [], []⟩
abbrev s_deficiency : Stmt := tp 104
def dd_deficiency : He.DefD := ⟨("deficiency", none), "deficiency", "deficiency", defArgs s_deficiency, defBody s_deficiency, defScope s_deficiency, [], []⟩
abbrev s_are_marks : Stmt := tp 105
def dd_are_marks : He.DefD := ⟨("are_marks", none), "are_marks", "are_marks", defArgs s_are_marks, defBody s_are_marks, defScope s_are_marks, [], []⟩
abbrev s_check_deficiency : Stmt := tp 106
def dd_check_deficiency : He.DefD := ⟨("check_deficiency", none), "check_deficiency", "check_deficiency", defArgs s_check_deficiency, defBody s_check_deficiency, defScope s_check_deficiency, [], []⟩
abbrev s_product_targets : Stmt := tp 109
def dd_product_targets : He.DefD := ⟨("product_targets", none), "product_targets", "product_targets", defArgs s_product_targets, defBody s_product_targets, defScope s_product_targets, [], []⟩
abbrev s_end_count : Stmt := tp 110
def dd_end_count : He.DefD := ⟨("end_count", none), "end_count", "end_count", defArgs s_end_count, defBody s_end_count, defScope s_end_count, [], []⟩
abbrev s_without_dead_ends : Stmt := tp 111
def dd_without_dead_ends : He.DefD := ⟨("without_dead_ends", none), "without_dead_ends", "without_dead_ends", defArgs s_without_dead_ends, defBody s_without_dead_ends, defScope s_without_dead_ends, [], []⟩
abbrev s_intersection : Stmt := tp 112
def dd_intersection : He.DefD := ⟨("intersection", none), "intersection", "intersection", defArgs s_intersection, defBody s_intersection, defScope s_intersection, [], []⟩
abbrev s_join : Stmt := tp 113
def dd_join : He.DefD := ⟨("join", none), "join", "join", defArgs s_join, defBody s_join, defScope s_join, [], []⟩
abbrev s_core_of : Stmt := tp 115
def dd_core_of : He.DefD := ⟨("core_of", none), "core_of", "core_of", defArgs s_core_of, defBody s_core_of, defScope s_core_of, [], []⟩
abbrev s_core_graph : Stmt := tp 116
def dd_core_graph : He.DefD := ⟨("core_graph", none), "core_graph", "core_graph", defArgs s_core_graph, defBody s_core_graph, defScope s_core_graph, [], []⟩
abbrev s_conjugate : Stmt := tp 117
def dd_conjugate : He.DefD := ⟨("conjugate", none), "conjugate", "conjugate", defArgs s_conjugate, defBody s_conjugate, defScope s_conjugate, [], []⟩
abbrev s_conjugated_graph : Stmt := tp 118
def dd_conjugated_graph : He.DefD := ⟨("conjugated_graph", none), "conjugated_graph", "conjugated_graph", defArgs s_conjugated_graph, defBody s_conjugated_graph, defScope s_conjugated_graph, [], []⟩
abbrev s_conjugator : Stmt := tp 119
def dd_conjugator : He.DefD := ⟨("conjugator", none), "conjugator", "conjugator", defArgs s_conjugator, defBody s_conjugator, defScope s_conjugator, [], []⟩
abbrev s_check_conjugator : Stmt := tp 120
def dd_check_conjugator : He.DefD := ⟨("check_conjugator", none), "check_conjugator", "check_conjugator", defArgs s_check_conjugator, defBody s_check_conjugator, defScope s_check_conjugator, [], []⟩
abbrev s_coset_count : Stmt := tp 122
def dd_coset_count : He.DefD := ⟨("coset_count", none), "coset_count", "coset_count", defArgs s_coset_count, defBody s_coset_count, defScope s_coset_count, [], []⟩
abbrev s_coset : Stmt := tp 123
def dd_coset : He.DefD := ⟨("coset", none), "coset", "coset", defArgs s_coset, defBody s_coset, defScope s_coset, [], []⟩
abbrev s_same_coset : Stmt := tp 124
def dd_same_coset : He.DefD := ⟨("same_coset", none), "same_coset", "same_coset", defArgs s_same_coset, defBody s_same_coset, defScope s_same_coset, [], []⟩
abbrev s_representatives : Stmt := tp 125
def dd_representatives : He.DefD := ⟨("representatives", none), "representatives", "representatives", defArgs s_representatives, defBody s_representatives, defScope s_representatives, [], []⟩
abbrev s_power_nodes : Stmt := tp 126
def dd_power_nodes : He.DefD := ⟨("power_nodes", none), "power_nodes", "power_nodes", defArgs s_power_nodes, defBody s_power_nodes, defScope s_power_nodes, [], []⟩
abbrev s_escapes : Stmt := tp 127
def dd_escapes : He.DefD := ⟨("escapes", none), "escapes", "escapes", defArgs s_escapes, defBody s_escapes, defScope s_escapes, [], []⟩
abbrev s_escaping_path : Stmt := tp 128
def dd_escaping_path : He.DefD := ⟨("escaping_path", none), "escaping_path", "escaping_path", defArgs s_escaping_path, defBody s_escaping_path, defScope s_escaping_path, [], []⟩
abbrev s_check_escape : Stmt := tp 129
def dd_check_escape : He.DefD := ⟨("check_escape", none), "check_escape", "check_escape", defArgs s_check_escape, defBody s_check_escape, defScope s_check_escape, [], []⟩
abbrev s_PathCounter_init : Stmt := inClass (tp 132) 0
def dd_PathCounter_init : He.DefD := ⟨("PathCounter", some "__init__"), "__init__", "PathCounter.__init__", defArgs s_PathCounter_init, defBody s_PathCounter_init, defScope s_PathCounter_init, [], []⟩
abbrev s_PathCounter_add_row : Stmt := inClass (tp 132) 1
def dd_PathCounter_add_row : He.DefD := ⟨("PathCounter", some "add_row"), "add_row", "PathCounter.add_row", defArgs s_PathCounter_add_row, defBody s_PathCounter_add_row, defScope s_PathCounter_add_row, [], []⟩
abbrev s_PathCounter_count : Stmt := inClass (tp 132) 2
def dd_PathCounter_count : He.DefD := ⟨("PathCounter", some "count"), "count", "PathCounter.count", defArgs s_PathCounter_count, defBody s_PathCounter_count, defScope s_PathCounter_count, [], [("node", .int 0), ("previous", .str "")]⟩
abbrev s_PathCounter_count_after : Stmt := inClass (tp 132) 3
def dd_PathCounter_count_after : He.DefD := ⟨("PathCounter", some "count_after"), "count_after", "PathCounter.count_after", defArgs s_PathCounter_count_after, defBody s_PathCounter_count_after, defScope s_PathCounter_count_after, [], []⟩
abbrev s_PathCounter_count_before : Stmt := inClass (tp 132) 4
def dd_PathCounter_count_before : He.DefD := ⟨("PathCounter", some "count_before"), "count_before", "PathCounter.count_before", defArgs s_PathCounter_count_before, defBody s_PathCounter_count_before, defScope s_PathCounter_count_before, [], []⟩
abbrev s_PathCounter_path_at : Stmt := inClass (tp 132) 5
def dd_PathCounter_path_at : He.DefD := ⟨("PathCounter", some "path_at"), "path_at", "PathCounter.path_at", defArgs s_PathCounter_path_at, defBody s_PathCounter_path_at, defScope s_PathCounter_path_at, [], []⟩
abbrev s_PathCounter_step_at : Stmt := inClass (tp 132) 6
def dd_PathCounter_step_at : He.DefD := ⟨("PathCounter", some "step_at"), "step_at", "PathCounter.step_at", defArgs s_PathCounter_step_at, defBody s_PathCounter_step_at, defScope s_PathCounter_step_at, [], []⟩
abbrev s_count_closed : Stmt := tp 133
def dd_count_closed : He.DefD := ⟨("count_closed", none), "count_closed", "count_closed", defArgs s_count_closed, defBody s_count_closed, defScope s_count_closed, [], []⟩
abbrev s_closed_path_at : Stmt := tp 134
def dd_closed_path_at : He.DefD := ⟨("closed_path_at", none), "closed_path_at", "closed_path_at", defArgs s_closed_path_at, defBody s_closed_path_at, defScope s_closed_path_at, [], []⟩
abbrev s_position_of : Stmt := tp 135
def dd_position_of : He.DefD := ⟨("position_of", none), "position_of", "position_of", defArgs s_position_of, defBody s_position_of, defScope s_position_of, [], []⟩
abbrev s_permutations : Stmt := tp 139
def dd_permutations : He.DefD := ⟨("permutations", none), "permutations", "permutations", defArgs s_permutations, defBody s_permutations, defScope s_permutations, [], []⟩
abbrev s_inverse_permutation : Stmt := tp 140
def dd_inverse_permutation : He.DefD := ⟨("inverse_permutation", none), "inverse_permutation", "inverse_permutation", defArgs s_inverse_permutation, defBody s_inverse_permutation, defScope s_inverse_permutation, [], []⟩
abbrev s_candidates : Stmt := tp 141
def dd_candidates : He.DefD := ⟨("candidates", none), "candidates", "candidates", defArgs s_candidates, defBody s_candidates, defScope s_candidates, [], []⟩
abbrev s_closes : Stmt := tp 142
def dd_closes : He.DefD := ⟨("closes", none), "closes", "closes", defArgs s_closes, defBody s_closes, defScope s_closes, [], []⟩
abbrev s_count_reduced : Stmt := tp 143
def dd_count_reduced : He.DefD := ⟨("count_reduced", none), "count_reduced", "count_reduced", defArgs s_count_reduced, defBody s_count_reduced, defScope s_count_reduced, [], []⟩
abbrev s_count_models : Stmt := tp 144
def dd_count_models : He.DefD := ⟨("count_models", none), "count_models", "count_models", defArgs s_count_models, defBody s_count_models, defScope s_count_models, [], [("excluded", .adr (kwAt ("count_models", none) "excluded"))]⟩
abbrev s_smallest_model : Stmt := tp 145
def dd_smallest_model : He.DefD := ⟨("smallest_model", none), "smallest_model", "smallest_model", defArgs s_smallest_model, defBody s_smallest_model, defScope s_smallest_model, [], [("limit", .int 3)]⟩
abbrev s_order : Stmt := tp 147
def dd_order : He.DefD := ⟨("order", none), "order", "order", defArgs s_order, defBody s_order, defScope s_order, [], []⟩
abbrev s_power_node : Stmt := tp 148
def dd_power_node : He.DefD := ⟨("power_node", none), "power_node", "power_node", defArgs s_power_node, defBody s_power_node, defScope s_power_node, [], []⟩
abbrev s_law_pool : Stmt := tp 150
def dd_law_pool : He.DefD := ⟨("_law_pool", none), "_law_pool", "_law_pool", defArgs s_law_pool, defBody s_law_pool, defScope s_law_pool, [], []⟩
abbrev s_law_draw : Stmt := tp 151
def dd_law_draw : He.DefD := ⟨("_law_draw", none), "_law_draw", "_law_draw", defArgs s_law_draw, defBody s_law_draw, defScope s_law_draw, [], []⟩
abbrev s_law_back : Stmt := tp 152
def dd_law_back : He.DefD := ⟨("_law_back", none), "_law_back", "_law_back", defArgs s_law_back, defBody s_law_back, defScope s_law_back, [], []⟩
abbrev s_law_short : Stmt := tp 153
def dd_law_short : He.DefD := ⟨("_law_short", none), "_law_short", "_law_short", defArgs s_law_short, defBody s_law_short, defScope s_law_short, [], []⟩
abbrev s_law_expected : Stmt := tp 154
def dd_law_expected : He.DefD := ⟨("_law_expected", none), "_law_expected", "_law_expected", defArgs s_law_expected, defBody s_law_expected, defScope s_law_expected, [], []⟩
abbrev s_law_bad : Stmt := tp 155
def dd_law_bad : He.DefD := ⟨("_law_bad", none), "_law_bad", "_law_bad", defArgs s_law_bad, defBody s_law_bad, defScope s_law_bad, [], []⟩
abbrev s_law_first_calls : Stmt := tp 156
def dd_law_first_calls : He.DefD := ⟨("_law_first_calls", none), "_law_first_calls", "_law_first_calls", defArgs s_law_first_calls, defBody s_law_first_calls, defScope s_law_first_calls, [], []⟩
abbrev s_law_second_calls : Stmt := tp 157
def dd_law_second_calls : He.DefD := ⟨("_law_second_calls", none), "_law_second_calls", "_law_second_calls", defArgs s_law_second_calls, defBody s_law_second_calls, defScope s_law_second_calls, [], []⟩
abbrev s_law_pair_calls : Stmt := tp 158
def dd_law_pair_calls : He.DefD := ⟨("_law_pair_calls", none), "_law_pair_calls", "_law_pair_calls", defArgs s_law_pair_calls, defBody s_law_pair_calls, defScope s_law_pair_calls, [], []⟩
abbrev s_law_actual : Stmt := tp 159
def dd_law_actual : He.DefD := ⟨("_law_actual", none), "_law_actual", "_law_actual", defArgs s_law_actual, defBody s_law_actual, defScope s_law_actual, [], []⟩
abbrev s_law : Stmt := tp 160
def dd_law : He.DefD := ⟨("law", none), "law", "law", defArgs s_law, defBody s_law, defScope s_law, [], []⟩
def fn0 : List He.DefD := [dd_wall, dd_InvalidPath_init, dd_InvalidPaths_init, dd_InvalidNumber_init, dd_InvalidGraph_init, dd_InvalidDerivation_init, dd_InvalidNode_init, dd_InvalidFold_init, dd_LimitExceeded_init, dd_NotFolded_init, dd_Conflict_init, dd_is_integer, dd_is_path, dd_require_path, dd_reduce_all, dd_inverted, dd_reduced, dd_require_paths, dd_split_core, dd_reduced_generator, dd_reduced_generators, dd_Graph_init, dd_Graph_has_node, dd_Graph_accepts, dd_Graph_size, dd_Graph_edges, dd_Graph_follow, dd_Graph_target, dd_Graph_missing, dd_Graph_is_complete, dd_Graph_eq, dd_Graph_len, dd_Graph_repr, dd_require_graph, dd_visited, dd_last_node, dd_breadth_first_numbers, dd_canonical_graph, dd_missing_edges, dd_completed, dd_extend_by, dd_initial_edges, dd_Folding_init, dd_Folding_start, dd_Folding_add_edge, dd_Folding_nodes, dd_Folding_edges, dd_Folding_pairs, dd_Folding_is_folded, dd_Folding_fold, dd_Folding_merge, dd_Folding_fold_everything, dd_Folding_node_map, dd_Folding_fold_count, dd_Folding_graph, dd_Folding_clone, dd_Folding_len, dd_fold_paths, dd_folded_graph, dd_LabelledFolding_init]
def fn1 : List He.DefD := [dd_LabelledFolding_generator_line, dd_LabelledFolding_inverse_line, dd_LabelledFolding_product_line, dd_LabelledFolding_add_generator, dd_LabelledFolding_walk, dd_LabelledFolding_add_edge, dd_LabelledFolding_current, dd_LabelledFolding_merge_pending, dd_LabelledFolding_merge, dd_LabelledFolding_derivation_of, dd_required_lines, dd_derive_all, dd_derive, dd_is_generated, dd_are_closed, dd_separating_graph, dd_is_model, dd_refutes, dd_counterexample, dd_check_counterexample, dd_certify, dd_certificate, dd_morphism, dd_is_line, dd_line_values, dd_derives, dd_check_derivation, dd_join_factors, dd_expand, dd_is_factor, dd_check_factors, dd_first_generated, dd_require_separable, dd_separate, dd_separates, dd_check_separation, dd_reduced_problem, dd_classify, dd_check_classification, dd_spanning_tree, dd_by_source, dd_edges_outside, dd_loop_through, dd_basis_of, dd_basis, dd_rank, dd_completion_basis, dd_first_open, dd_equivalent, dd_compare, dd_are_derivations, dd_refutes_member, dd_check_comparison, dd_passage_counts, dd_add_parities, dd_parity_solution, dd_reduced_short_list, dd_deficiency, dd_are_marks, dd_check_deficiency]
def fn2 : List He.DefD := [dd_product_targets, dd_end_count, dd_without_dead_ends, dd_intersection, dd_join, dd_core_of, dd_core_graph, dd_conjugate, dd_conjugated_graph, dd_conjugator, dd_check_conjugator, dd_coset_count, dd_coset, dd_same_coset, dd_representatives, dd_power_nodes, dd_escapes, dd_escaping_path, dd_check_escape, dd_PathCounter_init, dd_PathCounter_add_row, dd_PathCounter_count, dd_PathCounter_count_after, dd_PathCounter_count_before, dd_PathCounter_path_at, dd_PathCounter_step_at, dd_count_closed, dd_closed_path_at, dd_position_of, dd_permutations, dd_inverse_permutation, dd_candidates, dd_closes, dd_count_reduced, dd_count_models, dd_smallest_model, dd_order, dd_power_node, dd_law_pool, dd_law_draw, dd_law_back, dd_law_short, dd_law_expected, dd_law_bad, dd_law_first_calls, dd_law_second_calls, dd_law_pair_calls, dd_law_actual, dd_law]
def fns : List (List He.DefD) := [fn0, fn1, fn2]
abbrev tlV : List Value := [.type "ValueError", .type "Exception", .type "BaseException", .type "object"]
abbrev tlI : List Value := [.type "IndexError", .type "LookupError", .type "Exception", .type "BaseException", .type "object"]
abbrev tlO : List Value := [.type "OverflowError", .type "ArithmeticError", .type "Exception", .type "BaseException", .type "object"]
abbrev tlR : List Value := [.type "RuntimeError", .type "Exception", .type "BaseException", .type "object"]
def fa : List He.Fa := [.glo "_wall", .glo "is_integer", .glo "is_path", .glo "require_path", .glo "reduce_all", .glo "inverted", .glo "reduced", .glo "require_paths", .glo "split_core", .glo "reduced_generator", .glo "reduced_generators", .glo "require_graph", .glo "visited", .glo "last_node", .glo "breadth_first_numbers", .glo "canonical_graph", .glo "missing_edges", .glo "completed", .glo "extend_by", .glo "initial_edges", .glo "fold_paths", .glo "folded_graph", .glo "required_lines", .glo "derive_all", .glo "derive", .glo "is_generated", .glo "are_closed", .glo "separating_graph", .glo "is_model", .glo "refutes", .glo "counterexample", .glo "check_counterexample", .glo "certify", .glo "certificate", .glo "morphism", .glo "is_line", .glo "line_values", .glo "derives", .glo "check_derivation", .glo "join_factors", .glo "expand", .glo "is_factor", .glo "check_factors", .glo "first_generated", .glo "require_separable", .glo "separate", .glo "separates", .glo "check_separation", .glo "reduced_problem", .glo "classify", .glo "check_classification", .glo "spanning_tree", .glo "by_source", .glo "edges_outside", .glo "loop_through", .glo "basis_of", .glo "basis", .glo "rank", .glo "completion_basis", .glo "first_open", .glo "equivalent", .glo "compare", .glo "are_derivations", .glo "refutes_member", .glo "check_comparison", .glo "passage_counts", .glo "add_parities", .glo "parity_solution", .glo "reduced_short_list", .glo "deficiency", .glo "are_marks", .glo "check_deficiency", .glo "product_targets", .glo "end_count", .glo "without_dead_ends", .glo "intersection", .glo "join", .glo "core_of", .glo "core_graph", .glo "conjugate", .glo "conjugated_graph", .glo "conjugator", .glo "check_conjugator", .glo "coset_count", .glo "coset", .glo "same_coset", .glo "representatives", .glo "power_nodes", .glo "escapes", .glo "escaping_path", .glo "check_escape", .glo "count_closed", .glo "closed_path_at", .glo "position_of", .glo "permutations", .glo "inverse_permutation", .glo "candidates", .glo "closes", .glo "count_reduced", .glo "count_models", .glo "smallest_model", .glo "order", .glo "power_node", .glo "_law_pool", .glo "_law_draw", .glo "_law_back", .glo "_law_short", .glo "_law_expected", .glo "_law_bad", .glo "_law_first_calls", .glo "_law_second_calls", .glo "_law_pair_calls", .glo "_law_actual", .glo "law", .glo "PathError", .glo "InvalidPath", .glo "InvalidPaths", .glo "InvalidNumber", .glo "InvalidGraph", .glo "InvalidDerivation", .glo "InvalidNode", .glo "InvalidFold", .glo "LimitExceeded", .glo "NotFolded", .glo "Conflict", .glo "Graph", .cls "Graph", .mkr "Graph", .meth "Graph" "__init__", .meth "Graph" "has_node", .meth "Graph" "accepts", .meth "Graph" "size", .meth "Graph" "edges", .meth "Graph" "follow", .meth "Graph" "target", .meth "Graph" "missing", .meth "Graph" "is_complete", .meth "Graph" "__eq__", .meth "Graph" "__len__", .meth "Graph" "__repr__", .noat "Graph" "node_count", .noat "Graph" "targets", .glo "Folding", .cls "Folding", .mkr "Folding", .meth "Folding" "__init__", .meth "Folding" "start", .meth "Folding" "add_edge", .meth "Folding" "nodes", .meth "Folding" "edges", .meth "Folding" "pairs", .meth "Folding" "is_folded", .meth "Folding" "fold", .meth "Folding" "merge", .meth "Folding" "fold_everything", .meth "Folding" "node_map", .meth "Folding" "fold_count", .meth "Folding" "graph", .meth "Folding" "clone", .meth "Folding" "__len__", .noat "Folding" "all_targets", .noat "Folding" "folds_done", .noat "Folding" "merged_into", .glo "LabelledFolding", .cls "LabelledFolding", .mkr "LabelledFolding", .meth "LabelledFolding" "__init__", .meth "LabelledFolding" "generator_line", .meth "LabelledFolding" "inverse_line", .meth "LabelledFolding" "product_line", .meth "LabelledFolding" "add_generator", .meth "LabelledFolding" "walk", .meth "LabelledFolding" "add_edge", .meth "LabelledFolding" "current", .meth "LabelledFolding" "merge_pending", .meth "LabelledFolding" "merge", .meth "LabelledFolding" "derivation_of", .noat "LabelledFolding" "lines", .noat "LabelledFolding" "merged", .noat "LabelledFolding" "next_node", .noat "LabelledFolding" "pending", .noat "LabelledFolding" "targets_of", .glo "PathCounter", .cls "PathCounter", .mkr "PathCounter", .meth "PathCounter" "__init__", .meth "PathCounter" "add_row", .meth "PathCounter" "count", .meth "PathCounter" "count_after", .meth "PathCounter" "count_before", .meth "PathCounter" "path_at", .meth "PathCounter" "step_at", .noat "PathCounter" "own_graph", .noat "PathCounter" "rows", .free "IndexError", .free "OverflowError", .free "RuntimeError", .free "ValueError", .free "all", .free "any", .free "bool", .free "dict", .free "enumerate", .free "int", .free "isinstance", .free "len", .free "list", .free "max", .free "min", .free "range", .free "repr", .free "sorted", .free "str", .free "sum", .free "tuple", .free "zip", .str "STEPS" "aAbBcCdD", .int "MAX_STEPS" 400, .int "MAX_GENERATORS" 16, .int "MAX_GENERATOR_STEPS" 60, .str "LETTERS" "abcd", .int "MAX_NODES" 2000, .int "MAX_LINES" 60000, .int "MAX_VALUE_STEPS" 1000, .int "MAX_FACTORS" 1000, .int "MAX_PRODUCT" 1000, .int "MAX_LENGTH" 200, .int "MAX_MODEL_SIZE" 4, .int "MAX_CANDIDATES" 2000, .exm "Conflict" "InvalidPaths" false, .exm "Conflict" "LimitExceeded" false, .exm "InvalidDerivation" "InvalidPaths" false, .exm "InvalidDerivation" "LimitExceeded" false, .exm "InvalidFold" "InvalidPaths" false, .exm "InvalidFold" "LimitExceeded" false, .exm "InvalidGraph" "InvalidPaths" false, .exm "InvalidGraph" "LimitExceeded" false, .exm "InvalidNode" "InvalidPaths" false, .exm "InvalidNode" "LimitExceeded" false, .exm "InvalidNumber" "InvalidPaths" false, .exm "InvalidNumber" "LimitExceeded" false, .exm "InvalidPath" "InvalidPaths" false, .exm "InvalidPath" "LimitExceeded" false, .exm "InvalidPaths" "InvalidPaths" true, .exm "InvalidPaths" "LimitExceeded" false, .exm "LimitExceeded" "InvalidPaths" false, .exm "LimitExceeded" "LimitExceeded" true, .exm "NotFolded" "InvalidPaths" false, .exm "NotFolded" "LimitExceeded" false]
def exL (K : PySem.W.Frag) : List Bool := [exB K "ValueError.__new__" tlV "InvalidPath" "value", iniB K "InvalidPath", bnB K "PathError" none "ValueError.__init__", exB K "ValueError.__new__" tlV "InvalidPaths" "index", iniB K "InvalidPaths", exB K "ValueError.__new__" tlV "InvalidNumber" "value", iniB K "InvalidNumber", exB K "ValueError.__new__" tlV "InvalidGraph" "index", iniB K "InvalidGraph", exB K "ValueError.__new__" tlV "InvalidDerivation" "value", iniB K "InvalidDerivation", exB K "IndexError.__new__" tlI "InvalidNode" "value", iniB K "InvalidNode", bnB K "IndexError" (some "IndexError") "IndexError.__init__", exB K "IndexError.__new__" tlI "InvalidFold" "value", iniB K "InvalidFold", exB K "OverflowError.__new__" tlO "LimitExceeded" "limit", iniB K "LimitExceeded", bnB K "OverflowError" (some "OverflowError") "OverflowError.__init__", exB K "RuntimeError.__new__" tlR "NotFolded" "remaining", iniB K "NotFolded", bnB K "RuntimeError" (some "RuntimeError") "RuntimeError.__init__", iniB K "Conflict", tup0B K (He.dflAt ("Graph", some "__init__") 1 K), tup0B K (kwAt ("count_models", none) "excluded" K)]
def ex (K : PySem.W.Frag) : Bool := (exL K).all id
def ls0 : List PySem.Str := [("_wall" : PySem.Str), ("__name__" : PySem.Str), ("PathError" : PySem.Str), ("InvalidPath" : PySem.Str), ("InvalidPaths" : PySem.Str), ("InvalidNumber" : PySem.Str), ("InvalidGraph" : PySem.Str), ("InvalidDerivation" : PySem.Str), ("InvalidNode" : PySem.Str), ("InvalidFold" : PySem.Str), ("LimitExceeded" : PySem.Str), ("NotFolded" : PySem.Str), ("Conflict" : PySem.Str), ("STEPS" : PySem.Str), ("MAX_STEPS" : PySem.Str), ("MAX_GENERATORS" : PySem.Str), ("MAX_GENERATOR_STEPS" : PySem.Str), ("is_integer" : PySem.Str), ("is_path" : PySem.Str), ("require_path" : PySem.Str), ("reduce_all" : PySem.Str), ("inverted" : PySem.Str), ("reduced" : PySem.Str), ("require_paths" : PySem.Str), ("split_core" : PySem.Str)]
def ls1 : List PySem.Str := [("reduced_generator" : PySem.Str), ("reduced_generators" : PySem.Str), ("LETTERS" : PySem.Str), ("MAX_NODES" : PySem.Str), ("Graph" : PySem.Str), ("require_graph" : PySem.Str), ("visited" : PySem.Str), ("last_node" : PySem.Str), ("breadth_first_numbers" : PySem.Str), ("canonical_graph" : PySem.Str), ("missing_edges" : PySem.Str), ("completed" : PySem.Str), ("extend_by" : PySem.Str), ("initial_edges" : PySem.Str), ("Folding" : PySem.Str), ("fold_paths" : PySem.Str), ("folded_graph" : PySem.Str), ("LabelledFolding" : PySem.Str), ("required_lines" : PySem.Str), ("derive_all" : PySem.Str), ("derive" : PySem.Str), ("is_generated" : PySem.Str), ("are_closed" : PySem.Str), ("separating_graph" : PySem.Str), ("is_model" : PySem.Str)]
def ls2 : List PySem.Str := [("refutes" : PySem.Str), ("counterexample" : PySem.Str), ("check_counterexample" : PySem.Str), ("certify" : PySem.Str), ("certificate" : PySem.Str), ("morphism" : PySem.Str), ("MAX_LINES" : PySem.Str), ("MAX_VALUE_STEPS" : PySem.Str), ("MAX_FACTORS" : PySem.Str), ("is_line" : PySem.Str), ("line_values" : PySem.Str), ("derives" : PySem.Str), ("check_derivation" : PySem.Str), ("join_factors" : PySem.Str), ("expand" : PySem.Str), ("is_factor" : PySem.Str), ("check_factors" : PySem.Str), ("first_generated" : PySem.Str), ("require_separable" : PySem.Str), ("separate" : PySem.Str), ("separates" : PySem.Str), ("check_separation" : PySem.Str), ("reduced_problem" : PySem.Str), ("classify" : PySem.Str), ("check_classification" : PySem.Str)]
def ls3 : List PySem.Str := [("spanning_tree" : PySem.Str), ("by_source" : PySem.Str), ("edges_outside" : PySem.Str), ("loop_through" : PySem.Str), ("basis_of" : PySem.Str), ("basis" : PySem.Str), ("rank" : PySem.Str), ("completion_basis" : PySem.Str), ("first_open" : PySem.Str), ("equivalent" : PySem.Str), ("compare" : PySem.Str), ("are_derivations" : PySem.Str), ("refutes_member" : PySem.Str), ("check_comparison" : PySem.Str), ("passage_counts" : PySem.Str), ("add_parities" : PySem.Str), ("parity_solution" : PySem.Str), ("reduced_short_list" : PySem.Str), ("deficiency" : PySem.Str), ("are_marks" : PySem.Str), ("check_deficiency" : PySem.Str), ("MAX_PRODUCT" : PySem.Str), ("product_targets" : PySem.Str), ("end_count" : PySem.Str), ("without_dead_ends" : PySem.Str)]
def ls4 : List PySem.Str := [("intersection" : PySem.Str), ("join" : PySem.Str), ("core_of" : PySem.Str), ("core_graph" : PySem.Str), ("conjugate" : PySem.Str), ("conjugated_graph" : PySem.Str), ("conjugator" : PySem.Str), ("check_conjugator" : PySem.Str), ("coset_count" : PySem.Str), ("coset" : PySem.Str), ("same_coset" : PySem.Str), ("representatives" : PySem.Str), ("power_nodes" : PySem.Str), ("escapes" : PySem.Str), ("escaping_path" : PySem.Str), ("check_escape" : PySem.Str), ("MAX_LENGTH" : PySem.Str), ("PathCounter" : PySem.Str), ("count_closed" : PySem.Str), ("closed_path_at" : PySem.Str), ("position_of" : PySem.Str), ("MAX_MODEL_SIZE" : PySem.Str), ("MAX_CANDIDATES" : PySem.Str), ("permutations" : PySem.Str), ("inverse_permutation" : PySem.Str)]
def ls5 : List PySem.Str := [("candidates" : PySem.Str), ("closes" : PySem.Str), ("count_reduced" : PySem.Str), ("count_models" : PySem.Str), ("smallest_model" : PySem.Str), ("order" : PySem.Str), ("power_node" : PySem.Str), ("_law_pool" : PySem.Str), ("_law_draw" : PySem.Str), ("_law_back" : PySem.Str), ("_law_short" : PySem.Str), ("_law_expected" : PySem.Str), ("_law_bad" : PySem.Str), ("_law_first_calls" : PySem.Str), ("_law_second_calls" : PySem.Str), ("_law_pair_calls" : PySem.Str), ("_law_actual" : PySem.Str)]
def ls : List PySem.Str := ls0 ++ ls1 ++ ls2 ++ ls3 ++ ls4 ++ ls5
abbrev R : PySem.W.OpenRow := PySem.W.OpenLaw.row PySem.Challenge.rw_walkshome_k79_generator_errors_everywher
abbrev qv : Program := PySem.W.view R.prog [160]
abbrev hk : PySem.W.Hook := hookW 5 fa fns ex
def ob (s : PySem.W.SharedT) : AlW := obsW 5 fa fns ex (HandSHeadRun.getT s)
theorem ob_eq (s : PySem.W.SharedT) : ob s = hk.obs s.abs := obsW_eq (HandSHeadRun.getT_eq s)
theorem rA (w : World) (os : OsState) : (FRun R 20000 w os).map (fun s => (HandSHeadRun.looksF R.prog (PySem.W.boot_heap w.params) s.abs, HandSHeadRun.seenQ qv ls (importedModules R.prog.main.body) (fun s => PySem.W.xlAt qv [] s && PySem.W.recOk R.toRowW.records s) s.abs)) = some (true, PySem.W.openGood qv ls) := by
  kernel_rfl
theorem rB (w : World) (os : OsState) : (FRun R 20000 w os).map (fun s => obA 5 fa ex (HandSHeadRun.getT s)) = some (true, true) := by
  kernel_rfl
theorem rF0 (w : World) (os : OsState) : (FRun R 20000 w os).map (fun s => obF 5 (HandSHeadRun.getT s) fn0) = some (He.valD fn0) := by
  kernel_rfl
theorem rF1 (w : World) (os : OsState) : (FRun R 20000 w os).map (fun s => obF 5 (HandSHeadRun.getT s) fn1) = some (He.valD fn1) := by
  kernel_rfl
theorem rF2 (w : World) (os : OsState) : (FRun R 20000 w os).map (fun s => obF 5 (HandSHeadRun.getT s) fn2) = some (He.valD fn2) := by
  kernel_rfl
theorem rF (w : World) (os : OsState) : ∀ fn ∈ fns, (FRun R 20000 w os).map (fun s => obF 5 (HandSHeadRun.getT s) fn) = some (He.valD fn) := by
  intro fn h
  simp only [fns, List.mem_cons, List.not_mem_nil, or_false] at h
  rcases h with h | h | h
  · rw [h]; exact rF0 w os
  · rw [h]; exact rF1 w os
  · rw [h]; exact rF2 w os
theorem run (w : World) : HandSHeadRun.RunEq R qv hk ob 20000 ls w := runW (rA w) (rB w) (rF w)
end W8
/-! W8, part 7: what the walks of this program share: passing, promises by arity, comprehensions by what they have made, kinds of values, texts of steps. -/
namespace W8
open PySem PySem.Spec PyProof.Rows L2

/-! ### what a call may let out -/
theorem pxN {X : Cx} : ∀ σ, PassesAt (L2.CX X.prog X.w) X σ E0 := fun _ _ _ _ _ _ _ h => by
  obtain ⟨_, _, _, _, _, _, _, _, _, _, _, _, z⟩ := h
  exact z.elim
theorem pxB {X : Cx} {E : XK} (tk : Takes X (fun cls d _ H => E cls d H)) : ∀ σ, PassesAt (L2.CX X.prog X.w) X σ E := fun σ => passAt tk σ
theorem pxP {X : Cx} {E : XK} (h : Passes (L2.CX X.prog X.w) X E) : ∀ σ, PassesAt (L2.CX X.prog X.w) X σ E := fun σ pins H s e s' I c => h pins σ H s e s' I c
/-- a call of a def whose argument's evaluation never ends -/
def tStop (t : TA) : TE := fun σ H _ => t σ H fun _ _ => False
theorem pe_stop {X : Cx} {f : Addr} {x : Str} {p pos : Pos} {e : Expr} {es : List Expr} {t : TA} (hg : Gl X x) (hm : X.mg x = some (.ref f)) (hk : PySem.W.keepIn X.K (.ref f) = true) (ha : PA X (e :: es) t)
    (hdb : (x == ("__debug__" : Str)) = false := by decide) (he : starEach (e :: es) X.env = (false, eval e X.env) :: starEach es X.env := by rfl) (hpl : (backTo pos (starEach es X.env)).any (·.1) = false := by rfl) :
    PE X (.Call (.Name x p) (e :: es) [] pos) (tStop t) := by
  constructor
  intro pins s σ H Q I h
  refine wpAny_Call_Name_kw (ld_glob I hg hm ?_ hdb)
  refine PySem.W.callWith_K (h₀ := X.base) I.ok.mod.kin hk ?_ he hpl
  refine thn (ha.run pos pins s σ H _ I h) ?_
  rintro us s1 ⟨vs, H1, I1, r, q⟩
  exact q.elim

/-- o.m(e, ..), its arguments' evaluation never ends -/
def tMStop (C : Addr) (m : Str) (ta : TE) (t : TA) : TE := fun σ H _ => ta σ H fun x H1 => ∃ (a dx : Addr) (fs : List (Str × V)), x = .ref a ∧ H1 a = some (.ins C dx fs) ∧ fs.lookup m = none ∧ t σ H1 fun _ _ => False
theorem pe_mstop {X : Cx} {f C : Addr} {m : Str} {apos pos : Pos} {o e : Expr} {es : List Expr} {ta : TE} {t : TA} {pl : Sem Bool} (he : PE X o ta) (c : Cls X.K C) (hm : Meth X.K C m f) (ha : PA X (e :: es) t)
    (hst : starEach (e :: es) X.env = (false, eval e X.env) :: starEach es X.env := by rfl) (hpl : (backTo pos (starEach es X.env)).any (·.1) = false := by rfl)
    (ht : eval (.Call (.Attribute o m apos) (e :: es) [] pos) X.env = (do
      let ov ← eval o X.env
      standAt apos.atName
      let (f, first) ← holding [ov] (getMethod ov m pl)
      callWith pos f first (backTo pos (starEach (e :: es) X.env)) (backToKw pos (keywordEach [] X.env))) := by rfl) :
    PE X (.Call (.Attribute o m apos) (e :: es) [] pos) (tMStop C m ta t) := by
  constructor
  intro pins s σ H Q I h
  refine PySem.W.methodCall_KW (pl := pl) (thn (he.run pins s σ H _ I h) ?_) ht
  rintro u s1 ⟨x, H1, I1, rx, a, dx, fs, ex, ea, l, q⟩
  subst ex
  obtain rfl : u = Value.ref a := rx
  refine getmeth_ok I1 ea c hm l ?_
  refine PySem.W.callWith_K (first := [.ref a]) (h₀ := X.base) I.ok.mod.kin hm.kp (thn (ha.run pos pins s1 σ H1 _ I1 q) ?_) hst hpl
  rintro us s2 ⟨vs, H2, I2, r, q2⟩
  exact q2.elim

/-! ### rules whose reading speaks of K, with K said: for a comprehension's block -/
section
variable {X : Cx} {K : PySem.W.Frag}
theorem kO {f : Value → Value → Sem Value} {r : PySem.W.Frag → R2} (h : OpR X f (r X.K)) (e : X.K = K) : OpR X f (r K) := e ▸ h
theorem kC {f : Value} {r : PySem.W.Frag → List V → Hp → VK → Prop} (h : CallR X f (r X.K)) (e : X.K = K) : CallR X f (r K) := e ▸ h
theorem kI {r : PySem.W.Frag → R2} (h : IxR X (r X.K)) (e : X.K = K) : IxR X (r K) := e ▸ h
theorem kS {r : PySem.W.Frag → V → Option Int → Option Int → Hp → VK → Prop} (h : SlR X (r X.K)) (e : X.K = K) : SlR X (r K) := e ▸ h
theorem kP {e : Expr} {t : PySem.W.Frag → TE} (h : PE X e (t X.K)) (q : X.K = K) : PE X e (t K) := q ▸ h
theorem kG {e : Expr} {g : PySem.W.Frag → TG} (h : PG X e (g X.K)) (q : X.K = K) : PG X e (g K) := q ▸ h
theorem kW {tg e : Expr} {w : PySem.W.Frag → TI} (h : PI X tg e (w X.K)) (q : X.K = K) : PI X tg e (w K) := q ▸ h
end

/-! ### promises by arity -/
def Sp0 (f : Hp → VK → XK → Prop) : Sp := fun vs H Q E => vs = [] ∧ f H Q E
def Sp1 (f : V → Hp → VK → XK → Prop) : Sp := fun vs H Q E => ∃ a, vs = [a] ∧ f a H Q E
def Sp2 (f : V → V → Hp → VK → XK → Prop) : Sp := fun vs H Q E => ∃ a b, vs = [a, b] ∧ f a b H Q E
def Sp3 (f : V → V → V → Hp → VK → XK → Prop) : Sp := fun vs H Q E => ∃ a b c, vs = [a, b, c] ∧ f a b c H Q E
def Sp4 (f : V → V → V → V → Hp → VK → XK → Prop) : Sp := fun vs H Q E => ∃ a b c d, vs = [a, b, c, d] ∧ f a b c d H Q E
def Sp5 (f : V → V → V → V → V → Hp → VK → XK → Prop) : Sp := fun vs H Q E => ∃ a b c d e, vs = [a, b, c, d, e] ∧ f a b c d e H Q E
theorem len_0 {f : Hp → VK → XK → Prop} : ∀ vs H Q E, Sp0 f vs H Q E → vs.length = 0 := by
  rintro vs H Q E ⟨rfl, _⟩
  rfl
theorem len_1 {f : V → Hp → VK → XK → Prop} : ∀ vs H Q E, Sp1 f vs H Q E → vs.length = 1 := by
  rintro vs H Q E ⟨a, rfl, _⟩
  rfl
theorem len_2 {f : V → V → Hp → VK → XK → Prop} : ∀ vs H Q E, Sp2 f vs H Q E → vs.length = 2 := by
  rintro vs H Q E ⟨a, b, rfl, _⟩
  rfl
theorem len_3 {f : V → V → V → Hp → VK → XK → Prop} : ∀ vs H Q E, Sp3 f vs H Q E → vs.length = 3 := by
  rintro vs H Q E ⟨a, b, c, rfl, _⟩
  rfl
theorem len_4 {f : V → V → V → V → Hp → VK → XK → Prop} : ∀ vs H Q E, Sp4 f vs H Q E → vs.length = 4 := by
  rintro vs H Q E ⟨a, b, c, d, rfl, _⟩
  rfl
theorem len_5 {f : V → V → V → V → V → Hp → VK → XK → Prop} : ∀ vs H Q E, Sp5 f vs H Q E → vs.length = 5 := by
  rintro vs H Q E ⟨a, b, c, d, e, rfl, _⟩
  rfl

/-! ### comprehensions by what they have made -/
/-- a new list at D, the rest as it was -/
theorem same_upd {H : Hp} {D : Addr} {o : HO} (h : H D = none) : Same H (upd H D o) := by
  intro b u e
  by_cases z : b = D
  · rw [z, h] at e
    cases e
  · rw [upd_ne z]
    exact e
theorem lc_accI {J : It} {n : Nat} {G : Hp → Prop} {Y : Nat → Hp → V → Hp → Prop} (w : Walk J n G Y) {g : TG} {tt : TT} {te : TE} {vs : List Nat} {σ : L2.St} {H1 : Hp} {D : Addr} {Qd : Hp → Prop} (hD : H1 D = none) (acc : Nat → List V) (N : Nat → Prop) (h0 : acc 0 = []) (hN : N 0)
    (hz : ∀ i, i < n → (acc i).length < sizeLine) (hG : ∀ H, Same H1 H → G H)
    (hs : ∀ i x H H' (R1 : V → Hp → Prop) (R2 : Hp → Prop), i < n → N i → Same H1 H → H D = some (.lst (acc i)) → Y i H x H' → (∀ y H4, Same H H4 → acc (i + 1) = acc i ++ [y] → N (i + 1) → R1 y H4) → (∀ H3, Same H H3 → acc (i + 1) = acc i → N (i + 1) → R2 H3) →
      g x (wipe σ vs) H' fun σ2 H2 => wipe σ2 vs = wipe σ vs ∧ tt σ2 H2 fun b H3 => if b = true then te σ2 H3 R1 else R2 H3)
    (hd : ∀ H, N n → Same H1 H → H D = some (.lst (acc n)) → Qd H) :
    ∃ W : Nat → Nat → Hp → Prop, (∃ m, W 0 m (upd H1 D (.lst []))) ∧ ∀ i m H, W i m H →
      (J.stop i H ∧ Qd H) ∨ (J.go i H ∧ ∃ Nx : Hp → Prop, (∀ H', Nx H' → ∃ m', m' < m ∧ W (i + 1) m' H') ∧ ∀ x H', J.yld i H x H' → g x (wipe σ vs) H' fun σ2 H2 => wipe σ2 vs = wipe σ vs ∧ tt σ2 H2 fun b H3 =>
        if b = true then te σ2 H3 fun y H4 => ∃ acc, H4 D = some (.lst acc) ∧ acc.length < sizeLine ∧ Nx (upd H4 D (.lst (acc ++ [y]))) else Nx H3) := by
  have keep : ∀ {H : Hp} {l : List V}, Same H1 H → Same H1 (upd H D (.lst l)) := by
    intro H l e b u q
    have nb : b ≠ D := by
      intro z
      rw [z, hD] at q
      cases q
    rw [upd_ne nb]
    exact e b u q
  refine lc_it w (fun i H => Same H1 H ∧ H D = some (.lst (acc i)) ∧ N i) ⟨keep (.refl _), by rw [upd_same, h0], hN⟩ (fun i H _ p => hG H p.1) ?_ (fun H p => hd H p.2.2 p.1 p.2.1)
  rintro i x H H' hi ⟨p1, p2, p3⟩ y
  refine hs i x H H' _ _ hi p3 p1 p2 y ?_ ?_
  · intro z H4 k e n2
    refine ⟨acc i, k _ _ p2, hz i hi, keep (p1.trans k), ?_, n2⟩
    rw [upd_same, e]
  · intro H3 k e n2
    exact ⟨p1.trans k, by rw [k _ _ p2, e], n2⟩
theorem lc_acc {J : It} {n : Nat} {G : Hp → Prop} {Y : Nat → Hp → V → Hp → Prop} (w : Walk J n G Y) {g : TG} {tt : TT} {te : TE} {vs : List Nat} {σ : L2.St} {H1 : Hp} {D : Addr} {Qd : Hp → Prop} (hD : H1 D = none) (acc : Nat → List V) (h0 : acc 0 = [])
    (hz : ∀ i, i < n → (acc i).length < sizeLine) (hG : ∀ H, Same H1 H → G H)
    (hs : ∀ i x H H' (R1 : V → Hp → Prop) (R2 : Hp → Prop), i < n → Same H1 H → H D = some (.lst (acc i)) → Y i H x H' → (∀ y H4, Same H H4 → acc (i + 1) = acc i ++ [y] → R1 y H4) → (∀ H3, Same H H3 → acc (i + 1) = acc i → R2 H3) →
      g x (wipe σ vs) H' fun σ2 H2 => wipe σ2 vs = wipe σ vs ∧ tt σ2 H2 fun b H3 => if b = true then te σ2 H3 R1 else R2 H3)
    (hd : ∀ H, Same H1 H → H D = some (.lst (acc n)) → Qd H) :
    ∃ W : Nat → Nat → Hp → Prop, (∃ m, W 0 m (upd H1 D (.lst []))) ∧ ∀ i m H, W i m H →
      (J.stop i H ∧ Qd H) ∨ (J.go i H ∧ ∃ Nx : Hp → Prop, (∀ H', Nx H' → ∃ m', m' < m ∧ W (i + 1) m' H') ∧ ∀ x H', J.yld i H x H' → g x (wipe σ vs) H' fun σ2 H2 => wipe σ2 vs = wipe σ vs ∧ tt σ2 H2 fun b H3 =>
        if b = true then te σ2 H3 fun y H4 => ∃ acc, H4 D = some (.lst acc) ∧ acc.length < sizeLine ∧ Nx (upd H4 D (.lst (acc ++ [y]))) else Nx H3) :=
  lc_accI w hD acc (fun _ => True) h0 trivial hz hG (fun i x H H' R1 R2 hi _ sm hl y r1 r2 => hs i x H H' R1 R2 hi sm hl y (fun z H4 k e => r1 z H4 k e trivial) (fun H3 k e => r2 H3 k e trivial)) (fun H _ sm hl => hd H sm hl)
/-- .. without if -/
theorem lc_mapI {J : It} {n : Nat} {G : Hp → Prop} {Y : Nat → Hp → V → Hp → Prop} (w : Walk J n G Y) {g : TG} {te : TE} {vs : List Nat} {σ : L2.St} {H1 : Hp} {D : Addr} {Qd : Hp → Prop} (hD : H1 D = none) (acc : Nat → List V) (N : Nat → Prop) (h0 : acc 0 = []) (hN : N 0)
    (hz : ∀ i, i < n → (acc i).length < sizeLine) (hG : ∀ H, Same H1 H → G H)
    (hs : ∀ i x H H' (R : V → Hp → Prop), i < n → N i → Same H1 H → H D = some (.lst (acc i)) → Y i H x H' → (∀ y H4, Same H H4 → acc (i + 1) = acc i ++ [y] → N (i + 1) → R y H4) →
      g x (wipe σ vs) H' fun σ2 H2 => wipe σ2 vs = wipe σ vs ∧ te σ2 H2 R)
    (monoG : ∀ (x : V) (σ1 : L2.St) (H' : Hp) (A B : L2.St → Hp → Prop), g x σ1 H' A → (∀ σ2 H2, A σ2 H2 → B σ2 H2) → g x σ1 H' B)
    (hd : ∀ H, N n → Same H1 H → H D = some (.lst (acc n)) → Qd H) :
    ∃ W : Nat → Nat → Hp → Prop, (∃ m, W 0 m (upd H1 D (.lst []))) ∧ ∀ i m H, W i m H →
      (J.stop i H ∧ Qd H) ∨ (J.go i H ∧ ∃ Nx : Hp → Prop, (∀ H', Nx H' → ∃ m', m' < m ∧ W (i + 1) m' H') ∧ ∀ x H', J.yld i H x H' → g x (wipe σ vs) H' fun σ2 H2 => wipe σ2 vs = wipe σ vs ∧ tYes σ2 H2 fun b H3 =>
        if b = true then te σ2 H3 fun y H4 => ∃ acc, H4 D = some (.lst acc) ∧ acc.length < sizeLine ∧ Nx (upd H4 D (.lst (acc ++ [y]))) else Nx H3) := by
  refine lc_accI w hD acc N h0 hN hz hG ?_ hd
  intro i x H H' R1 R2 hi ni sm hl y r1 r2
  refine monoG _ _ _ _ _ (hs i x H H' R1 hi ni sm hl y r1) ?_
  rintro σ2 H2 ⟨e, q⟩
  refine ⟨e, ?_⟩
  show if true = true then te σ2 H2 R1 else R2 H2
  rw [if_pos rfl]
  exact q
theorem lc_map {J : It} {n : Nat} {G : Hp → Prop} {Y : Nat → Hp → V → Hp → Prop} (w : Walk J n G Y) {g : TG} {te : TE} {vs : List Nat} {σ : L2.St} {H1 : Hp} {D : Addr} {Qd : Hp → Prop} (hD : H1 D = none) (acc : Nat → List V) (h0 : acc 0 = [])
    (hz : ∀ i, i < n → (acc i).length < sizeLine) (hG : ∀ H, Same H1 H → G H)
    (hs : ∀ i x H H' (R : V → Hp → Prop), i < n → Same H1 H → H D = some (.lst (acc i)) → Y i H x H' → (∀ y H4, Same H H4 → acc (i + 1) = acc i ++ [y] → R y H4) →
      g x (wipe σ vs) H' fun σ2 H2 => wipe σ2 vs = wipe σ vs ∧ te σ2 H2 R)
    (monoG : ∀ (x : V) (σ1 : L2.St) (H' : Hp) (A B : L2.St → Hp → Prop), g x σ1 H' A → (∀ σ2 H2, A σ2 H2 → B σ2 H2) → g x σ1 H' B)
    (hd : ∀ H, Same H1 H → H D = some (.lst (acc n)) → Qd H) :
    ∃ W : Nat → Nat → Hp → Prop, (∃ m, W 0 m (upd H1 D (.lst []))) ∧ ∀ i m H, W i m H →
      (J.stop i H ∧ Qd H) ∨ (J.go i H ∧ ∃ Nx : Hp → Prop, (∀ H', Nx H' → ∃ m', m' < m ∧ W (i + 1) m' H') ∧ ∀ x H', J.yld i H x H' → g x (wipe σ vs) H' fun σ2 H2 => wipe σ2 vs = wipe σ vs ∧ tYes σ2 H2 fun b H3 =>
        if b = true then te σ2 H3 fun y H4 => ∃ acc, H4 D = some (.lst acc) ∧ acc.length < sizeLine ∧ Nx (upd H4 D (.lst (acc ++ [y]))) else Nx H3) :=
  lc_mapI w hD acc (fun _ => True) h0 trivial hz hG (fun i x H H' R hi _ sm hl y r => hs i x H H' R hi sm hl y (fun z H4 k e => r z H4 k e trivial)) monoG (fun H _ sm hl => hd H sm hl)
/-- .. by what holds of the made list and of the heap -/
theorem lc_mapP {J : It} {n : Nat} {G : Hp → Prop} {Y : Nat → Hp → V → Hp → Prop} (w : Walk J n G Y) {g : TG} {te : TE} {vs : List Nat} {σ : L2.St} {H1 : Hp} {D : Addr} {Qd : Hp → Prop} (Pv : Nat → List V → Hp → Prop) (h0 : Pv 0 [] (upd H1 D (.lst [])))
    (hG : ∀ i acc H, i ≤ n → Pv i acc H → G H) (hz : ∀ i acc H, i < n → Pv i acc H → acc.length < sizeLine)
    (hs : ∀ i acc x H H' (R : V → Hp → Prop), i < n → Pv i acc H → Y i H x H' → (∀ y H4, H4 D = some (.lst acc) → Pv (i + 1) (acc ++ [y]) (upd H4 D (.lst (acc ++ [y]))) → R y H4) →
      g x (wipe σ vs) H' fun σ2 H2 => wipe σ2 vs = wipe σ vs ∧ te σ2 H2 R)
    (monoG : ∀ (x : V) (σ1 : L2.St) (H' : Hp) (A B : L2.St → Hp → Prop), g x σ1 H' A → (∀ σ2 H2, A σ2 H2 → B σ2 H2) → g x σ1 H' B)
    (hd : ∀ acc H, Pv n acc H → Qd H) :
    ∃ W : Nat → Nat → Hp → Prop, (∃ m, W 0 m (upd H1 D (.lst []))) ∧ ∀ i m H, W i m H →
      (J.stop i H ∧ Qd H) ∨ (J.go i H ∧ ∃ Nx : Hp → Prop, (∀ H', Nx H' → ∃ m', m' < m ∧ W (i + 1) m' H') ∧ ∀ x H', J.yld i H x H' → g x (wipe σ vs) H' fun σ2 H2 => wipe σ2 vs = wipe σ vs ∧ tYes σ2 H2 fun b H3 =>
        if b = true then te σ2 H3 fun y H4 => ∃ acc, H4 D = some (.lst acc) ∧ acc.length < sizeLine ∧ Nx (upd H4 D (.lst (acc ++ [y]))) else Nx H3) := by
  refine lc_it w (fun i H => ∃ acc, Pv i acc H) ⟨[], h0⟩ (fun i H hi p => p.elim fun acc p => hG i acc H hi p) ?_ (fun H p => p.elim fun acc p => hd acc H p)
  rintro i x H H' hi ⟨acc, p⟩ y
  have q := hs i acc x H H' (fun z H4 => ∃ acc0, H4 D = some (.lst acc0) ∧ acc0.length < sizeLine ∧ ∃ acc2, Pv (i + 1) acc2 (upd H4 D (.lst (acc0 ++ [z])))) hi p y (fun z H4 hD p2 => ⟨acc, hD, hz i acc H hi p, _, p2⟩)
  refine monoG _ _ _ _ _ q ?_
  rintro σ2 H2 ⟨e, q⟩
  refine ⟨e, ?_⟩
  show if true = true then te σ2 H2 (fun z H4 => ∃ acc0, H4 D = some (.lst acc0) ∧ acc0.length < sizeLine ∧ ∃ acc2, Pv (i + 1) acc2 (upd H4 D (.lst (acc0 ++ [z])))) else ∃ acc2, Pv (i + 1) acc2 H2
  rw [if_pos rfl]
  exact q
theorem mono_gName {i : Nat} : ∀ (x : V) (σ1 : L2.St) (H' : Hp) (A B : L2.St → Hp → Prop), gName i x σ1 H' A → (∀ σ2 H2, A σ2 H2 → B σ2 H2) → gName i x σ1 H' B := fun _ _ _ _ _ h k => k _ _ h
theorem take_map {α β : Type} {l : List α} {i : Nat} {x : α} (h : l[i]? = some x) (f : α → β) : (l.take (i + 1)).map f = (l.take i).map f ++ [f x] := by
  rw [List.take_add_one, h]
  simp
/-- for over it: P by the turn; each turn goes on to the next, or leaves by its own way out -/
theorem for_go {J : It} {n : Nat} {G : Hp → Prop} {Y : Nat → Hp → V → Hp → Prop} (w : Walk J n G Y) {g : TG} {tb : TS} {D : Ends} {σ : L2.St} {H : Hp} (P : Nat → L2.St → Hp → Prop) (h0 : P 0 σ H) (hG : ∀ i σ H, i ≤ n → P i σ H → G H)
    (hs : ∀ i x σ H H', i < n → P i σ H → Y i H x H' → g x σ H' fun σ2 H2 => tb { D with nx := P (i + 1), ct := P (i + 1), bk := D.nx } σ2 H2) (hd : ∀ σ H, P n σ H → D.nx σ H) :
    ∃ W : Nat → Nat → L2.St → Hp → Prop, (∃ m, W 0 m σ H) ∧ ∀ i m σ H, W i m σ H →
      (J.stop i H ∧ D.nx σ H) ∨ (J.go i H ∧ ∃ N : L2.St → Hp → Prop, (∀ σ' H', N σ' H' → ∃ m', m' < m ∧ W (i + 1) m' σ' H') ∧ ∀ x H', J.yld i H x H' → g x σ H' fun σ2 H2 => tb { D with nx := N, ct := N, bk := D.nx } σ2 H2) :=
  for_it w P h0 hG hs hd
theorem walk_enumT {K : PySem.W.Frag} {a : Addr} {xs : List V} : Walk (Itet K a) xs.length (fun H => SqT K H a xs) (YPair (fun i => some (.int (i : Nat))) (fun i => xs[i]?)) := by
  refine ⟨fun i _ hi q => ⟨xs, xs[i], q, by simp [hi]⟩, fun _ q => ⟨xs, q, rfl⟩, fun i H v H' _ q y => ?_⟩
  obtain ⟨T, x, h1, h2, h3, h4⟩ := y
  exact ⟨T, .int (i : Nat), x, h1, h2, h3, rfl, h4 xs q⟩

/-! ### a list or a tuple is walked -/
section
variable {X : Cx} {tg e : Expr}
def iSeq (K : PySem.W.Frag) (te : TE) : TI := fun σ H R => te σ H fun x H1 => ∃ a xs, x = .ref a ∧ (SqL K H1 a xs ∨ SqT K H1 a xs) ∧ ∀ J, Walk J xs.length (Same H1) (YAt xs) → R J H1
theorem pi_seq {te : TE} (he : PE X e te) : PI X tg e (iSeq X.K te) := by
  constructor
  intro pins s σ H R I h
  refine thn (he.run pins s σ H _ I h) ?_
  rintro v s1 ⟨x, H1, I1, r1, a, xs, ex, hq, q⟩
  subst ex
  cases r1
  have fresh : FpOk X pins H1 s1.heap.objs.size := I1.fpOk (Nat.le_refl _) (I1.hok.fresh (Nat.le_refl _))
  have one : ∀ b ∈ [s1.heap.objs.size], FpOk X pins H1 b := fun b hb => by
    rw [List.mem_singleton.mp hb]
    exact fresh
  rcases hq with hL | hT
  · obtain ⟨its, rv, p, hz⟩ := I1.list hL
    refine wpAny_pyIter_list (s := s1) p.isList ?_
    exact ⟨_, [s1.heap.objs.size], _, _, H1, rfl, I1.kept (t' := s1.toks) fun b o z => Heap.get?_push_of_some _ z, turn_list a _, ⟨_, Heap.get?_push_size _ rfl, rfl, rfl⟩, one,
      q _ (walk_list.mono (fun H2 sm => sm.seq hL) fun _ _ _ _ _ _ y => y)⟩
  · obtain ⟨its, rv, p, hz⟩ := I1.tuple hT
    refine wpAny_pyIter_tuple (s := s1) (show s1.heap.IsTuple a its.toArray from p) ?_
    exact ⟨_, [s1.heap.objs.size], _, _, H1, rfl, I1.kept (t' := s1.toks) fun b o z => Heap.get?_push_of_some _ z, turn_tuple a _, ⟨_, Heap.get?_push_size _ rfl, rfl, rfl⟩, one,
      q _ (walk_tup.mono (fun H2 sm => sqT_same sm hT) fun _ _ _ _ _ _ y => y)⟩
def iEnumU (K : PySem.W.Frag) (ta : TA) : TI := fun σ H R => ta σ H fun vs H1 => ∃ a xs, vs = [.ref a] ∧ (SqL K H1 a xs ∨ SqT K H1 a xs) ∧ ∀ J, Walk J xs.length (Same H1) (YPair (fun i => some (.int (i : Nat))) (fun i => xs[i]?)) → R J H1
theorem pi_enumU {ta : TA} {p pos tpos : Pos} {elts : List Expr} {kk : Nat} (hg : Gl X "enumerate") (hm : X.mg "enumerate" = none) (ha : PA X [e] ta) (hs : starEach [e] X.env = [(false, eval e X.env)] := by rfl) :
    PI X (.Tuple elts kk tpos) (.Call (.Name "enumerate" p) [e] [] pos) (iEnumU X.K ta) := by
  constructor
  intro pins s σ H R I h
  refine Call_ (ld_blt I hg hm boot_enumerate (PyProof.Rows.callWith_type1 (thn (ha.run pos pins s σ H _ I h) ?_) hs rfl))
  rintro us s1 ⟨vs, H1, I1, r1, a, xs, ex, hq, q⟩
  subst ex
  cases r1 with
  | cons r rr =>
    cases rr
    cases r
    have two : ∀ b ∈ [s1.heap.objs.size + 1, s1.heap.objs.size], FpOk X pins H1 b := by
      intro b hb
      have hle : s1.heap.objs.size ≤ b := by
        rcases List.mem_cons.mp hb with z | z
        · omega
        · have := List.mem_singleton.mp z
          omega
      exact I1.fpOk hle (I1.hok.fresh hle)
    rcases hq with hL | hT
    · obtain ⟨its, rv, p', hz⟩ := I1.list hL
      refine call_enumerate_list (s := s1) p'.isList fun h' he hit hsz hk => wpAny_pyIter_enum he ?_
      exact ⟨s1.heap.objs.size + 1, _, _, _, H1, rfl, I1.kept (t' := s1.toks) hk, turn_enum a (s1.heap.objs.size + 1) s1.heap.objs.size, ⟨⟨.none, he⟩, hit, Nat.succ_ne_self _⟩, two,
        q _ (walk_enum.mono (fun H2 sm => sm.seq hL) fun _ _ _ _ _ _ y => y)⟩
    · obtain ⟨its, rv, p', hz⟩ := I1.tuple hT
      have hlt : a < s1.heap.objs.size := by
        obtain ⟨o, z, _⟩ := id p'
        exact Heap.lt_size z
      refine callEnumT (s := s1) p' fun h' he hit hsz hk => wpAny_pyIter_enum he ?_
      exact ⟨s1.heap.objs.size + 1, _, _, _, H1, rfl, I1.kept (t' := s1.toks) hk, turn_enumT a (s1.heap.objs.size + 1) s1.heap.objs.size,
        ⟨⟨.none, he⟩, hit, Nat.succ_ne_self _, Nat.ne_of_lt hlt, Nat.ne_of_lt (Nat.lt_succ_of_lt hlt)⟩, two, q _ (walk_enumT.mono (fun H2 sm => sqT_same sm hT) fun _ _ _ _ _ _ y => y)⟩
end

/-! ### kinds of values -/
def tys : List String := ["NoneType", "bool", "int", "str", "list", "tuple", "dict"]
def isa (t u : String) : Bool := (kitB t u).getD false
def kinds : List String := ["str", "int", "bool", "list", "tuple", "dict"]
theorem isa_all : (tys.all fun t => kinds.all fun u => decide (kitB t u = some (isa t u))) = true := by decide +kernel
/-- the value's kind -/
structure Knd (K : PySem.W.Frag) (H : Hp) (v : V) (t : String) : Prop where
  ty : TyX K H v (.type t)
  mem : t ∈ tys
theorem Knd.one {K : PySem.W.Frag} {H : Hp} {v : V} {t : String} (k : Knd K H v t) (u : String) (hu : u ∈ kinds) : PySem.W.kitOne K (.type t) (.type u) = some (isa t u) :=
  kit_ty (of_decide_eq_true (List.all_eq_true.mp (List.all_eq_true.mp isa_all t k.mem) u hu))
theorem Knd.seq {K : PySem.W.Frag} {H : Hp} {v : V} {t : String} (k : Knd K H v t) : PySem.W.kitAny K (.type t) [.type "list", .type "tuple"] = some (isa t "list" || isa t "tuple") := by
  have h1 := k.one "list" (by decide)
  have h2 := k.one "tuple" (by decide)
  cases e1 : isa t "list" with
  | true => exact kitAny_cons (b := true) (by rw [h1, e1]) (fun z => by cases z) (fun _ => rfl)
  | false => exact kitAny_cons (b := false) (by rw [h1, e1]) (fun _ => kitAny_cons (b := isa t "tuple") h2 (fun z => by rw [z]; exact kitAny_nil) (fun z => by rw [z] <;> rfl)) (fun z => by cases z)
theorem TyX.same {K : PySem.W.Frag} {H H' : Hp} {v : V} {t : String} (e : Same H H') (h : TyX K H v (.type t)) : TyX K H' v (.type t) := by
  cases h with
  | base h =>
    cases h with
    | non => exact .base .non
    | bl x => exact .base (.bl x)
    | int i => exact .base (.int i)
    | str x => exact .base (.str x)
    | flt x => exact .base (.flt x)
    | lst q => exact .base (.lst (e _ _ q))
    | frz q => exact .base (.frz (e _ _ q))
    | tup q => exact .base (.tup (e _ _ q))
    | dK q => exact .base (.dK (e _ _ q))
    | dT q => exact .base (.dT (e _ _ q))
  | byt b => exact .byt b
  | set q => exact .set (e _ _ q)
  | kList q c => exact .kList q c
  | kTuple q c => exact .kTuple q c
  | kDict q c => exact .kDict q c
  | fTuple q => exact .fTuple (e _ _ q)
  | fDict q => exact .fDict (e _ _ q)
theorem Knd.same {K : PySem.W.Frag} {H H' : Hp} {v : V} {t : String} (e : Same H H') (h : Knd K H v t) : Knd K H' v t := ⟨TyX.same e h.ty, h.mem⟩
section
variable {K : PySem.W.Frag} {H : Hp}
theorem Knd.non : Knd K H .non "NoneType" := ⟨.base .non, by decide⟩
theorem Knd.bl (b : Bool) : Knd K H (.bl b) "bool" := ⟨.base (.bl b), by decide⟩
theorem Knd.int (i : Int) : Knd K H (.int i) "int" := ⟨.base (.int i), by decide⟩
theorem Knd.str (x : Str) : Knd K H (.str x) "str" := ⟨.base (.str x), by decide⟩
theorem Knd.sqL {a : Addr} {xs : List V} (h : SqL K H a xs) : Knd K H (.ref a) "list" := by
  refine ⟨?_, by decide⟩
  rcases h with (h | ⟨o, h⟩) | ⟨o, its, n, lk, hc, _⟩
  · exact .base (.lst h)
  · exact .base (.frz h)
  · exact .kList lk hc
theorem Knd.sqT {a : Addr} {xs : List V} (h : SqT K H a xs) : Knd K H (.ref a) "tuple" := by
  refine ⟨?_, by decide⟩
  rcases h with (h | ⟨o, h⟩) | ⟨o, its, n, lk, hc, _⟩
  · exact .base (.tup h)
  · exact .fTuple h
  · exact .kTuple lk hc
theorem Knd.dict {a : Addr} {kvs : List (Key × V)} (h : H a = some (.dK kvs)) : Knd K H (.ref a) "dict" := ⟨.base (.dK h), by decide⟩
theorem Knd.str_inv {v : V} {t : String} (k : Knd K H v t) (h : isa t "str" = true) : ∃ z, v = .str z := by
  obtain ⟨ty, m⟩ := k
  have e : t = "str" := by
    have q : (tys.all fun t => !isa t "str" || decide (t = "str")) = true := by decide +kernel
    have q2 := List.all_eq_true.mp q t m
    rw [h] at q2
    exact of_decide_eq_true q2
  obtain ⟨u, hu, ty⟩ : ∃ u, u = Value.type t ∧ TyX K H v u := ⟨_, rfl, ty⟩
  rw [e] at hu
  have no : ∀ s : String, s ≠ "str" → u = .type s → False := fun s hs q => hs (Value.type.inj (q.symm.trans hu))
  have noR : ∀ c : Addr, u = .ref c → False := fun c q => by
    rw [hu] at q
    cases q
  generalize hx : u = u' at ty
  cases ty with
  | base h =>
    cases h with
    | str x => exact ⟨x, rfl⟩
    | ins e2 cl ha hn htk hm => exact (noR _ hx).elim
    | _ => exact (no _ (by decide) hx).elim
  | _ => exact (no _ (by decide) hx).elim
end

/-! ### data: room, equality -/
/-- data of a depth -/
structure Sh (n : Nat) (d : PyData) : Prop where
  c : d.canLay0 = true
  d : d.depth ≤ n
theorem Sh.shaped {n : Nat} {d : PyData} (h : Sh n d) (hn : n ≤ 64 := by decide) : SeqAt.shaped d = true := by
  unfold SeqAt.shaped
  rw [h.c, decide_eq_true (Nat.le_trans h.d hn)] <;> rfl
theorem Sh.mono {n m : Nat} {d : PyData} (h : Sh n d) (hn : n ≤ m) : Sh m d := ⟨h.c, Nat.le_trans h.d hn⟩
theorem Sh.all {n : Nat} : ∀ {ds : List PyData}, (∀ d ∈ ds, Sh n d) → PyData.canLayAll0 ds = true ∧ PyData.depthAll ds ≤ n
  | [], _ => ⟨rfl, Nat.zero_le _⟩
  | d :: r, h => by
    obtain ⟨h1, h2⟩ := Sh.all (ds := r) fun e he => h e (List.mem_cons_of_mem _ he)
    have h3 := h d List.mem_cons_self
    refine ⟨?_, ?_⟩
    · show (d.canLay0 && PyData.canLayAll0 r) = true
      rw [h3.c, h1] <;> rfl
    · show max d.depth (PyData.depthAll r) ≤ n
      have := h3.d
      omega
theorem Sh.list {n : Nat} {ds : List PyData} (h : ∀ d ∈ ds, Sh n d) : Sh (n + 1) (.list ds) := by
  obtain ⟨h1, h2⟩ := Sh.all h
  refine ⟨by show PyData.canLayAll0 ds = true; exact h1, ?_⟩
  show PyData.depthAll ds + 1 ≤ n + 1
  omega
theorem Sh.tup {n : Nat} {ds : List PyData} (h : ∀ d ∈ ds, Sh n d) : Sh (n + 1) (.tuple ds) := by
  obtain ⟨h1, h2⟩ := Sh.all h
  refine ⟨by show PyData.canLayAll0 ds = true; exact h1, ?_⟩
  show PyData.depthAll ds + 1 ≤ n + 1
  omega
theorem Sh.non : Sh 0 .none := ⟨rfl, Nat.le_refl _⟩
theorem Sh.bl (b : Bool) : Sh 0 (.bool b) := ⟨rfl, Nat.le_refl _⟩
theorem Sh.int (i : Int) : Sh 0 (.int i) := ⟨rfl, Nat.le_refl _⟩
theorem Sh.str {x : Str} (h : PyData.strOk x = true) : Sh 0 (.str x) := ⟨h, Nat.le_refl _⟩
theorem eqvAll_str : ∀ xs ys : List Str, PyData.eqvAll (xs.map PyData.str) (ys.map PyData.str) = decide (xs = ys)
  | [], [] => rfl
  | [], _ :: _ => rfl
  | _ :: _, [] => rfl
  | x :: xs, y :: ys => by
    show ((x == y) && PyData.eqvAll (xs.map PyData.str) (ys.map PyData.str)) = _
    rw [eqvAll_str xs ys]
    by_cases h : x = y
    · subst h
      simp
    · simp [h]
theorem eqvAll_int : ∀ xs ys : List Int, PyData.eqvAll (xs.map PyData.int) (ys.map PyData.int) = decide (xs = ys)
  | [], [] => rfl
  | [], _ :: _ => rfl
  | _ :: _, [] => rfl
  | x :: xs, y :: ys => by
    show ((x == y) && PyData.eqvAll (xs.map PyData.int) (ys.map PyData.int)) = _
    rw [eqvAll_int xs ys]
    by_cases h : x = y
    · subst h
      simp
    · simp [h]

/-! ### texts of steps -/
def steps : List Nat := [97, 65, 98, 66, 99, 67, 100, 68]
abbrev Pth := List Nat
def tx (p : Pth) : Str := ⟨p.toArray⟩
/-- the other case of a step -/
def sw (c : Nat) : Nat := if c < 97 then c + 32 else c - 32
theorem stepsS : (Str.ofString "aAbBcCdD").cps.toList = steps := by decide +kernel
def okS (z : Str) : Bool := decide (z.cps.size ≤ 400) && z.cps.toList.all fun c => decide (c ∈ steps)
def isP (v : V) : Bool := match v with
  | .str z => okS z
  | _ => false
theorem isP_not {K : PySem.W.Frag} {H : Hp} {v : V} {t : String} (k : Knd K H v t) (h : isa t "str" = false) : isP v = false := by
  cases v with
  | str z =>
    obtain ⟨ty, m⟩ := k
    obtain ⟨u, hu, ty⟩ : ∃ u, u = Value.type t ∧ TyX K H (.str z) u := ⟨_, rfl, ty⟩
    generalize hx : u = u' at ty
    cases ty with
    | base q =>
      cases q with
      | str x =>
        have e : isa "str" "str" = true := by decide +kernel
        rw [← Value.type.inj (hx.symm.trans hu), e] at h
        cases h
  | _ => rfl
/-- one step more behind what is kept -/
def rstep (k : Pth) (c : Nat) : Pth := match k.getLast? with
  | some d => if d = sw c then k.dropLast else k ++ [c]
  | none => [c]
def red (p : Pth) : Pth := p.foldl rstep []
theorem swap1 : ∀ c ∈ steps, Txt.swapcase ⟨#[c]⟩ = ⟨#[sw c]⟩ := by decide +kernel
end W8

/-! W8, part 8: paths: what the promises of their defs speak of. -/
namespace W8
open PySem PySem.Spec PyProof.Rows L2
/-- a value of a known kind, no text too long for the machine -/
def VOK (K : PySem.W.Frag) (H : Hp) (v : V) : Prop := ∃ t, Knd K H v t ∧ ∀ z, v = .str z → z.length ≤ sizeLine
theorem VOK.same {K : PySem.W.Frag} {H H' : Hp} {v : V} (e : Same H H') (h : VOK K H v) : VOK K H' v := by
  obtain ⟨t, k, z⟩ := h
  exact ⟨t, k.same e, z⟩
/-- a new exception of the class at C with the field f goes out -/
def Rz (C : Addr) (f : Str) (v : V) (H : Hp) (E : XK) : Prop := ∀ H' d, Same H H' → H' d = some (.xd [(f, v)]) → E (.ref C) (some d) H'
theorem Rz.same {C : Addr} {f : Str} {v : V} {H H' : Hp} {E : XK} (e : Same H H') (h : Rz C f v H E) : Rz C f v H' E := fun H1 d s q => h H1 d (e.trans s) q
theorem Rz.go {C : Addr} {f : Str} {v : V} {H : Hp} {E : XK} (h : Rz C f v H E) (d : Addr) (n : H d = none) : E (.ref C) (some d) (upd H d (.xd [(f, v)])) := h _ d (same_upd n) upd_same
theorem sqL_same {K : PySem.W.Frag} {H H' : Hp} {a : Addr} {xs : List V} (e : Same H H') (h : SqL K H a xs) : SqL K H' a xs := e.seq h
/-- the texts of single steps -/
def sgn (k : Pth) : List V := k.map fun c => V.str ⟨#[c]⟩
theorem eqv_nil (ds : List PyData) : PyData.eqv (.list ds) (.list []) = ds.isEmpty := by
  cases ds with
  | nil => simp [PyData.eqv, PyData.eqvAll]
  | cons d r => simp [PyData.eqv, PyData.eqvAll]
theorem dp_sgn {K : PySem.W.Frag} {H : Hp} {l : Addr} {k : Pth} (h : H l = some (.lst (sgn k))) : Dp K H (.ref l) (.list (k.map fun c => PyData.str ⟨#[c]⟩)) :=
  .lst (.inl (.inl h)) (DpAll_map (f := fun c => V.str ⟨#[c]⟩) (g := fun c => PyData.str ⟨#[c]⟩) (fun c => .str _) k)
theorem rstep_mem {k : Pth} {c d : Nat} (h : d ∈ rstep k c) : d ∈ k ∨ d = c := by
  unfold rstep at h
  split at h
  · split at h
    · exact .inl (List.dropLast_subset _ h)
    · rcases List.mem_append.mp h with h | h
      · exact .inl h
      · exact .inr (List.mem_singleton.mp h)
  · exact .inr (List.mem_singleton.mp h)
theorem redF_mem : ∀ (p k : Pth) {d : Nat}, d ∈ p.foldl rstep k → d ∈ k ∨ d ∈ p
  | [], k, d, h => .inl h
  | c :: p, k, d, h => by
    rcases redF_mem p (rstep k c) h with h | h
    · rcases rstep_mem h with h | h
      · exact .inl h
      · exact .inr (by rw [h]; exact List.mem_cons_self)
    · exact .inr (List.mem_cons_of_mem _ h)
theorem red_mem {p : Pth} {d : Nat} (h : d ∈ red p) : d ∈ p := by
  rcases redF_mem p [] h with h | h
  · cases h
  · exact h
theorem step_ok : ∀ c ∈ steps, PyData.strOk ⟨#[c]⟩ = true := by decide +kernel
theorem sh_sgn {k : Pth} (h : ∀ c ∈ k, c ∈ steps) : Sh 1 (.list (k.map fun c => PyData.str ⟨#[c]⟩)) := Sh.list (n := 0) fun d hd => by
  obtain ⟨c, hc, rfl⟩ := List.mem_map.mp hd
  exact Sh.str (step_ok c (h c hc))
theorem rstep_len (k : Pth) (c : Nat) : (rstep k c).length ≤ k.length + 1 := by
  unfold rstep
  split
  · split
    · simp only [List.length_dropLast]
      omega
    · simp
  · simp
theorem redF_len : ∀ (p k : Pth), (p.foldl rstep k).length ≤ k.length + p.length
  | [], k => by simp
  | c :: p, k => by
    have h1 := redF_len p (rstep k c)
    have h2 := rstep_len k c
    simp only [List.foldl_cons, List.length_cons]
    omega
theorem red_len (p : Pth) : (red p).length ≤ p.length := by
  have := redF_len p []
  simpa [red] using this
theorem parts_len {ps : List Pth} {p : Pth} {i j : Nat} (h : ps[i]? = some p) : ((ps.take i).flatten ++ p.take j).length ≤ ps.flatten.length := by
  have e : ps = ps.take i ++ (p :: ps.drop (i + 1)) := by
    have h1 := List.take_append_drop i ps
    obtain ⟨hi, h2⟩ := List.getElem?_eq_some_iff.mp h
    rw [List.drop_eq_getElem_cons hi, h2] at h1
    exact h1.symm
  conv => rhs; rw [e]
  simp only [List.length_append, List.flatten_append, List.flatten_cons, List.length_take]
  omega
theorem upd_at {H H1 : Hp} {l : Addr} {o : HO} (s : Same H H1) (h : H l = none) : Same H (upd H1 l o) := by
  intro b u e
  have nb : b ≠ l := by
    intro z
    rw [z, h] at e
    cases e
  rw [upd_ne nb]
  exact s b u e
theorem joinL_ones : ∀ k : Pth, TL.joinL [] (k.map fun c => [c]) = k
  | [] => rfl
  | [c] => rfl
  | c :: d :: k => by
    show [c] ++ ([] ++ TL.joinL [] ((d :: k).map fun c => [c])) = _
    rw [joinL_ones (d :: k)] <;> rfl
theorem join_sgn (k : Pth) : Txt.join (Str.ofString "") (k.map fun c => ⟨#[c]⟩) = tx k := by
  have h := SX.join_S [] (k.map fun c => [c])
  rw [joinL_ones, List.map_map] at h
  exact h
/-- a list or tuple of these -/
def SeqV (K : PySem.W.Frag) (H : Hp) (v : V) (xs : List V) : Prop := ∃ a, v = .ref a ∧ (SqL K H a xs ∨ SqT K H a xs)
theorem SeqV.same {K : PySem.W.Frag} {H H' : Hp} {v : V} {xs : List V} (e : Same H H') (h : SeqV K H v xs) : SeqV K H' v xs := by
  obtain ⟨a, rfl, h | h⟩ := h
  · exact ⟨a, rfl, .inl (sqL_same e h)⟩
  · exact ⟨a, rfl, .inr (sqT_same e h)⟩
theorem SeqV.len {K : PySem.W.Frag} {H : Hp} {v : V} {xs : List V} (h : SeqV K H v xs) : LenV K v H xs.length := by
  obtain ⟨a, rfl, h | h⟩ := h
  · exact .inl ⟨xs, h, rfl⟩
  · exact .inr ⟨xs, h, rfl⟩
theorem SeqV.knd {K : PySem.W.Frag} {H : Hp} {v : V} {xs : List V} (h : SeqV K H v xs) : ∃ t, Knd K H v t ∧ (isa t "list" || isa t "tuple") = true := by
  obtain ⟨a, rfl, h | h⟩ := h
  · exact ⟨"list", .sqL h, by decide +kernel⟩
  · exact ⟨"tuple", .sqT h, by decide +kernel⟩
/-- what stands for a list of paths: no list and no tuple, or one of values of known kinds -/
inductive GenV (K : PySem.W.Frag) (H : Hp) : V → Option (List V) → Prop
  | bad {v : V} {t : String} (k : Knd K H v t) (e : (isa t "list" || isa t "tuple") = false) : GenV K H v none
  | seq {v : V} {xs : List V} (h : SeqV K H v xs) (a : ∀ x ∈ xs, VOK K H x) (n : xs.length ≤ 1000000) : GenV K H v (some xs)
theorem GenV.same {K : PySem.W.Frag} {H H' : Hp} {v : V} {o : Option (List V)} (e : Same H H') (h : GenV K H v o) : GenV K H' v o := by
  cases h with
  | bad k q => exact .bad (k.same e) q
  | seq h a n => exact .seq (h.same e) (fun x hx => (a x hx).same e) n
theorem GenV.knd {K : PySem.W.Frag} {H : Hp} {v : V} {o : Option (List V)} (h : GenV K H v o) : ∃ t, Knd K H v t ∧ (isa t "list" || isa t "tuple") = o.isSome := by
  cases h with
  | bad k q => exact ⟨_, k, q⟩
  | seq h a n => exact h.knd
/-- the place of the first that is no path -/
def firstBad (xs : List V) : Option Nat := xs.findIdx? fun v => !isP v
theorem cls2 : Paired ClsV [.ty "list", .ty "tuple"] [.type "list", .type "tuple"] := .cons (.ty _) (.cons (.ty _) .nil)
theorem first_of {xs : List V} {i : Nat} {x : V} (hx : xs[i]? = some x) (e : isP x = false) (all : ∀ j < i, ∀ z, xs[j]? = some z → isP z = true) : firstBad xs = some i := by
  obtain ⟨hi, ex⟩ := List.getElem?_eq_some_iff.mp hx
  rw [firstBad, List.findIdx?_eq_some_iff_getElem]
  refine ⟨hi, by rw [ex, e] <;> rfl, fun j hj => ?_⟩
  have hj2 : j < xs.length := Nat.lt_trans hj hi
  rw [all j hj xs[j] (by rw [List.getElem?_eq_getElem hj2])]
  simp
/-- the codes of a text -/
def cdV (v : V) : Pth := match v with
  | .str z => z.cps.toList
  | _ => []
theorem isP_str {v : V} (h : isP v = true) : ∃ p : Pth, v = .str (tx p) ∧ cdV v = p ∧ p.length ≤ 400 ∧ ∀ c ∈ p, c ∈ steps := by
  cases v with
  | str z =>
    have h2 : (decide (z.cps.size ≤ 400) && z.cps.toList.all fun c => decide (c ∈ steps)) = true := h
    obtain ⟨h3, h4⟩ := Bool.and_eq_true_iff.mp h2
    refine ⟨z.cps.toList, by rw [show tx z.cps.toList = z from SX.S_tl z], rfl, ?_, fun c hc => of_decide_eq_true (List.all_eq_true.mp h4 c hc)⟩
    have := of_decide_eq_true h3
    simpa using this
  | _ => cases h
theorem isP_tx {p : Pth} (h1 : p.length ≤ 400) (h2 : ∀ c ∈ p, c ∈ steps) : isP (.str (tx p)) = true := by
  show (decide (p.toArray.size ≤ 400) && p.toArray.toList.all fun c => decide (c ∈ steps)) = true
  rw [decide_eq_true (by simpa using h1)]
  simp only [Bool.true_and]
  exact List.all_eq_true.mpr fun c hc => decide_eq_true (h2 c (by simpa using hc))
/-- what comes of a list of paths -/
inductive GOut where
  | bad (v : V)
  | lim (n : Int)
  | ok (ps : List Pth)
def rdV (v : V) : Pth := red (cdV v)
def genOut : Option (List V) → GOut
  | none => .bad .non
  | some xs => match firstBad xs with
    | some i => .bad (.int (i : Nat))
    | none => if 16 < xs.length then .lim 16 else if (xs.any fun v => decide (60 < (rdV v).length)) = true then .lim 60 else .ok (xs.map rdV)
/-- the reading of a list of paths: its errors, or the reduced ones -/
def GRd (K : PySem.W.Frag) (o : GOut) (H : Hp) (E : XK) (next : List Pth → Prop) : Prop := match o with
  | .bad v => Rz (He.ga K "InvalidPaths") "index" v H E
  | .lim n => Rz (He.ga K "LimitExceeded") "limit" (.int n) H E
  | .ok ps => next ps
theorem GRd.imp {K : PySem.W.Frag} {o : GOut} {H : Hp} {E : XK} {n1 n2 : List Pth → Prop} (h : GRd K o H E n1) (f : ∀ ps, n1 ps → n2 ps) : GRd K o H E n2 := by
  cases o with
  | bad v => exact h
  | lim n => exact h
  | ok ps => exact f ps h
theorem GRd.no {K : PySem.W.Frag} {o : GOut} {H : Hp} {E : XK} {n : List Pth → Prop} (h : GRd K o H E fun _ => False) : GRd K o H E n := h.imp fun _ z => z.elim
theorem GRd.at {K : PySem.W.Frag} {o : GOut} {H H' : Hp} {E : XK} (e : Same H H') (h : GRd K o H E fun _ => False) : GRd K o H' E fun _ => False := by
  cases o with
  | bad v => exact Rz.same e h
  | lim n => exact Rz.same e h
  | ok ps => exact h
/-- a list of paths that is refused -/
def Rg1 (K : PySem.W.Frag) (a : V) (H : Hp) (E : XK) : Prop := ∃ o, GenV K H a o ∧ GRd K (genOut o) H E fun _ => False
/-- two lists of paths, the first or the second is refused -/
def Rg2 (K : PySem.W.Frag) (a b : V) (H : Hp) (E : XK) : Prop := ∃ o, GenV K H a o ∧ ∃ o2, GenV K H b o2 ∧ GRd K (genOut o) H E fun _ => GRd K (genOut o2) H E fun _ => False
theorem firstBad_none {xs : List V} (h : firstBad xs = none) : ∀ x ∈ xs, isP x = true := by
  intro x hx
  have z := List.findIdx?_eq_none_iff.mp h x hx
  cases e : isP x with
  | true => rfl
  | false =>
    rw [e] at z
    cases z
theorem genOut_bad {xs : List V} {i : Nat} (h : firstBad xs = some i) : genOut (some xs) = .bad (.int (i : Nat)) := by
  unfold genOut
  simp only [h]
theorem genOut_16 {xs : List V} (h : firstBad xs = none) (h16 : 16 < xs.length) : genOut (some xs) = .lim 16 := by
  unfold genOut
  simp only [h, if_pos h16]
theorem genOut_60 {xs : List V} {x : V} (h : firstBad xs = none) (h16 : ¬ 16 < xs.length) (hx : x ∈ xs) (h60 : 60 < (rdV x).length) : genOut (some xs) = .lim 60 := by
  have e : (xs.any fun v => decide (60 < (rdV v).length)) = true := List.any_eq_true.mpr ⟨x, hx, decide_eq_true h60⟩
  unfold genOut
  simp only [h, if_neg h16, if_pos e]
theorem genOut_ok {xs : List V} (h : firstBad xs = none) (h16 : ¬ 16 < xs.length) (h60 : ∀ x ∈ xs, (rdV x).length ≤ 60) : genOut (some xs) = .ok (xs.map rdV) := by
  have e : ¬ (xs.any fun v => decide (60 < (rdV v).length)) = true := by
    intro z
    obtain ⟨x, hx, q⟩ := List.any_eq_true.mp z
    have := of_decide_eq_true q
    have := h60 x hx
    omega
  unfold genOut
  simp only [h, if_neg h16, if_neg e]
end W8

/-! W8, part 9: what the laws' own defs share: pools of numbers, draws. -/
namespace W8
open PySem PySem.Spec PyProof.Rows L2
/-- a pool of numbers at l -/
def PoolAt (H : Hp) (l : Addr) : Prop := ∃ u w : Int, H l = some (.lst [.int u, .int w]) ∧ 0 ≤ u ∧ 0 ≤ w ∧ w < 2147483648
theorem cutV_ints (ns : List Int) (lo hi : Option Int) : ∃ ms : List Int, cutV (ns.map V.int) lo hi = ms.map V.int := by
  unfold cutV
  rw [← List.map_drop, ← List.map_take]
  exact ⟨_, rfl⟩
def sp_law_pool (K : PySem.W.Frag) : Sp := Sp2 fun a b H Q _ => ∃ (x : Addr) (ns : List Int) (i : Int), a = .ref x ∧ SqL K H x (ns.map V.int) ∧ ns.length ≤ 1000 ∧ b = .int i ∧ 0 ≤ i ∧ i < 1000 ∧
  ∀ (l : Addr) (H' : Hp), H l = none → Same H H' → PoolAt H' l → Q (.ref l) H'
def sp_law_draw (K : PySem.W.Frag) : Sp := Sp2 fun a b H Q _ => ∃ (l : Addr) (m : Int), a = .ref l ∧ PoolAt H l ∧ b = .int m ∧ 0 < m ∧ m.natAbs.log2 < 9000 ∧
  ∀ (d u w : Int), 0 ≤ d → d < m → 0 ≤ u → 0 ≤ w → w < 2147483648 → Q (.int d) (upd H l (.lst [.int u, .int w]))
abbrev sp_law_take := sp_law_draw

/-! ### texts of steps, seen by the text's rules -/
theorem tx_list (p : Pth) : (tx p).cps.toList = p := by
  show p.toArray.toList = p
  simp
theorem tx_size (p : Pth) : (tx p).cps.size = p.length := by
  show p.toArray.size = p.length
  simp
theorem tx_len (p : Pth) : (tx p).length = p.length := tx_size p
theorem tx_at {p : Pth} {i c : Nat} : (tx p).cps[i]? = some c ↔ p[i]? = some c := by
  rw [← Array.getElem?_toList, tx_list]
theorem tx_nil : Str.ofString "" = tx [] := by decide +kernel
theorem tx_one (c : Nat) : (⟨#[c]⟩ : Str) = tx [c] := rfl
theorem tx_inj {p q : Pth} (h : tx p = tx q) : p = q := SX.S_inj h
theorem tx_cat (p q : Pth) : tx p ++ tx q = tx (p ++ q) := SX.S_cat p q
theorem big_line : (16000000 : Nat) ≤ sizeLine := by decide
theorem dec_str {p q : Pth} : decide (V.str (tx p) = V.str (tx q)) = decide (p = q) := by
  by_cases h : p = q
  · rw [h, decide_eq_true rfl, decide_eq_true rfl]
  · rw [decide_eq_false h, decide_eq_false]
    intro z
    exact h (tx_inj (V.str.inj z))
theorem at_last (k : Pth) (d : Nat) : atI (tx (k ++ [d])).cps.toList (-1) = some d := by
  rw [tx_list]
  exact atI_last k d
theorem cut_last (k : Pth) (d : Nat) : cutS (tx (k ++ [d])) none (some (-1)) = tx k := by
  rw [C8.cutS_slice]
  exact SX.butlast_snoc k d
theorem red_take {p : Pth} {i c : Nat} (h : p[i]? = some c) : red (p.take (i + 1)) = rstep (red (p.take i)) c := by
  rw [List.take_add_one, h]
  simp only [red, Option.toList_some, List.foldl_append, List.foldl_cons, List.foldl_nil]
theorem rstep_snoc (k : Pth) (d c : Nat) : rstep (k ++ [d]) c = if d = sw c then k else k ++ [d] ++ [c] := by simp [rstep]

/-! ### a text so many times -/
theorem fold_toL : ∀ (l : List (Array Nat)) (a : Array Nat), (l.foldl (· ++ ·) a).toList = a.toList ++ (l.map Array.toList).flatten
  | [], a => by simp
  | b :: l, a => by
    rw [List.foldl_cons, fold_toL l (a ++ b)]
    simp
theorem mul_tx (p : Pth) (n : Int) (h : 0 ≤ n) : Txt.mul (tx p) n = tx (List.replicate n.toNat p).flatten := by
  unfold Txt.mul
  by_cases h1 : n < 1
  · have e : n = 0 := by omega
    subst e
    rw [if_pos h1]
    rfl
  · rw [if_neg h1]
    by_cases h2 : (n == 1 || (tx p).length == 0) = true
    · rw [if_pos h2]
      rcases Bool.or_eq_true_iff.mp h2 with h3 | h3
      · have e : n = 1 := by simpa using h3
        subst e
        simp
      · have e : p = [] := by
          have := eq_of_beq h3
          rw [tx_len] at this
          exact List.length_eq_zero_iff.mp this
        subst e
        simp
    · rw [if_neg h2]
      refine congrArg Str.mk ?_
      apply Array.ext'
      rw [fold_toL]
      simp [tx]
def rSrep : R2 := fun x y H Q => ∃ (p : Pth) (n : Int), x = .str (tx p) ∧ y = .int n ∧ 0 ≤ n ∧ n ≤ 1000000 ∧ p.length ≤ 1000 ∧ p.length * n.toNat ≤ 16000000 ∧ Q (.str (tx (List.replicate n.toNat p).flatten)) H
theorem op_srep {X : Cx} : OpR X (binaryOp .Mult) rSrep := by
  intro pins s σ H x y v u Q I rx ry h
  obtain ⟨p, n, rfl, rfl, h0, h1, hp, hz, q⟩ := h
  obtain ⟨t, rfl⟩ := rx
  obtain ⟨t2, rfl⟩ := ry
  have bl := big_line
  refine SB.mul ⟨?_, fun h2 _ => ?_, fun h2 _ => ?_⟩ fun t' k => ⟨.str (Txt.mul (tx p) n), H, I.tok _, ⟨_, rfl⟩, by rw [mul_tx p n h0]; exact q⟩
  · rw [decide_eq_false (by omega), decide_eq_false (by omega)] <;> rfl
  · rw [tx_len]
    have h3 : (1 : Int) ≤ n := by omega
    have h4 : (2 ^ 63 - 1 : Int) / 1000000 ≤ (2 ^ 63 - 1) / n := by
      have e1 : (2 ^ 63 - 1 : Int) / 1000000 * n ≤ 2 ^ 63 - 1 := by
        have := Int.mul_le_mul_of_nonneg_left h1 (show (0 : Int) ≤ (2 ^ 63 - 1) / 1000000 by decide)
        omega
      exact (Int.le_ediv_iff_mul_le (by omega)).mpr e1
    have h5 : ((2 ^ 63 - 1 : Int) / 1000000) ≥ 1000 := by decide
    omega
  · rw [tx_len]
    unfold Builtin.Str.tooLong
    exact decide_eq_false (by omega)

/-! ### places of steps -/
def rIndex1 : V → List V → Hp → VK → Prop := fun x xs H Q => ∃ (a b : Str) (k : Nat) (rest : List Nat), x = .str a ∧ xs = [.str b] ∧ Builtin.Str.occurrences a b 0 a.length 1 = k :: rest ∧ Q (.int (k : Nat)) H
theorem mt_index1 {X : Cx} : MtR X "str.index" rIndex1 := by
  intro pins s σ H x xs v us Q I rx rs h
  obtain ⟨a, b, k, rest, rfl, rfl, q, hq⟩ := h
  obtain ⟨t, rfl⟩ := rx
  cases rs with
  | cons r1 rs =>
    cases rs
    obtain ⟨u, rfl⟩ := r1
    exact PySem.SC.index q ⟨.int (k : Nat), H, I.tok _, ⟨_, rfl⟩, hq⟩
/-- a step's place among the steps -/
def sidx (c : Nat) : Nat := steps.idxOf c
theorem occ_step : ∀ c ∈ steps, Builtin.Str.occurrences (Str.ofString "aAbBcCdD") ⟨#[c]⟩ 0 (Str.ofString "aAbBcCdD").length 1 = [sidx c] := by decide +kernel
theorem back_step : ∀ c ∈ steps, atI (Str.ofString "aAbBcCdD").cps.toList (Builtin.bitXor ((sidx c : Nat) : Int) 1) = some (sw c) := by decide +kernel
theorem sw_step : ∀ c ∈ steps, sw c ∈ steps := by decide
theorem sw_sw : ∀ c ∈ steps, sw (sw c) = c := by decide
def sp_law_back (_ : PySem.W.Frag) : Sp := Sp1 fun v H Q _ => ∃ c ∈ steps, v = .str ⟨#[c]⟩ ∧ Q (.str ⟨#[sw c]⟩) H
abbrev sp_law_inverse_step := sp_law_back
def sp_law_short (_ : PySem.W.Frag) : Sp := Sp1 fun v H Q _ => ∃ p : Pth, v = .str (tx p) ∧ (∀ c ∈ p, c ∈ steps) ∧ p.length ≤ 100000 ∧ ∀ H', Same H H' → Q (.str (tx (red p))) H'
abbrev sp_law_reduced := sp_law_short

/-! ### what a list of paths is expected to give -/
def expV : GOut → List V
  | .bad v => [.str (Str.ofString "paths"), v]
  | .lim n => [.str (Str.ofString "limit"), .int n]
  | .ok _ => [.str (Str.ofString "valid")]
def sp_law_expected (K : PySem.W.Frag) : Sp := Sp1 fun v H Q _ => ∃ o, GenV K H v o ∧ (∀ xs, o = some xs → ∀ x ∈ xs, ∀ z, x = .str z → PyData.strOk z = true) ∧
  ∀ l H', Same H H' → H l = none → H' l = some (.lst (expV (genOut o))) → Q (.ref l) H'
theorem dpAll_paths {K : PySem.W.Frag} {H : Hp} : ∀ {ys : List V}, (∀ y ∈ ys, isP y = true) → DpAll K H ys (ys.map fun v => PyData.str (tx (cdV v)))
  | [], _ => .nil
  | y :: ys, h => by
    obtain ⟨p, e, ec, _⟩ := isP_str (h y List.mem_cons_self)
    refine .cons ?_ (dpAll_paths fun z hz => h z (List.mem_cons_of_mem _ hz))
    rw [e]
    exact .str _
theorem strOk_of {p : Pth} (h : ∀ c ∈ p, c < 1114112) : PyData.strOk (tx p) = true := by
  unfold PyData.strOk
  rw [← Array.all_toList, tx_list]
  exact List.all_eq_true.mpr fun c hc => decide_eq_true (h c hc)
theorem step_lt : ∀ c ∈ steps, c < 1114112 := by decide
theorem sh_paths {ys : List V} (h : ∀ y ∈ ys, isP y = true) : Sh 1 (.list (ys.map fun v => PyData.str (tx (cdV v)))) := Sh.list (n := 0) fun d hd => by
  obtain ⟨y, hy, rfl⟩ := List.mem_map.mp hd
  obtain ⟨p, e, ec, _, hs⟩ := isP_str (h y hy)
  rw [ec]
  exact Sh.str (strOk_of fun c hc => step_lt c (hs c hc))
theorem sh_signs {z : Str} (h : PyData.strOk z = true) (f : Nat → Bool) : Sh 1 (.list ((z.cps.toList.filter f).map fun c => PyData.str ⟨#[c]⟩)) := Sh.list (n := 0) fun d hd => by
  obtain ⟨c, hc, rfl⟩ := List.mem_map.mp hd
  unfold PyData.strOk at h
  rw [← Array.all_toList] at h
  have h2 := of_decide_eq_true (List.all_eq_true.mp h c (List.mem_filter.mp hc).1)
  exact Sh.str (strOk_of (p := [c]) fun e he => by rw [List.mem_singleton.mp he]; exact h2)
theorem sh_nil : Sh 1 (.list []) := Sh.list (n := 0) fun d z => by cases z
theorem take_filter {α : Type} {l : List α} {i : Nat} {x : α} (h : l[i]? = some x) (f : α → Bool) : (l.take (i + 1)).filter f = if f x = true then (l.take i).filter f ++ [x] else (l.take i).filter f := by
  rw [List.take_add_one, h]
  simp only [Option.toList_some, List.filter_append, List.filter_cons, List.filter_nil]
  split
  · rfl
  · simp
theorem okS_eq (z : Str) : okS z = (decide (z.cps.size ≤ 400) && (z.cps.toList.filter fun c => !decide (c ∈ steps)).isEmpty) := by
  unfold okS
  congr 1
  rw [Bool.eq_iff_iff, List.all_eq_true, List.isEmpty_iff, List.filter_eq_nil_iff]
  simp

/-! ### heaps that differ at one place -/
def SameB (l : Addr) (H H' : Hp) : Prop := ∀ b o, b ≠ l → H b = some o → H' b = some o
theorem SameB.refl (l : Addr) (H : Hp) : SameB l H H := fun _ _ _ h => h
theorem SameB.trans {l : Addr} {H H1 H2 : Hp} (a : SameB l H H1) (b : SameB l H1 H2) : SameB l H H2 := fun c o n h => b c o n (a c o n h)
theorem SameB.of {l : Addr} {H H' : Hp} (a : Same H H') : SameB l H H' := fun c o _ h => a c o h
theorem SameB.upd {l : Addr} {H : Hp} {o : HO} : SameB l H (L2.upd H l o) := fun c u n h => by
  rw [upd_ne n]
  exact h
theorem SameB.put {l a : Addr} {H H1 : Hp} {o : HO} (s : SameB l H H1) (h : H a = none) : SameB l H (L2.upd H1 a o) := fun c u n q => by
  have nc : c ≠ a := by
    intro z
    rw [z, h] at q
    cases q
  rw [upd_ne nc]
  exact s c u n q
theorem SameB.free {l a : Addr} {H H1 : Hp} (s : SameB l H H1) (h : H1 a = none) (n : a ≠ l) : H a = none := by
  cases e : H a with
  | none => rfl
  | some o =>
    rw [s a o n e] at h
    cases h
theorem PoolAt.upd {l : Addr} {H : Hp} {u w : Int} (hu : 0 ≤ u) (hw : 0 ≤ w) (hw2 : w < 2147483648) : PoolAt (L2.upd H l (.lst [.int u, .int w])) l := ⟨u, w, upd_same, hu, hw, hw2⟩
theorem PoolAt.ne {l a : Addr} {H : Hp} (h : PoolAt H l) (n : H a = none) : a ≠ l := by
  obtain ⟨u, w, e, _⟩ := h
  intro z
  rw [z, e] at n
  cases n
theorem PoolAt.same {l : Addr} {H H' : Hp} (h : PoolAt H l) (s : Same H H') : PoolAt H' l := by
  obtain ⟨u, w, e, r⟩ := h
  exact ⟨u, w, s _ _ e, r⟩
theorem PoolAt.put {l a : Addr} {H : Hp} {o : HO} (h : PoolAt H l) (n : a ≠ l) : PoolAt (L2.upd H a o) l := by
  obtain ⟨u, w, e, r⟩ := h
  exact ⟨u, w, by rw [upd_ne (Ne.symm n)]; exact e, r⟩
/-- a value that stands while only the pool at l changes -/
def IB (K : PySem.W.Frag) (l : Addr) (H : Hp) (x : V) : Prop := (∀ H', SameB l H H' → VOK K H' x) ∧ ∀ z, x = .str z → PyData.strOk z = true
theorem IB.step {K : PySem.W.Frag} {l : Addr} {H H' : Hp} {x : V} (h : IB K l H x) (s : SameB l H H') : IB K l H' x := ⟨fun H2 s2 => h.1 H2 (s.trans s2), h.2⟩
theorem IB.non {K : PySem.W.Frag} {l : Addr} {H : Hp} : IB K l H .non := ⟨fun _ _ => ⟨_, .non, fun z e => by cases e⟩, fun z e => by cases e⟩
theorem IB.int {K : PySem.W.Frag} {l : Addr} {H : Hp} (i : Int) : IB K l H (.int i) := ⟨fun _ _ => ⟨_, .int i, fun z e => by cases e⟩, fun z e => by cases e⟩
theorem IB.bl {K : PySem.W.Frag} {l : Addr} {H : Hp} (b : Bool) : IB K l H (.bl b) := ⟨fun _ _ => ⟨_, .bl b, fun z e => by cases e⟩, fun z e => by cases e⟩
theorem IB.tx {K : PySem.W.Frag} {l : Addr} {H : Hp} {p : Pth} (h : ∀ c ∈ p, c < 1114112) (hl : p.length ≤ 1000000) : IB K l H (.str (tx p)) :=
  ⟨fun _ _ => ⟨_, .str _, fun z e => by
    cases e
    rw [tx_len]
    have := big_line
    omega⟩, fun z e => by
    cases e
    exact strOk_of h⟩
theorem IB.ref {K : PySem.W.Frag} {l a : Addr} {H : Hp} {xs : List V} (h : H a = some (.lst xs)) (n : a ≠ l) : IB K l H (.ref a) :=
  ⟨fun H' s => ⟨_, .sqL (.inl (.inl (s a _ n h))), fun z e => by cases e⟩, fun z e => by cases e⟩
/-- no list of paths that is taken -/
def NoGood (o : Option (List V)) : Prop := ∀ ps, genOut o ≠ .ok ps
theorem noGood_none : NoGood none := fun ps z => by cases z
theorem noGood_of {xs : List V} (h : (∃ x ∈ xs, isP x = false ∨ 60 < (rdV x).length) ∨ 16 < xs.length) : NoGood (some xs) := by
  intro ps z
  cases fb : firstBad xs with
  | some i =>
    rw [genOut_bad fb] at z
    cases z
  | none =>
    have good := firstBad_none fb
    by_cases h16 : 16 < xs.length
    · rw [genOut_16 fb h16] at z
      cases z
    · rcases h with ⟨x, hx, h | h⟩ | h
      · rw [good x hx] at h
        cases h
      · rw [genOut_60 fb h16 hx h] at z
        cases z
      · exact h16 h
def sp_law_bad (K : PySem.W.Frag) : Sp := Sp1 fun v H Q _ => ∃ l, v = .ref l ∧ PoolAt H l ∧ ∀ r o H', SameB l H H' → PoolAt H' l → (∀ H'', SameB l H' H'' → GenV K H'' r o) → NoGood o →
  (∀ xs, o = some xs → xs.length ≤ 100 ∧ ∀ x ∈ xs, ∀ z, x = .str z → PyData.strOk z = true) → Q r H'
/-- the signs of 'aAbBcCdD' by their places -/
theorem step_at {d : Int} (h0 : 0 ≤ d) (h1 : d < 8) : ∃ c ∈ steps, atI (Str.ofString "aAbBcCdD").cps.toList d = some c := by
  rw [stepsS]
  obtain ⟨n, rfl⟩ := Int.eq_ofNat_of_zero_le h0
  have hn : n < steps.length := by
    show n < 8
    omega
  exact ⟨steps[n], List.getElem_mem hn, atI_nat (List.getElem?_eq_getElem hn)⟩
theorem ixN_nat {n j : Nat} (h : j < n) : ixN n (j : Int) = some j := by
  unfold ixN
  rw [if_pos (by omega), if_pos (by omega)]
  simp

/-! ### refused lists, outcomes -/
theorem Rg1.same {K : PySem.W.Frag} {a : V} {H H' : Hp} {E : XK} (e : Same H H') (h : Rg1 K a H E) : Rg1 K a H' E := by
  obtain ⟨o, hv, q⟩ := h
  exact ⟨o, hv.same e, q.at e⟩
def pairOut (o1 o2 : Option (List V)) : GOut := match genOut o1 with
  | .ok _ => genOut o2
  | o => o
theorem pairOut_bad {o1 o2 : Option (List V)} (h : NoGood o1) : pairOut o1 o2 = genOut o1 := by
  unfold pairOut
  cases e : genOut o1 with
  | bad v => rfl
  | lim n => rfl
  | ok ps => exact (h ps e).elim
theorem pairOut_ok {o1 o2 : Option (List V)} {ps : List Pth} (h : genOut o1 = .ok ps) : pairOut o1 o2 = genOut o2 := by
  unfold pairOut
  rw [h]
theorem rg2_of {K : PySem.W.Frag} {a b : V} {H : Hp} {E : XK} {o1 o2 : Option (List V)} (h1 : GenV K H a o1) (h2 : GenV K H b o2) (h : GRd K (pairOut o1 o2) H E fun _ => False) : Rg2 K a b H E := by
  refine ⟨o1, h1, o2, h2, ?_⟩
  unfold pairOut at h
  cases e : genOut o1 with
  | bad v =>
    rw [e] at h
    exact h
  | lim n =>
    rw [e] at h
    exact h
  | ok ps =>
    rw [e] at h
    exact h
def vD : V → PyData
  | .int i => .int i
  | _ => .none
/-- what is expected, as data -/
def expD : GOut → PyData
  | .bad v => .list [.str (Str.ofString "paths"), vD v]
  | .lim n => .list [.str (Str.ofString "limit"), .int n]
  | .ok _ => .list [.str (Str.ofString "valid")]
theorem genOut_v {o : Option (List V)} {v : V} (h : genOut o = .bad v) : v = .non ∨ ∃ (i : Nat) (xs : List V), o = some xs ∧ i < xs.length ∧ v = .int (i : Nat) := by
  cases o with
  | none =>
    cases h
    exact .inl rfl
  | some xs =>
    cases fb : firstBad xs with
    | some i =>
      rw [genOut_bad fb] at h
      cases h
      exact .inr ⟨i, xs, rfl, (List.findIdx?_eq_some_iff_getElem.mp fb).1, rfl⟩
    | none =>
      by_cases h16 : 16 < xs.length
      · rw [genOut_16 fb h16] at h
        cases h
      · by_cases h60 : ∀ x ∈ xs, (rdV x).length ≤ 60
        · rw [genOut_ok fb h16 h60] at h
          cases h
        · have h60 : ∃ x ∈ xs, 60 < (rdV x).length := by
            refine Classical.byContradiction fun z => h60 fun x hx => ?_
            exact Nat.le_of_not_lt fun h => z ⟨x, hx, h⟩
          obtain ⟨x, hx, hl⟩ := h60
          rw [genOut_60 fb h16 hx hl] at h
          cases h
theorem genOut_n {o : Option (List V)} {n : Int} (h : genOut o = .lim n) : n = 16 ∨ n = 60 := by
  cases o with
  | none => cases h
  | some xs =>
    cases fb : firstBad xs with
    | some i =>
      rw [genOut_bad fb] at h
      cases h
    | none =>
      by_cases h16 : 16 < xs.length
      · rw [genOut_16 fb h16] at h
        cases h
        exact .inl rfl
      · by_cases h60 : ∀ x ∈ xs, (rdV x).length ≤ 60
        · rw [genOut_ok fb h16 h60] at h
          cases h
        · have h60 : ∃ x ∈ xs, 60 < (rdV x).length := by
            refine Classical.byContradiction fun z => h60 fun x hx => ?_
            exact Nat.le_of_not_lt fun h => z ⟨x, hx, h⟩
          obtain ⟨x, hx, hl⟩ := h60
          rw [genOut_60 fb h16 hx hl] at h
          cases h
          exact .inr rfl
theorem show_ix : ((List.range 100).all fun i => (PyData.list [.str (Str.ofString "paths"), .int (i : Nat)]).showable && decide ((PyData.list [.str (Str.ofString "paths"), .int (i : Nat)]).shown.length ≤ 1000)) = true := by decide +kernel
theorem show_non : ((PyData.list [.str (Str.ofString "paths"), .none]).showable && decide ((PyData.list [.str (Str.ofString "paths"), .none]).shown.length ≤ 1000)) = true := by decide +kernel
theorem show_16 : ((PyData.list [.str (Str.ofString "limit"), .int 16]).showable && decide ((PyData.list [.str (Str.ofString "limit"), .int 16]).shown.length ≤ 1000)) = true := by decide +kernel
theorem show_60 : ((PyData.list [.str (Str.ofString "limit"), .int 60]).showable && decide ((PyData.list [.str (Str.ofString "limit"), .int 60]).shown.length ≤ 1000)) = true := by decide +kernel
theorem exp_show {o : Option (List V)} (ho : NoGood o) (hl : ∀ xs, o = some xs → xs.length ≤ 100) : (expD (genOut o)).showable = true ∧ (expD (genOut o)).depth ≤ 60 ∧ (expD (genOut o)).shown.length ≤ sizeLine := by
  have bl := big_line
  have fin : ∀ d : PyData, (d.showable && decide (d.shown.length ≤ 1000)) = true → d.depth ≤ 60 → d.showable = true ∧ d.depth ≤ 60 ∧ d.shown.length ≤ sizeLine := fun d h h2 => by
    obtain ⟨h3, h4⟩ := Bool.and_eq_true_iff.mp h
    have := of_decide_eq_true h4
    exact ⟨h3, h2, by omega⟩
  cases e : genOut o with
  | bad v =>
    rcases genOut_v e with rfl | ⟨i, xs, rfl, hi, rfl⟩
    · exact fin _ show_non (by show (1 : Nat) ≤ 60; decide)
    · have h := List.all_eq_true.mp show_ix i (List.mem_range.mpr (by have := hl xs rfl; omega))
      exact fin _ h (by show (1 : Nat) ≤ 60; decide)
  | lim n =>
    rcases genOut_n e with rfl | rfl
    · exact fin _ show_16 (by show (1 : Nat) ≤ 60; decide)
    · exact fin _ show_60 (by show (1 : Nat) ≤ 60; decide)
  | ok ps => exact (ho ps e).elim
theorem exp_dp {K : PySem.W.Frag} {H : Hp} {o : Option (List V)} {l : Addr} (h : H l = some (.lst (expV (genOut o)))) : Dp K H (.ref l) (expD (genOut o)) := by
  cases e : genOut o with
  | bad v =>
    rw [e] at h
    rcases genOut_v e with rfl | ⟨i, xs, rfl, hi, rfl⟩
    · exact .lst (.inl (.inl h)) (.cons (.str _) (.cons .non .nil))
    · exact .lst (.inl (.inl h)) (.cons (.str _) (.cons (.int _) .nil))
  | lim n =>
    rw [e] at h
    exact .lst (.inl (.inl h)) (.cons (.str _) (.cons (.int _) .nil))
  | ok ps =>
    rw [e] at h
    exact .lst (.inl (.inl h)) (.cons (.str _) .nil)
def sp_law_first_calls (K : PySem.W.Frag) : Sp := Sp2 fun n v H _ E => ∃ k : Int, n = .int k ∧ 0 ≤ k ∧ k < 15 ∧ Rg1 K v H E
def sp_law_second_calls (K : PySem.W.Frag) : Sp := Sp2 fun n v H _ E => ∃ k : Int, n = .int k ∧ 15 ≤ k ∧ k < 29 ∧ Rg1 K v H E
def sp_law_pair_calls (K : PySem.W.Frag) : Sp := Sp3 fun n a b H _ E => ∃ k : Int, n = .int k ∧ 29 ≤ k ∧ k < 43 ∧ Rg2 K a b H E
def sp_law_actual (K : PySem.W.Frag) : Sp := Sp3 fun n a b H Q _ => ∃ (k : Int) (o1 o : Option (List V)), n = .int k ∧ 0 ≤ k ∧ k < 43 ∧ GenV K H a o1 ∧ ((k < 29 ∧ o = o1) ∨ (29 ≤ k ∧ ∃ o2, GenV K H b o2 ∧ genOut o = pairOut o1 o2)) ∧ NoGood o ∧
  ∀ l H', Same H H' → H l = none → H' l = some (.lst (expV (genOut o))) → Q (.ref l) H'
def sp_law (K : PySem.W.Frag) : Sp := Sp1 fun v H Q _ => ∃ (a : Addr) (ns : List Int), v = .ref a ∧ SqL K H a (ns.map V.int) ∧ ns.length ≤ 63 ∧ ∀ H', Q (.bl true) H'

/-- all stands but what lies at these two -/
theorem frame2 {H H1 : Hp} {x dx : Addr} (h : ∀ b o, b ≠ x → b ≠ dx → H b = some o → H1 b = some o) (nx : H x = none) (nd : H dx = none) : Same H H1 := by
  intro b o e
  refine h b o ?_ ?_ e
  · intro z
    rw [z, nx] at e
    cases e
  · intro z
    rw [z, nd] at e
    cases e
theorem sqT_but {K : PySem.W.Frag} {H H1 : Hp} {x a C dx : Addr} {fs : List (Str × V)} {xs : List V} (h : ∀ b o, b ≠ x → H b = some o → H1 b = some o) (hx : H x = some (.ins C dx fs)) (s : SqT K H a xs) : SqT K H1 a xs := by
  have ne : ∀ o, H a = some o → (∀ C dx fs, o ≠ .ins C dx fs) → a ≠ x := by
    intro o e n z
    rw [z, hx] at e
    exact n _ _ _ (Option.some.inj e).symm
  rcases s with (s | ⟨o, s⟩) | s
  · exact .inl (.inl (h _ _ (ne _ s fun _ _ _ z => by cases z) s))
  · exact .inl (.inr ⟨o, h _ _ (ne _ s fun _ _ _ z => by cases z) s⟩)
  · exact .inr s
def sp_Graph_init0 (K : PySem.W.Frag) : Sp := Sp3 fun s n e H Q _ => ∃ x dx ea, s = .ref x ∧ H x = some (.ins (He.ga K "Graph") dx []) ∧ n = .int 1 ∧ e = .ref ea ∧ SqT K H ea [] ∧ ∀ H1, (∀ b o, b ≠ x → b ≠ dx → H b = some o → H1 b = some o) → Q .non H1
end W8

namespace W8
open PySem PySem.Spec PyProof.Rows L2
section
variable {P : Program} {w : World} {K : PySem.W.Frag} {mg : Str → Option Value} {base : Heap}
theorem exf (c : Md fa fns ex P w K mg base) (i : Nat) {b : Bool} (h : (exL K)[i]? = some b) : b = true := by
  have e : (exL K).all id = true := c.S.e
  exact List.all_eq_true.mp e b (List.mem_of_getElem? h)
theorem cl_Graph (c : Md fa fns ex P w K mg base) : Cls K (He.ga K "Graph") := He.cls_ok (c.fact 126 rfl)
theorem na_Graph_node_count (c : Md fa fns ex P w K mg base) : NoAttr K (He.ga K "Graph") "node_count" := He.noat_ok (c.fact 140 rfl)
theorem na_Graph_targets (c : Md fa fns ex P w K mg base) : NoAttr K (He.ga K "Graph") "targets" := He.noat_ok (c.fact 141 rfl)
theorem cl_Folding (c : Md fa fns ex P w K mg base) : Cls K (He.ga K "Folding") := He.cls_ok (c.fact 143 rfl)
theorem na_Folding_all_targets (c : Md fa fns ex P w K mg base) : NoAttr K (He.ga K "Folding") "all_targets" := He.noat_ok (c.fact 160 rfl)
theorem na_Folding_folds_done (c : Md fa fns ex P w K mg base) : NoAttr K (He.ga K "Folding") "folds_done" := He.noat_ok (c.fact 161 rfl)
theorem na_Folding_merged_into (c : Md fa fns ex P w K mg base) : NoAttr K (He.ga K "Folding") "merged_into" := He.noat_ok (c.fact 162 rfl)
theorem cl_LabelledFolding (c : Md fa fns ex P w K mg base) : Cls K (He.ga K "LabelledFolding") := He.cls_ok (c.fact 164 rfl)
theorem na_LabelledFolding_lines (c : Md fa fns ex P w K mg base) : NoAttr K (He.ga K "LabelledFolding") "lines" := He.noat_ok (c.fact 177 rfl)
theorem na_LabelledFolding_merged (c : Md fa fns ex P w K mg base) : NoAttr K (He.ga K "LabelledFolding") "merged" := He.noat_ok (c.fact 178 rfl)
theorem na_LabelledFolding_next_node (c : Md fa fns ex P w K mg base) : NoAttr K (He.ga K "LabelledFolding") "next_node" := He.noat_ok (c.fact 179 rfl)
theorem na_LabelledFolding_pending (c : Md fa fns ex P w K mg base) : NoAttr K (He.ga K "LabelledFolding") "pending" := He.noat_ok (c.fact 180 rfl)
theorem na_LabelledFolding_targets_of (c : Md fa fns ex P w K mg base) : NoAttr K (He.ga K "LabelledFolding") "targets_of" := He.noat_ok (c.fact 181 rfl)
theorem cl_PathCounter (c : Md fa fns ex P w K mg base) : Cls K (He.ga K "PathCounter") := He.cls_ok (c.fact 183 rfl)
theorem na_PathCounter_own_graph (c : Md fa fns ex P w K mg base) : NoAttr K (He.ga K "PathCounter") "own_graph" := He.noat_ok (c.fact 192 rfl)
theorem na_PathCounter_rows (c : Md fa fns ex P w K mg base) : NoAttr K (He.ga K "PathCounter") "rows" := He.noat_ok (c.fact 193 rfl)
theorem xm_Conflict_InvalidPaths (c : Md fa fns ex P w K mg base) : PySem.W.exmOne K (.ref (He.ga K "Conflict")) (.ref (He.ga K "InvalidPaths")) = some false := He.exm_ok (c.fact 229 rfl)
theorem xm_Conflict_LimitExceeded (c : Md fa fns ex P w K mg base) : PySem.W.exmOne K (.ref (He.ga K "Conflict")) (.ref (He.ga K "LimitExceeded")) = some false := He.exm_ok (c.fact 230 rfl)
theorem xm_InvalidDerivation_InvalidPaths (c : Md fa fns ex P w K mg base) : PySem.W.exmOne K (.ref (He.ga K "InvalidDerivation")) (.ref (He.ga K "InvalidPaths")) = some false := He.exm_ok (c.fact 231 rfl)
theorem xm_InvalidDerivation_LimitExceeded (c : Md fa fns ex P w K mg base) : PySem.W.exmOne K (.ref (He.ga K "InvalidDerivation")) (.ref (He.ga K "LimitExceeded")) = some false := He.exm_ok (c.fact 232 rfl)
theorem xm_InvalidFold_InvalidPaths (c : Md fa fns ex P w K mg base) : PySem.W.exmOne K (.ref (He.ga K "InvalidFold")) (.ref (He.ga K "InvalidPaths")) = some false := He.exm_ok (c.fact 233 rfl)
theorem xm_InvalidFold_LimitExceeded (c : Md fa fns ex P w K mg base) : PySem.W.exmOne K (.ref (He.ga K "InvalidFold")) (.ref (He.ga K "LimitExceeded")) = some false := He.exm_ok (c.fact 234 rfl)
theorem xm_InvalidGraph_InvalidPaths (c : Md fa fns ex P w K mg base) : PySem.W.exmOne K (.ref (He.ga K "InvalidGraph")) (.ref (He.ga K "InvalidPaths")) = some false := He.exm_ok (c.fact 235 rfl)
theorem xm_InvalidGraph_LimitExceeded (c : Md fa fns ex P w K mg base) : PySem.W.exmOne K (.ref (He.ga K "InvalidGraph")) (.ref (He.ga K "LimitExceeded")) = some false := He.exm_ok (c.fact 236 rfl)
theorem xm_InvalidNode_InvalidPaths (c : Md fa fns ex P w K mg base) : PySem.W.exmOne K (.ref (He.ga K "InvalidNode")) (.ref (He.ga K "InvalidPaths")) = some false := He.exm_ok (c.fact 237 rfl)
theorem xm_InvalidNode_LimitExceeded (c : Md fa fns ex P w K mg base) : PySem.W.exmOne K (.ref (He.ga K "InvalidNode")) (.ref (He.ga K "LimitExceeded")) = some false := He.exm_ok (c.fact 238 rfl)
theorem xm_InvalidNumber_InvalidPaths (c : Md fa fns ex P w K mg base) : PySem.W.exmOne K (.ref (He.ga K "InvalidNumber")) (.ref (He.ga K "InvalidPaths")) = some false := He.exm_ok (c.fact 239 rfl)
theorem xm_InvalidNumber_LimitExceeded (c : Md fa fns ex P w K mg base) : PySem.W.exmOne K (.ref (He.ga K "InvalidNumber")) (.ref (He.ga K "LimitExceeded")) = some false := He.exm_ok (c.fact 240 rfl)
theorem xm_InvalidPath_InvalidPaths (c : Md fa fns ex P w K mg base) : PySem.W.exmOne K (.ref (He.ga K "InvalidPath")) (.ref (He.ga K "InvalidPaths")) = some false := He.exm_ok (c.fact 241 rfl)
theorem xm_InvalidPath_LimitExceeded (c : Md fa fns ex P w K mg base) : PySem.W.exmOne K (.ref (He.ga K "InvalidPath")) (.ref (He.ga K "LimitExceeded")) = some false := He.exm_ok (c.fact 242 rfl)
theorem xm_InvalidPaths_InvalidPaths (c : Md fa fns ex P w K mg base) : PySem.W.exmOne K (.ref (He.ga K "InvalidPaths")) (.ref (He.ga K "InvalidPaths")) = some true := He.exm_ok (c.fact 243 rfl)
theorem xm_InvalidPaths_LimitExceeded (c : Md fa fns ex P w K mg base) : PySem.W.exmOne K (.ref (He.ga K "InvalidPaths")) (.ref (He.ga K "LimitExceeded")) = some false := He.exm_ok (c.fact 244 rfl)
theorem xm_LimitExceeded_InvalidPaths (c : Md fa fns ex P w K mg base) : PySem.W.exmOne K (.ref (He.ga K "LimitExceeded")) (.ref (He.ga K "InvalidPaths")) = some false := He.exm_ok (c.fact 245 rfl)
theorem xm_LimitExceeded_LimitExceeded (c : Md fa fns ex P w K mg base) : PySem.W.exmOne K (.ref (He.ga K "LimitExceeded")) (.ref (He.ga K "LimitExceeded")) = some true := He.exm_ok (c.fact 246 rfl)
theorem xm_NotFolded_InvalidPaths (c : Md fa fns ex P w K mg base) : PySem.W.exmOne K (.ref (He.ga K "NotFolded")) (.ref (He.ga K "InvalidPaths")) = some false := He.exm_ok (c.fact 247 rfl)
theorem xm_NotFolded_LimitExceeded (c : Md fa fns ex P w K mg base) : PySem.W.exmOne K (.ref (He.ga K "NotFolded")) (.ref (He.ga K "LimitExceeded")) = some false := He.exm_ok (c.fact 248 rfl)
theorem t0_Graph_init (c : Md fa fns ex P w K mg base) (H : Hp) : SqT K H (He.dflAt ("Graph", some "__init__") 1 K) [] := tup0_ok (exf c 23 rfl) H
theorem t0_count_models (c : Md fa fns ex P w K mg base) (H : Hp) : SqT K H (kwAt ("count_models", none) "excluded" K) [] := tup0_ok (exf c 24 rfl) H
theorem F_law_pool (c : Md fa fns ex P w K mg base) : FunDD K dd_law_pool := c.def_ 2 38 rfl rfl
theorem S_law_pool : FnScope ["_law_script", "_law_index", "_law_cell", "_law_number", "_law_seed"] ["_law_script", "_law_index"] (defScope s_law_pool) := ⟨rfl, rfl, rfl, by decide +kernel, rfl, by decide +kernel, by decide +kernel⟩

theorem ok_law_pool (c : Md fa fns ex P w K mg base) : FnG P w K mg base 2 (He.fAd K ("_law_pool", none)) (fdAt K (He.fAd K ("_law_pool", none))) ["_law_script", "_law_index"] (sp_law_pool K) := by
  refine fnG_of (F_law_pool c) S_law_pool (len_2) (fun cdv A outer s H vs Q E hr h => ⟨_, (pss_cons (ps_set (i := 2) S_law_pool.nd rfl (Or.inl rfl) (pe_ix ix_list (pe_op op_cat (pe_slice sl_list (pv 0) (po_some (pv 1)) (po_some (pe_op op_add (pv 1) pe_int))) (pe_lst (pa_cons pe_int pa_nil))) pe_int (fun _ _ => rfl)))
    (pss_cons (ps_set (i := 3) S_law_pool.nd rfl (Or.inl rfl) (pe_callB (call_max2 rfl) rfl (c.free 207 rfl) (by decide +kernel) (pa_cons (pv 2) (pa_cons (pe_op op_sub (pe_un un_neg pe_int) (pv 2)) pa_nil))))
    (pss_cons (ps_set (i := 4) S_law_pool.nd rfl (Or.inl rfl) (pe_op op_mod (pe_op op_mul (pe_op op_add (pe_op op_add (pe_op op_add (pe_op op_mod (pv 3) pe_int) (pe_op op_mul (pe_op op_mul pe_int (pv 1)) (pv 1))) (pe_op op_mul pe_int (pv 1))) pe_int) pe_int) pe_int))
    (pss_one (ps_ret (pe_lst (pa_cons (pe_op op_mul (pv 3) (pe_callTy call_int1 rfl (c.free 203 rfl) (by decide +kernel) (pa_cons (pe_cmpR op_ge (pv 3) (pe_op op_pow pe_int pe_int) (nomark _)) pa_nil))) (pa_cons (pe_op op_mod (pe_op op_mul (pv 4) (pv 4)) pe_int) pa_nil)))))))), ?_⟩)
  obtain ⟨a, b, rfl, x, ns, i, rfl, hs, hn, rfl, h0, h1, hq⟩ := h
  refine ⟨_, rfl, _, rfl, _, rfl, _, rfl, _, _, rfl, rfl, _, rfl, x, _, rfl, hs, fun p1 n1 => ?_⟩
  obtain ⟨ms, em⟩ := cutV_ints ns (some i) (some (i + 1))
  have lm : ms.length ≤ 1000 := by
    have h2 := cutV_length (ns.map V.int) (some i) (some (i + 1))
    rw [em, List.length_map, List.length_map] at h2
    omega
  rw [em]
  refine ⟨by show 1 ≤ sizeLine; decide, fun p2 n2 => ?_⟩
  have s1 := same_upd (o := .lst (ms.map V.int)) n1
  have s2 := s1.trans (same_upd (o := .lst [.int 0]) n2)
  refine ⟨p1, p2, ms.map V.int, [.int 0], rfl, rfl, same_upd n2 _ _ upd_same, upd_same, ?_, fun p3 n3 => ?_⟩
  · have : (1001 : Nat) ≤ sizeLine := by decide
    simp only [List.length_map, List.length_singleton]
    omega
  have s3 := s2.trans (same_upd (o := .lst (ms.map V.int ++ [.int 0])) n3)
  obtain ⟨z, hz⟩ : ∃ z : Int, atI (ms.map V.int ++ [V.int 0]) ((0 : Nat) : Int) = some (.int z) := by
    cases ms with
    | nil => exact ⟨0, atI_nat rfl⟩
    | cons m r => exact ⟨m, atI_nat rfl⟩
  refine ⟨p3, _, _, _, rfl, rfl, .inl (.inl upd_same), hz, _, rfl, _, rfl, _, rfl, _, _, rfl, rfl, _, _, rfl, ?_⟩
  generalize hm : (if -1 - z > z then -1 - z else z) = m
  have m0 : 0 ≤ m := by
    rw [← hm]
    split <;> omega
  refine ⟨_, rfl, _, _, rfl, rfl, by show (0 : Int) < 2147483629; decide, _, rfl, _, _, rfl, rfl, .inl ⟨by decide, by decide⟩, _, rfl, _, _, rfl, rfl, .inr ⟨by omega, by omega⟩, _, _, rfl, rfl, _, rfl, _, _, rfl, rfl, .inl ⟨by decide, by decide⟩, _, _, rfl, rfl, _, _, rfl, rfl, _, _, rfl, rfl, .inr ⟨by decide, by decide⟩, _, _, rfl, rfl, by show (0 : Int) < 2147483647; decide, ?_⟩
  generalize hw : (m % 2147483629 + 7919 * i * i + 31 * i + 17) * 48271 % 2147483647 = w
  have w0 : 0 ≤ w := by rw [← hw]; exact Int.emod_nonneg _ (by decide)
  have w1 : w < 2147483647 := by rw [← hw]; exact Int.emod_lt_of_pos _ (by decide)
  refine ⟨_, rfl, _, rfl, _, _, rfl, rfl, ⟨by decide, by decide, by decide⟩, _, _, rfl, rfl, .inr ⟨_, rfl, ?_⟩⟩
  have b0 : ∀ b : Bool, (0 : Int) ≤ (if b = true then 1 else 0) ∧ (if b = true then (1 : Int) else 0) < 2 ^ 64 := fun b => by cases b <;> decide
  refine ⟨_, _, rfl, rfl, .inr ⟨by have := (b0 (decide ((10 : Int) ^ Int.toNat 18 ≤ m))).1; omega, (b0 _).2⟩, _, rfl, _, rfl, _, _, rfl, rfl, .inl ⟨by omega, by omega⟩, _, _, rfl, rfl, by show (0 : Int) < 2147483629; decide, by show 2 ≤ sizeLine; decide, fun p4 n4 => ?_⟩
  refine hq p4 _ (s3.free n4) (s3.trans (same_upd n4)) ⟨_, _, upd_same, Int.mul_nonneg m0 (b0 _).1, Int.emod_nonneg _ (by decide), ?_⟩
  have := Int.emod_lt_of_pos (w * w) (show (0 : Int) < 2147483629 by decide)
  omega
theorem F_law_draw (c : Md fa fns ex P w K mg base) : FunDD K dd_law_draw := c.def_ 2 39 rfl rfl
theorem S_law_draw : FnScope ["_law_pool_here", "_law_bound", "_law_digit"] ["_law_pool_here", "_law_bound"] (defScope s_law_draw) := ⟨rfl, rfl, rfl, by decide +kernel, rfl, by decide +kernel, by decide +kernel⟩

theorem ok_law_draw (c : Md fa fns ex P w K mg base) : FnG P w K mg base 2 (He.fAd K ("_law_draw", none)) (fdAt K (He.fAd K ("_law_draw", none))) ["_law_pool_here", "_law_bound"] (sp_law_draw K) := by
  refine fnG_of (F_law_draw c) S_law_draw (len_2) (fun cdv A outer s H vs Q E hr h => ⟨_, (pss_cons (ps_if (pt_cmpR op_gt (pe_ix ix_list (pv 0) pe_int (fun _ _ => rfl)) pe_int (nomark _)) (pss_cons (ps_set (i := 2) S_law_draw.nd rfl (Or.inl rfl) (pe_op op_mod (pe_ix ix_list (pv 0) pe_int (fun _ _ => rfl)) (pv 1)))
    (pss_cons (ps_asg (pe_op op_fdivW (pe_ix ix_list (pv 0) pe_int (fun _ _ => rfl)) (pv 1)) (pg_sub (pv 0) pe_int set_list))
    (pss_one (ps_ret (pv 2))))) pss_nil)
    (pss_cons (ps_asg (pe_op op_mod (pe_op op_add (pe_op op_mul (pe_ix ix_list (pv 0) pe_int (fun _ _ => rfl)) pe_int) pe_int) pe_int) (pg_sub (pv 0) pe_int set_list))
    (pss_one (ps_ret (pe_op op_mod (pe_op op_fdivW (pe_op op_mod (pe_op op_mul (pe_ix ix_list (pv 0) pe_int (fun _ _ => rfl)) (pe_ix ix_list (pv 0) pe_int (fun _ _ => rfl))) pe_int) pe_int) (pv 1)))))), ?_⟩)
  obtain ⟨a, b, rfl, l, m, rfl, ⟨u, w, hl, hu, hw, hw2⟩, rfl, hm, hm2, hq⟩ := h
  have i0 : atI [V.int u, V.int w] ((0 : Nat) : Int) = some (V.int u) := atI_nat rfl
  have i1 : atI [V.int u, V.int w] ((1 : Nat) : Int) = some (V.int w) := atI_nat rfl
  have hL : SqL K H l [V.int u, V.int w] := .inl (.inl hl)
  refine ⟨_, rfl, l, _, _, _, rfl, rfl, hL, i0, _, _, rfl, rfl, _, rfl, ?_⟩
  by_cases h : (0 : Int) < u
  · rw [decide_eq_true h]
    refine iteT ⟨_, rfl, l, _, _, _, rfl, rfl, hL, i0, _, rfl, _, _, rfl, rfl, hm, ?_⟩
    refine ⟨_, rfl, l, _, _, _, rfl, rfl, hL, i0, _, rfl, _, _, rfl, rfl, ⟨hm, hm2⟩, _, rfl, l, _, 0, 0, rfl, rfl, hl, rfl, _, rfl, ?_⟩
    exact hq _ _ _ (Int.emod_nonneg _ (by omega)) (Int.emod_lt_of_pos _ hm) (Int.ediv_nonneg hu (by omega)) hw hw2
  · rw [decide_eq_false h]
    refine iteF ⟨_, rfl, l, _, _, _, rfl, rfl, hL, i1, _, _, rfl, rfl, .inr ⟨by decide, by decide⟩, _, _, rfl, rfl, _, _, rfl, rfl, by show (0 : Int) < 2147483647; decide, _, rfl, l, _, 1, 1, rfl, rfl, hl, rfl, ?_⟩
    have hz0 : 0 ≤ (w * 48271 + 12345) % 2147483647 := Int.emod_nonneg _ (by decide)
    have hz1 : (w * 48271 + 12345) % 2147483647 < 2147483647 := Int.emod_lt_of_pos _ (by decide)
    have hL1 : SqL K (upd H l (.lst [V.int u, V.int ((w * 48271 + 12345) % 2147483647)])) l [V.int u, V.int ((w * 48271 + 12345) % 2147483647)] := .inl (.inl upd_same)
    have j1 : atI [V.int u, V.int ((w * 48271 + 12345) % 2147483647)] ((1 : Nat) : Int) = some (V.int ((w * 48271 + 12345) % 2147483647)) := atI_nat rfl
    refine ⟨_, rfl, l, _, _, _, rfl, rfl, hL1, j1, _, rfl, l, _, _, _, rfl, rfl, hL1, j1, _, _, rfl, rfl, .inl ⟨by omega, by omega⟩, _, _, rfl, rfl, by show (0 : Int) < 2147483629; decide, _, _, rfl, rfl, ⟨by decide, by decide⟩, _, rfl, _, _, rfl, rfl, hm, ?_⟩
    exact hq _ _ _ (Int.emod_nonneg _ (by omega)) (Int.emod_lt_of_pos _ hm) hu hz0 (by omega)
theorem Bd_law_draw_2 (c : Md fa fns ex P w K mg base) : Binds K (fdAt K (He.fAd K ("_law_draw", none))) ["_law_pool_here", "_law_bound"] [] := (F_law_draw c).bindsN fun _ _ _ _ _ _ us hl => match us, hl with | [_, _], _ => rfl
theorem Dv_law_draw_2 (c : Md fa fns ex P w K mg base) : Vals [] [] := .nil
theorem F_law_bad (c : Md fa fns ex P w K mg base) : FunDD K dd_law_bad := c.def_ 2 43 rfl rfl
theorem S_law_bad : FnScope ["_law_pool_here", "_law_kind", "_law_values", "_law_place", "_law_number"] ["_law_pool_here"] (defScope s_law_bad) := ⟨rfl, rfl, rfl, by decide +kernel, rfl, by decide +kernel, by decide +kernel⟩

theorem ok_law_bad (c : Md fa fns ex P w K mg base) : FnG P w K mg base 3 (He.fAd K ("_law_bad", none)) (fdAt K (He.fAd K ("_law_bad", none))) ["_law_pool_here"] (sp_law_bad K) := by
  refine fnG_of (F_law_bad c) S_law_bad (len_1) (fun cdv A outer s H vs Q E hr h => ⟨_, (pss_cons (ps_set (i := 1) S_law_bad.nd rfl (Or.inl rfl) (gcall (ok_law_draw c) (hr.mono (by decide)) rfl (c.glo 104 rfl) (F_law_draw c).kp (Bd_law_draw_2 c) (Dv_law_draw_2 c) pxN (pa_cons (pv 0) (pa_cons pe_int pa_nil))))
    (pss_cons (ps_if (pt_cmpR op_eq (pv 1) pe_int (nomark _)) (pss_one (ps_ret (pe_ix ix_list (pe_lst (pa_cons pe_non (pa_cons pe_str (pa_cons pe_int (pa_cons pe_dnewK (pa_cons pe_bl pa_nil)))))) (gcall (ok_law_draw c) (hr.mono (by decide)) rfl (c.glo 104 rfl) (F_law_draw c).kp (Bd_law_draw_2 c) (Dv_law_draw_2 c) pxN (pa_cons (pv 0) (pa_cons pe_int pa_nil))) (fun _ _ => rfl)))) pss_nil)
    (pss_cons (ps_setLc (i := 2) (own := [("_law_number", 4)]) rfl S_law_bad.nd rfl rfl (sw_true rfl rfl rfl (by decide +kernel)) (pi_range1 rfl (c.free 209 rfl) (pa_cons (pe_op op_add pe_int (gcall (ok_law_draw c) (hr.mono (by decide)) rfl (c.glo 104 rfl) (F_law_draw c).kp (Bd_law_draw_2 c) (Dv_law_draw_2 c) pxN (pa_cons (pv 0) (pa_cons pe_int pa_nil)))) pa_nil)) (blkOk_by (own := [("_law_number", 4)]) (N := ["_law_pool_here", "_law_kind", "_law_values", "_law_place", "_law_number"]) (sc := (defScope s_law_bad)) (by decide +kernel)) (fun _ _ _ _ _ => (pg_name (i := 4) S_law_bad.nd rfl (Or.inl rfl))) (fun _ _ _ _ _ => pts_nil) (fun _ _ _ _ _ => (pe_ix ix_str pe_str (gcall (ok_law_draw c) (hr.mono (by decide)) rfl (c.glo 104 rfl) (F_law_draw c).kp (Bd_law_draw_2 c) (Dv_law_draw_2 c) pxN (pa_cons (pv 0) (pa_cons pe_int pa_nil))) (fun _ _ => rfl))))
    (pss_cons (ps_set (i := 3) S_law_bad.nd rfl (Or.inl rfl) (gcall (ok_law_draw c) (hr.mono (by decide)) rfl (c.glo 104 rfl) (F_law_draw c).kp (Bd_law_draw_2 c) (Dv_law_draw_2 c) pxN (pa_cons (pv 0) (pa_cons (pe_callB call_len rfl (c.free 205 rfl) (by decide +kernel) (pa_cons (pv 2) pa_nil)) pa_nil))))
    (pss_cons (ps_if (PW.pt (pw_or (pt_cmpR op_eq (pv 1) pe_int (nomark _)) (pw_or1 (pt_cmpR op_eq (pv 1) pe_int (nomark _))))) (pss_one (ps_asg (pe_ix ix_list (pe_lst (pa_cons pe_non (pa_cons pe_int (pa_cons pe_str (pa_cons (pe_lst (pa_cons pe_str pa_nil)) (pa_cons (pe_op op_srep pe_str pe_int) pa_nil)))))) (gcall (ok_law_draw c) (hr.mono (by decide)) rfl (c.glo 104 rfl) (F_law_draw c).kp (Bd_law_draw_2 c) (Dv_law_draw_2 c) pxN (pa_cons (pv 0) (pa_cons pe_int pa_nil))) (fun _ _ => rfl)) (pg_sub (pv 2) (pv 3) set_list))) pss_nil)
    (pss_cons (ps_if (PW.pt (pw_or (pt_cmpR op_eq (pv 1) pe_int (nomark _)) (pw_or1 (pt_cmpR op_eq (pv 1) pe_int (nomark _))))) (pss_one (ps_asg (pe_op op_add_str (pe_op op_srep pe_str pe_int) pe_str) (pg_sub (pv 2) (pv 3) set_list))) pss_nil)
    (pss_cons (ps_if (PW.pt (pw_or (pt_cmpR op_eq (pv 1) pe_int (nomark _)) (pw_or1 (pt_cmpR op_gt (pv 1) pe_int (nomark _))))) (pss_one (ps_set (i := 2) S_law_bad.nd rfl (Or.inl rfl) (pe_op op_cat (pv 2) (pe_op op_rep (pe_lst (pa_cons pe_str pa_nil)) pe_int)))) pss_nil)
    (pss_one (ps_ret (pv 2)))))))))), ?_⟩)
  obtain ⟨v, rfl, l, rfl, hp, hq⟩ := h
  have bl := big_line
  refine ⟨_, rfl, _, _, rfl, l, 6, rfl, hp, rfl, by decide, by decide, fun kd u1 w1 k0 k1 hu1 hw1 hw1' => ?_⟩
  have p1 := PoolAt.upd (l := l) (H := H) hu1 hw1 hw1'
  have s1 : SameB l H (upd H l (.lst [.int u1, .int w1])) := .upd
  generalize upd H l (.lst [.int u1, .int w1]) = H1 at p1 s1
  refine ⟨_, rfl, rfl, _, rfl, ?_⟩
  by_cases hk : kd = 0
  · subst hk
    rw [decide_eq_true rfl]
    refine iteT fun d hd => ⟨by show 5 ≤ sizeLine; omega, fun q hn => ?_⟩
    have dl := p1.ne hd
    have p2 := p1.put (o := .dK []) dl
    have s2 := s1.trans (.of (same_upd (o := .dK []) hd))
    have hd2 : (upd H1 d (.dK [])) d = some (.dK []) := upd_same
    generalize upd H1 d (.dK []) = H2 at p2 s2 hd2 hn
    have ql := p2.ne hn
    have p3 := p2.put (o := .lst [.non, .str (Str.ofString "ab"), .int 5, .ref d, .bl true]) ql
    have s3 := s2.trans (.of (same_upd (o := .lst [.non, .str (Str.ofString "ab"), .int 5, .ref d, .bl true]) hn))
    have hd3 := same_upd (o := .lst [.non, .str (Str.ofString "ab"), .int 5, .ref d, .bl true]) hn _ _ hd2
    refine ⟨_, rfl, _, _, rfl, l, 5, rfl, p3, rfl, by decide, by decide, fun d2 u2 w2 a0 a1 hu2 hw2 hw2' => ?_⟩
    have p4 := PoolAt.upd (l := l) (H := upd H2 q (.lst [.non, .str (Str.ofString "ab"), .int 5, .ref d, .bl true])) hu2 hw2 hw2'
    have s4 := s3.trans (.upd (o := .lst [.int u2, .int w2]))
    have q4 : (upd (upd H2 q (.lst [.non, .str (Str.ofString "ab"), .int 5, .ref d, .bl true])) l (.lst [.int u2, .int w2])) q = some (.lst [.non, .str (Str.ofString "ab"), .int 5, .ref d, .bl true]) := by rw [upd_ne ql, upd_same]
    have d4 : (upd (upd H2 q (.lst [.non, .str (Str.ofString "ab"), .int 5, .ref d, .bl true])) l (.lst [.int u2, .int w2])) d = some (.dK []) := by rw [upd_ne dl]; exact hd3
    generalize upd (upd H2 q (.lst [.non, .str (Str.ofString "ab"), .int 5, .ref d, .bl true])) l (.lst [.int u2, .int w2]) = H4 at p4 s4 q4 d4
    have fin : ∀ (r : V) (t : String), (isa t "list" || isa t "tuple") = false → (∀ H'', SameB l H4 H'' → Knd K H'' r t) → Q r H4 := fun r t e k =>
      hq r none H4 s4 p4 (fun H'' s => .bad (k H'' s) e) noGood_none (fun xs z => by cases z)
    have : d2 = 0 ∨ d2 = 1 ∨ d2 = 2 ∨ d2 = 3 ∨ d2 = 4 := by omega
    rcases this with rfl | rfl | rfl | rfl | rfl
    · exact ⟨q, _, _, _, rfl, rfl, .inl (.inl q4), rfl, fin .non "NoneType" (by decide +kernel) fun _ _ => .non⟩
    · exact ⟨q, _, _, _, rfl, rfl, .inl (.inl q4), rfl, fin _ "str" (by decide +kernel) fun _ _ => .str _⟩
    · exact ⟨q, _, _, _, rfl, rfl, .inl (.inl q4), rfl, fin _ "int" (by decide +kernel) fun _ _ => .int _⟩
    · exact ⟨q, _, _, _, rfl, rfl, .inl (.inl q4), rfl, fin _ "dict" (by decide +kernel) fun H'' s => .dict (s d _ dl d4)⟩
    · exact ⟨q, _, _, _, rfl, rfl, .inl (.inl q4), rfl, fin _ "bool" (by decide +kernel) fun _ _ => .bl _⟩
  · rw [decide_eq_false (fun z => hk (V.int.inj z))]
    refine iteF ⟨_, rfl, _, _, rfl, l, 5, rfl, p1, rfl, by decide, by decide, fun d2 u2 w2 d20 d21 hu2 hw2 hw2' => ⟨_, _, rfl, rfl, _, rfl, by omega, by omega, fun D hD => ?_⟩⟩
    have p2 := PoolAt.upd (l := l) (H := H1) hu2 hw2 hw2'
    have s2 := s1.trans (.upd (o := .lst [.int u2, .int w2]))
    generalize upd H1 l (.lst [.int u2, .int w2]) = H2 at p2 s2 hD
    have Dl := p2.ne hD
    -- the drawn steps
    refine lc_mapP (n := (1 + d2).toNat) walk_range (fun i acc H3 => H3 D = some (.lst acc) ∧ SameB l H2 H3 ∧ PoolAt H3 l ∧ acc.length = i ∧ ∀ x ∈ acc, ∃ c ∈ steps, x = .str (tx [c])) ⟨upd_same, .of (same_upd hD), p2.put Dl, rfl, fun x hx => by cases hx⟩ (fun _ _ _ _ _ => trivial) (fun i acc H3 hi p => by rw [p.2.2.2.1]; omega) ?_ mono_gName ?_
    · rintro i acc x H3 H4 R hi ⟨hD3, s3, p3, hl3, hst⟩ ⟨rfl, rfl⟩ r
      refine ⟨rfl, _, rfl, _, _, rfl, l, 8, rfl, p3, rfl, by decide, by decide, fun d3 u3 w3 d30 d31 hu3 hw3 hw3' => ?_⟩
      obtain ⟨c, hc, hat⟩ := step_at d30 d31
      refine ⟨_, _, c, rfl, rfl, by show (8 : Nat) ≤ sizeLine; omega, hat, r _ _ (by rw [upd_ne Dl]; exact hD3) ⟨upd_same, (s3.trans .upd).put hD, (PoolAt.upd hu3 hw3 hw3').put Dl, by simp [hl3], fun x hx => ?_⟩⟩
      rcases List.mem_append.mp hx with hx | hx
      · exact hst x hx
      · exact ⟨c, hc, by rw [List.mem_singleton.mp hx] <;> rfl⟩
    · rintro acc H3 ⟨hD3, s3, p3, hl3, hst⟩
      have s03 := s2.trans s3
      have hn5 : acc.length ≤ 5 := by omega
      have hn1 : 1 ≤ acc.length := by omega
      refine ⟨_, rfl, _, rfl, .ref D, acc.length, rfl, .inl ⟨acc, .inl (.inl hD3), rfl⟩, _, _, rfl, l, _, rfl, p3, rfl, by omega, ?_, fun d4 u4 w4 d40 d41 hu4 hw4 hw4' => ?_⟩
      · have h9 : ((acc.length : Nat) : Int).natAbs = acc.length := by omega
        rw [h9]
        exact Nat.lt_of_le_of_lt (Nat.log2_le_self _) (by omega)
      have p4 := PoolAt.upd (l := l) (H := H3) hu4 hw4 hw4'
      have s4 := s03.trans (.upd (o := .lst [.int u4, .int w4]))
      have hD4 : (upd H3 l (.lst [.int u4, .int w4])) D = some (.lst acc) := by rw [upd_ne Dl]; exact hD3
      generalize upd H3 l (.lst [.int u4, .int w4]) = H4 at p4 s4 hD4
      obtain ⟨j, rfl⟩ := Int.eq_ofNat_of_zero_le d40
      have hj : j < acc.length := by omega
      have good : ∀ (H5 : Hp), ∀ x ∈ acc, IB K l H5 x := by
        intro H5 x hx
        obtain ⟨c, hc, rfl⟩ := hst x hx
        exact IB.tx (fun e he => by rw [List.mem_singleton.mp he]; exact step_lt c hc) (by show 1 ≤ 1000000; omega)
      have hDH : H D = none := s2.free hD Dl
      -- the end: what is returned
      have fin : ∀ (r : Addr) (xs : List V) (H5 : Hp), SameB l H H5 → PoolAt H5 l → r ≠ l → H5 r = some (.lst xs) → xs.length ≤ 100 → (∀ x ∈ xs, IB K l H5 x) → NoGood (some xs) → Q (.ref r) H5 := by
        intro r xs H5 s5 p5 hr h5 hl hx hno
        refine hq _ (some xs) H5 s5 p5 (fun H6 s6 => .seq ⟨r, rfl, .inl (.inl (.inl (s6 r _ hr h5)))⟩ (fun x hx' => (hx x hx').1 H6 s6) (by omega)) hno fun ys e => ?_
        cases e
        exact ⟨hl, fun x hx' z ez => (hx x hx').2 z ez⟩
      -- the last step: sixteen more, or none
      have last : ∀ (xs : List V) (H5 : Hp) (y : Option V), SameB l H H5 → PoolAt H5 l → H5 D = some (.lst xs) → xs.length = acc.length → (∀ x ∈ xs, IB K l H5 x) → (kd = 2 ∨ 3 < kd ∨ ∃ x ∈ xs, isP x = false ∨ 60 < (rdV x).length) →
          (tIfS (tOr (tTest (tOp rEq (tVar 1) (tC (.int 2)))) (tTest (tOp (rI0 fun i j => .bl (decide (j < i))) (tVar 1) (tC (.int 3))))) (tAsg (tOp rCat (tVar 2) (tOp rRep (tLst (tCons (tC (.str (Str.ofString "b"))) tNil)) (tC (.int 16)))) (gName 2)) tNext)
            { nx := tRet (tVar 2) { nx := fun _ H' => Q .non H', rt := Q }, rt := Q } [some (.ref l), some (.int kd), some (.ref D), some (.int (j : Nat)), y] H5 := by
        intro xs H5 y s5 p5 h5 hl hx hb
        have more : ∀ H6 : Hp, H6 = H5 → (tAsg (tOp rCat (tVar 2) (tOp rRep (tLst (tCons (tC (.str (Str.ofString "b"))) tNil)) (tC (.int 16)))) (gName 2))
            { nx := tRet (tVar 2) { nx := fun _ H' => Q .non H', rt := Q }, rt := Q } [some (.ref l), some (.int kd), some (.ref D), some (.int (j : Nat)), y] H6 := by
          rintro H6 rfl
          refine ⟨_, rfl, by show 1 ≤ sizeLine; omega, fun a1 n1 => ⟨a1, 16, _, rfl, rfl, upd_same, by decide, by decide, by show 1 * 16 ≤ sizeLine; omega, fun a2 n2 => ?_⟩⟩
          have l1 := p5.ne n1
          have sA := s5.trans (SameB.of (same_upd (o := .lst [.str (Str.ofString "b")]) n1))
          have pA := p5.put (o := .lst [.str (Str.ofString "b")]) l1
          have hDA := same_upd (o := .lst [.str (Str.ofString "b")]) n1 _ _ h5
          have t5 : SameB l H6 (upd H6 a1 (.lst [.str (Str.ofString "b")])) := .of (same_upd n1)
          generalize upd H6 a1 (.lst [.str (Str.ofString "b")]) = HA at sA pA hDA n2 t5
          have l2 := pA.ne n2
          have e16 : (List.replicate (Int.toNat 16) [V.str (Str.ofString "b")]).flatten = List.replicate 16 (V.str (tx [98])) := by
            have : Str.ofString "b" = tx [98] := by decide +kernel
            rw [this] <;> rfl
          rw [e16]
          have sB := sA.trans (SameB.of (same_upd (o := .lst (List.replicate 16 (V.str (tx [98])))) n2))
          have pB := pA.put (o := .lst (List.replicate 16 (V.str (tx [98])))) l2
          have hDB := same_upd (o := .lst (List.replicate 16 (V.str (tx [98])))) n2 _ _ hDA
          have h2B : (upd HA a2 (.lst (List.replicate 16 (V.str (tx [98]))))) a2 = some (.lst (List.replicate 16 (V.str (tx [98])))) := upd_same
          have t5 := t5.trans (SameB.of (same_upd (o := .lst (List.replicate 16 (V.str (tx [98])))) n2))
          generalize upd HA a2 (.lst (List.replicate 16 (V.str (tx [98])))) = HB at sB pB hDB h2B t5
          refine ⟨D, a2, xs, List.replicate 16 (V.str (tx [98])), rfl, rfl, hDB, h2B, by rw [List.length_replicate]; omega, fun a3 n3 => ⟨_, rfl, ?_⟩⟩
          have l3 := pB.ne n3
          refine fin a3 _ _ (sB.trans (SameB.of (same_upd n3))) (pB.put l3) l3 upd_same (by rw [List.length_append, List.length_replicate]; omega) (fun x hx' => ?_) (noGood_of (.inr ?_))
          · rcases List.mem_append.mp hx' with hx' | hx'
            · exact (hx x hx').step (t5.trans (SameB.of (same_upd n3)))
            · rw [List.eq_of_mem_replicate hx']
              exact IB.tx (fun e he => by rw [List.mem_singleton.mp he]; decide) (by decide)
          · rw [List.length_append, List.length_replicate]
            omega
        have less : ∀ H6 : Hp, H6 = H5 → (kd ≠ 2) → ¬ 3 < kd → Q (.ref D) H6 := by
          rintro H6 rfl h2 h3
          refine fin D xs _ s5 p5 Dl h5 (by omega) hx (noGood_of (.inl ?_))
          rcases hb with z | z | z
          · exact absurd z h2
          · exact absurd z h3
          · exact z
        refine ⟨_, rfl, rfl, _, rfl, ?_⟩
        by_cases h2 : kd = 2
        · subst h2
          rw [decide_eq_true rfl]
          exact iteT (iteT (more _ rfl))
        · rw [decide_eq_false (fun z => h2 (V.int.inj z))]
          refine iteF ⟨_, rfl, _, _, rfl, rfl, _, rfl, ?_⟩
          by_cases h3 : 3 < kd
          · rw [decide_eq_true h3]
            exact iteT (more _ rfl)
          · rw [decide_eq_false h3]
            exact iteF ⟨_, rfl, less _ rfl h2 h3⟩
      have eab : Str.ofString "ab" = tx [97, 98] := by decide +kernel
      have ea : Str.ofString "a" = tx [97] := by decide +kernel
      have setMem : ∀ (xs : List V) (x : V), xs.length = acc.length → x ∈ xs.set j x := by
        intro xs x h
        have h2 : j < (xs.set j x).length := by rw [List.length_set]; omega
        have h3 : (xs.set j x)[j] = x := by simp
        have h4 := List.getElem_mem h2
        rw [h3] at h4
        exact h4
      -- from the second if on
      have mid : ∀ (xs : List V) (H5 : Hp) (y : Option V), SameB l H H5 → PoolAt H5 l → H5 D = some (.lst xs) → xs.length = acc.length → (∀ x ∈ xs, IB K l H5 x) → (kd = 3 ∨ kd = 5 → xs = acc) → (kd = 1 ∨ kd = 4 → ∃ x ∈ xs, isP x = false ∨ 60 < (rdV x).length) →
          (tIfS (tOr (tTest (tOp rEq (tVar 1) (tC (.int 3)))) (tTest (tOp rEq (tVar 1) (tC (.int 5))))) (tAsg (tOp (fun x y H Q => ∃ i j, x = .str i ∧ y = .str j ∧ i.length + j.length ≤ sizeLine ∧ Q (.str (i ++ j)) H) (tOp rSrep (tC (.str (Str.ofString "ab"))) (tC (.int 30))) (tC (.str (Str.ofString "a")))) (gSub (tVar 2) (tVar 3) rSetL)) tNext)
            { nx := tSeq (tIfS (tOr (tTest (tOp rEq (tVar 1) (tC (.int 2)))) (tTest (tOp (rI0 fun i j => .bl (decide (j < i))) (tVar 1) (tC (.int 3))))) (tAsg (tOp rCat (tVar 2) (tOp rRep (tLst (tCons (tC (.str (Str.ofString "b"))) tNil)) (tC (.int 16)))) (gName 2)) tNext) (tRet (tVar 2)) { nx := fun _ H' => Q .non H', rt := Q }, rt := Q }
            [some (.ref l), some (.int kd), some (.ref D), some (.int (j : Nat)), y] H5 := by
        intro xs H5 y s5 p5 h5 hl hx hac hb
        have setL : kd = 3 ∨ kd = 5 → ∀ H6 : Hp, H6 = H5 → (tAsg (tOp (fun x y H Q => ∃ i j, x = .str i ∧ y = .str j ∧ i.length + j.length ≤ sizeLine ∧ Q (.str (i ++ j)) H) (tOp rSrep (tC (.str (Str.ofString "ab"))) (tC (.int 30))) (tC (.str (Str.ofString "a")))) (gSub (tVar 2) (tVar 3) rSetL))
            { nx := tSeq (tIfS (tOr (tTest (tOp rEq (tVar 1) (tC (.int 2)))) (tTest (tOp (rI0 fun i j => .bl (decide (j < i))) (tVar 1) (tC (.int 3))))) (tAsg (tOp rCat (tVar 2) (tOp rRep (tLst (tCons (tC (.str (Str.ofString "b"))) tNil)) (tC (.int 16)))) (gName 2)) tNext) (tRet (tVar 2)) { nx := fun _ H' => Q .non H', rt := Q }, rt := Q }
            [some (.ref l), some (.int kd), some (.ref D), some (.int (j : Nat)), y] H6 := by
          rintro hkd H6 rfl
          refine ⟨[97, 98], 30, congrArg V.str eab, rfl, by decide, by decide, by decide, by decide, _, _, rfl, rfl, by rw [tx_len]; exact Nat.le_trans (by decide) bl, ?_⟩
          rw [ea, tx_cat]
          have e61 : (List.replicate (Int.toNat 30) [97, 98]).flatten ++ [97] = (List.replicate 30 [97, 98]).flatten ++ [97] := rfl
          rw [e61]
          have h60 : 60 < (rdV (.str (tx ((List.replicate 30 [97, 98]).flatten ++ [97])))).length := by
            show 60 < (red (tx ((List.replicate 30 [97, 98]).flatten ++ [97])).cps.toList).length
            rw [tx_list]
            decide
          have ok : ∀ c ∈ (List.replicate 30 [97, 98]).flatten ++ [97], c < 1114112 := by decide
          have ln : ((List.replicate 30 [97, 98]).flatten ++ [97]).length ≤ 1000000 := by decide
          generalize (List.replicate 30 [97, 98]).flatten ++ [97] = L at h60 ok ln
          refine ⟨_, rfl, _, rfl, D, xs, _, j, rfl, rfl, h5, ixN_nat (by omega), ?_⟩
          refine last (xs.set j (.str (tx L))) _ y (s5.put hDH) (p5.put Dl) upd_same (by rw [List.length_set]; exact hl) ?_ (.inr (.inr ⟨_, setMem xs _ hl, .inr h60⟩))
          refine fun z hz => ?_
          rcases List.mem_or_eq_of_mem_set hz with hz | rfl
          · rw [hac hkd] at hz
            exact good _ z hz
          · exact IB.tx ok ln
        refine ⟨_, rfl, rfl, _, rfl, ?_⟩
        by_cases h3 : kd = 3
        · subst h3
          rw [decide_eq_true rfl]
          exact iteT (iteT (setL (.inl rfl) _ rfl))
        · rw [decide_eq_false (fun z => h3 (V.int.inj z))]
          refine iteF ⟨_, rfl, rfl, _, rfl, ?_⟩
          by_cases h5' : kd = 5
          · subst h5'
            rw [decide_eq_true rfl]
            exact iteT (setL (.inr rfl) _ rfl)
          · rw [decide_eq_false (fun z => h5' (V.int.inj z))]
            refine iteF (last xs H5 y s5 p5 h5 hl hx ?_)
            have : kd = 1 ∨ kd = 2 ∨ kd = 4 := by omega
            rcases this with e | e | e
            · exact .inr (.inr (hb (.inl e)))
            · exact .inl e
            · exact .inr (.inr (hb (.inr e)))
      refine ⟨_, rfl, rfl, _, rfl, ?_⟩
      -- one that is no path is put in
      have put : ∀ H6 : Hp, H6 = H4 → kd = 1 ∨ kd = 4 → (tAsg (tOp (rIxL K) (tLst (tCons (tC .non) (tCons (tC (.int 5)) (tCons (tC (.str (Str.ofString "e"))) (tCons (tLst (tCons (tC (.str (Str.ofString "a"))) tNil)) (tCons (tOp rSrep (tC (.str (Str.ofString "a"))) (tC (.int 401))) tNil)))))) (tCallG (sp_law_draw K) [] (fun _ => E0) (tCons (tVar 0) (tCons (tC (.int 5)) tNil)))) (gSub (tVar 2) (tVar 3) rSetL))
          { nx := tSeq (tIfS (tOr (tTest (tOp rEq (tVar 1) (tC (.int 3)))) (tTest (tOp rEq (tVar 1) (tC (.int 5))))) (tAsg (tOp (fun x y H Q => ∃ i j, x = .str i ∧ y = .str j ∧ i.length + j.length ≤ sizeLine ∧ Q (.str (i ++ j)) H) (tOp rSrep (tC (.str (Str.ofString "ab"))) (tC (.int 30))) (tC (.str (Str.ofString "a")))) (gSub (tVar 2) (tVar 3) rSetL)) tNext) (tSeq (tIfS (tOr (tTest (tOp rEq (tVar 1) (tC (.int 2)))) (tTest (tOp (rI0 fun i j => .bl (decide (j < i))) (tVar 1) (tC (.int 3))))) (tAsg (tOp rCat (tVar 2) (tOp rRep (tLst (tCons (tC (.str (Str.ofString "b"))) tNil)) (tC (.int 16)))) (gName 2)) tNext) (tRet (tVar 2))) { nx := fun _ H' => Q .non H', rt := Q }, rt := Q }
          [some (.ref l), some (.int kd), some (.ref D), some (.int (j : Nat)), none] H6 := by
        rintro H6 rfl hkd
        refine ⟨by show 1 ≤ sizeLine; omega, fun d hd => ⟨[97], 401, congrArg V.str ea, rfl, by decide, by decide, by decide, by decide, by show 5 ≤ sizeLine; omega, fun q hn => ?_⟩⟩
        have dl := p4.ne hd
        have tA : SameB l H (upd H6 d (.lst [.str (Str.ofString "a")])) := s4.trans (.of (same_upd hd))
        have pA := p4.put (o := .lst [.str (Str.ofString "a")]) dl
        have DA := same_upd (o := .lst [.str (Str.ofString "a")]) hd _ _ hD4
        have dA : (upd H6 d (.lst [.str (Str.ofString "a")])) d = some (.lst [.str (Str.ofString "a")]) := upd_same
        generalize upd H6 d (.lst [.str (Str.ofString "a")]) = HA at tA pA DA dA hn
        have ql := pA.ne hn
        generalize hit : [V.non, V.int 5, V.str (Str.ofString "e"), V.ref d, V.str (tx (List.replicate (Int.toNat 401) [97]).flatten)] = its
        have tB := tA.trans (.of (same_upd (o := .lst its) hn))
        have pB := pA.put (o := .lst its) ql
        have DB := same_upd (o := .lst its) hn _ _ DA
        have dB := same_upd (o := .lst its) hn _ _ dA
        have qB : (upd HA q (.lst its)) q = some (.lst its) := upd_same
        generalize upd HA q (.lst its) = HB at tB pB DB dB qB
        refine ⟨_, rfl, _, _, rfl, l, 5, rfl, pB, rfl, by decide, by decide, fun d5 u5 w5 d50 d51 hu5 hw5 hw5' => ?_⟩
        have tC' := tB.trans (.upd (o := .lst [.int u5, .int w5]))
        have pC := PoolAt.upd (l := l) (H := HB) hu5 hw5 hw5'
        have DC : (upd HB l (.lst [.int u5, .int w5])) D = some (.lst acc) := by rw [upd_ne Dl]; exact DB
        have dC : (upd HB l (.lst [.int u5, .int w5])) d = some (.lst [.str (Str.ofString "a")]) := by rw [upd_ne dl]; exact dB
        have qC : (upd HB l (.lst [.int u5, .int w5])) q = some (.lst its) := by rw [upd_ne ql]; exact qB
        generalize upd HB l (.lst [.int u5, .int w5]) = HC at tC' pC DC dC qC
        have dD : d ≠ D := by
          intro z
          rw [z, DC] at dC
          injection dC with e1
          injection e1 with e2
          obtain ⟨c, hc, e3⟩ := hst (.str (Str.ofString "a")) (by rw [e2]; exact List.mem_cons_self)
          have e4 : ∀ c ∈ steps, True := fun _ _ => trivial
          rw [z] at hd
          rw [hD4] at hd
          cases hd
        obtain ⟨x, hx1, hx2, hx3⟩ : ∃ x, atI its d5 = some x ∧ isP x = false ∧ IB K l (upd HC D (.lst (acc.set j x))) x := by
          have : d5 = 0 ∨ d5 = 1 ∨ d5 = 2 ∨ d5 = 3 ∨ d5 = 4 := by omega
          rw [← hit]
          rcases this with rfl | rfl | rfl | rfl | rfl
          · exact ⟨_, rfl, rfl, .non⟩
          · exact ⟨_, rfl, rfl, .int _⟩
          · have ee : Str.ofString "e" = tx [101] := by decide +kernel
            refine ⟨_, rfl, by decide +kernel, ?_⟩
            rw [ee]
            exact IB.tx (by decide) (by decide)
          · exact ⟨_, rfl, rfl, IB.ref (xs := [.str (Str.ofString "a")]) (by rw [upd_ne dD]; exact dC) dl⟩
          · refine ⟨_, rfl, ?_, IB.tx (fun c hc => ?_) ?_⟩
            · show okS _ = false
              rw [okS_eq, tx_size]
              have : ((List.replicate (Int.toNat 401) [97]).flatten).length = 401 := by
                show ((List.replicate 401 [97]).flatten).length = 401
                simp
              rw [this] <;> rfl
            · obtain ⟨y, hy, hc2⟩ := List.mem_flatten.mp hc
              rw [List.eq_of_mem_replicate hy] at hc2
              rw [List.mem_singleton.mp hc2]
              decide
            · show ((List.replicate 401 [97]).flatten).length ≤ 1000000
              simp
        refine ⟨q, its, _, x, rfl, rfl, .inl (.inl qC), hx1, _, rfl, _, rfl, D, acc, _, j, rfl, rfl, DC, ixN_nat hj, ?_⟩
        refine mid (acc.set j x) _ none (tC'.put hDH) (pC.put Dl) upd_same (List.length_set ..) (fun z hz => ?_) (fun z => ?_) (fun _ => ⟨x, setMem acc x rfl, .inl hx2⟩)
        · rcases List.mem_or_eq_of_mem_set hz with hz | rfl
          · exact good _ z hz
          · exact hx3
        · rcases hkd with e | e <;> rcases z with z | z <;> omega
      by_cases h1 : kd = 1
      · rw [decide_eq_true (congrArg V.int h1)]
        exact iteT (iteT (put _ rfl (.inl h1)))
      · rw [decide_eq_false (fun z => h1 (V.int.inj z))]
        refine iteF ⟨_, rfl, rfl, _, rfl, ?_⟩
        by_cases h4 : kd = 4
        · rw [decide_eq_true (congrArg V.int h4)]
          exact iteT (put _ rfl (.inr h4))
        · rw [decide_eq_false (fun z => h4 (V.int.inj z))]
          refine iteF (mid acc H4 none s4 p4 hD4 rfl (good H4) (fun _ => rfl) (fun z => ?_))
          rcases z with z | z
          · exact absurd z h1
          · exact absurd z h4
theorem F_is_path (c : Md fa fns ex P w K mg base) : FunDD K dd_is_path := c.def_ 0 12 rfl rfl
theorem S_is_path : FnScope ["value", "step"] ["value"] (defScope s_is_path) := ⟨rfl, rfl, rfl, by decide +kernel, rfl, by decide +kernel, by decide +kernel⟩
def sp_is_path (K : PySem.W.Frag) : Sp := Sp1 fun v H Q _ => VOK K H v ∧ ∀ H', Same H H' → Q (.bl (isP v)) H'
theorem ok_is_path (c : Md fa fns ex P w K mg base) : FnG P w K mg base 2 (He.fAd K ("is_path", none)) (fdAt K (He.fAd K ("is_path", none))) ["value"] (sp_is_path K) := by
  refine fnG_of (F_is_path c) S_is_path (len_1) (fun cdv A outer s H vs Q E hr h => ⟨_, (pss_one (ps_ret (pe_and (pe_callB call_isi rfl (c.free 204 rfl) (by decide +kernel) (pa_cons (pv 0) (pa_cons (pe_bltn (v := .ty "str") rfl (c.free 212 rfl) (by decide +kernel) rfl) pa_nil))) (pe_and (pe_cmpR op_le (pe_callB call_len rfl (c.free 205 rfl) (by decide +kernel) (pa_cons (pv 0) pa_nil)) (pe_gint rfl (He.int_ok c.X c.G (c.fact 217 rfl))) (nomark _)) (pe_one (pe_callB (cr_all rfl) rfl (c.free 198 rfl) (by decide +kernel) (pa_cons (pe_lc (own := [("step", 1)]) rfl S_is_path.nd (pi_str (pv 0)) (blkOk_by (own := [("step", 1)]) (N := ["value", "step"]) (sc := (defScope s_is_path)) (by decide +kernel)) (fun _ _ _ _ _ => (pg_name (i := 1) S_is_path.nd rfl (Or.inl rfl))) (fun _ _ _ _ _ => pts_nil) (fun _ _ _ _ _ => (pe_cmpR op_in_sign (pv 1) (pe_gstr rfl (He.str_ok c.X c.G (c.fact 216 rfl))) (by rfl)))) pa_nil))))))), ?_⟩)
  obtain ⟨v, rfl, ⟨t, kt, hz⟩, hq⟩ := h
  refine ⟨_, rfl, v, .ty "str", .type t, .type "str", isa t "str", rfl, .ty _, kt.ty, kt.one "str" (by decide), isa t "str", rfl, ?_⟩
  cases e : isa t "str" with
  | false =>
    refine iteF ?_
    have z := isP_not kt e
    rw [← z]
    exact hq H (.refl H)
  | true =>
    obtain ⟨z, rfl⟩ := kt.str_inv e
    refine iteT ⟨_, rfl, .str z, z.length, rfl, ⟨hz z rfl, rfl⟩, _, _, rfl, rfl, _, rfl, ?_⟩
    by_cases h4 : z.cps.size ≤ 400
    · have e4 : decide ((z.length : Int) ≤ 400) = true := decide_eq_true (by show ((z.cps.size : Nat) : Int) ≤ 400; omega)
      rw [e4]
      refine iteT ⟨_, rfl, _, rfl, fun D hD => lc_map walk_str hD (fun i => ((z.cps.toList.take i).map fun c => decide (c ∈ steps)).map V.bl) rfl (fun i hi => ?_) (fun _ _ => trivial) ?_ mono_gName ?_⟩
      · simp only [List.length_map, List.length_take]
        have : (400 : Nat) < sizeLine := by decide
        omega
      · rintro i x H1 H2 R1 hi sm hl ⟨rfl, c, hc, rfl⟩ r1
        refine ⟨rfl, _, rfl, c, _, rfl, rfl, r1 _ _ (.refl _) ?_⟩
        have hc' : z.cps.toList[i]? = some c := by rw [Array.getElem?_toList]; exact hc
        rw [List.take_add_one, hc', stepsS]
        simp
      · intro H1 sm hl
        refine ⟨D, _, rfl, .inl (.inl hl), ?_⟩
        have e2 : ((List.take z.cps.size z.cps.toList).map fun c => decide (c ∈ steps)).all id = isP (.str z) := by
          show _ = okS z
          unfold okS
          rw [decide_eq_true h4, List.take_of_length_le (by simp)]
          simp [List.all_map, Function.comp_def]
        rw [e2]
        exact hq H1 sm
    · have e4 : decide ((z.length : Int) ≤ 400) = false := decide_eq_false (by show ¬ ((z.cps.size : Nat) : Int) ≤ 400; omega)
      rw [e4]
      refine iteF ?_
      have e2 : isP (.str z) = false := by
        show okS z = false
        unfold okS
        rw [decide_eq_false h4] <;> rfl
      rw [← e2]
      exact hq H (.refl H)
theorem T_InvalidPaths (c : Md fa fns ex P w K mg base) : EX K mg "ValueError.__new__" tlV "InvalidPaths" "index" (He.ga K "InvalidPaths") := exB_ok c.X c.G (exf c 3 rfl)
theorem F_InvalidPaths_init (c : Md fa fns ex P w K mg base) : FunDD K dd_InvalidPaths_init := c.def_ 0 2 rfl rfl
theorem S_InvalidPaths_init : FnScope ["self", "index"] ["self", "index"] (defScope s_InvalidPaths_init) := ⟨rfl, rfl, rfl, by decide +kernel, rfl, by decide +kernel, by decide +kernel⟩
theorem Bn_PathError (c : Md fa fns ex P w K mg base) : BaseN K mg "PathError" "ValueError.__init__" := bnB_own c.X c.G (exf c 2 rfl)
theorem TI_InvalidPaths (c : Md fa fns ex P w K mg base) : EXI P w K mg base "ValueError.__new__" tlV "InvalidPaths" "index" (He.ga K "InvalidPaths") := ⟨T_InvalidPaths c, _, _, (iniB_ok (exf c 4 rfl)).1, (iniB_ok (exf c 4 rfl)).2, xinit bbV (by decide +kernel) (F_InvalidPaths_init c) S_InvalidPaths_init rfl rfl rfl (Bn_PathError c) (by decide) (by decide) (by decide) (fun env => ⟨_, rfl⟩), (F_InvalidPaths_init c).bindsN fun _ _ _ _ _ _ us hl => match us, hl with | [_, _], _ => rfl⟩
theorem Bd_is_path_1 (c : Md fa fns ex P w K mg base) : Binds K (fdAt K (He.fAd K ("is_path", none))) ["value"] [] := (F_is_path c).bindsN fun _ _ _ _ _ _ us hl => match us, hl with | [_], _ => rfl
theorem Dv_is_path_1 (c : Md fa fns ex P w K mg base) : Vals [] [] := .nil
theorem F_require_paths (c : Md fa fns ex P w K mg base) : FunDD K dd_require_paths := c.def_ 0 17 rfl rfl
theorem S_require_paths : FnScope ["paths", "most", "index", "path"] ["paths", "most"] (defScope s_require_paths) := ⟨rfl, rfl, rfl, by decide +kernel, rfl, by decide +kernel, by decide +kernel⟩
def sp_require_paths (K : PySem.W.Frag) : Sp := Sp2 fun v m H Q E => ∃ o n, GenV K H v o ∧ m = .int n ∧ match o with
  | none => Rz (He.ga K "InvalidPaths") "index" .non H E
  | some xs => ((xs.length : Int) > n → Rz (He.ga K "InvalidPaths") "index" .non H E) ∧ ((xs.length : Int) ≤ n → match firstBad xs with
    | some i => Rz (He.ga K "InvalidPaths") "index" (.int (i : Nat)) H E
    | none => ∀ H', Same H H' → Q .non H')
theorem ok_require_paths (c : Md fa fns ex P w K mg base) : FnG P w K mg base 3 (He.fAd K ("require_paths", none)) (fdAt K (He.fAd K ("require_paths", none))) ["paths", "most"] (sp_require_paths K) := by
  refine fnG_of (F_require_paths c) S_require_paths (len_2) (fun cdv A outer s H vs Q E hr h => ⟨_, (pss_cons (ps_if (PW.pt (pw_or (pt_not (pt_val (pe_callB call_isiT rfl (c.free 204 rfl) (by decide +kernel) (pa_cons (pv 0) (pa_cons (pe_tup (pa_cons (pe_bltn (v := .ty "list") rfl (c.free 206 rfl) (by decide +kernel) rfl) (pa_cons (pe_bltn (v := .ty "tuple") rfl (c.free 214 rfl) (by decide +kernel) rfl) pa_nil))) pa_nil))))) (pw_or1 (pt_cmpR op_gt (pe_callB call_len rfl (c.free 205 rfl) (by decide +kernel) (pa_cons (pv 0) pa_nil)) (pv 1) (nomark _))))) (pss_one (ps_raise1 (k := 0) rfl bbV (TI_InvalidPaths c) (hr.mono (by decide)) (takes_of rfl rfl rfl rfl) rfl (pa_cons pe_non pa_nil))) pss_nil)
    (pss_one (ps_for (passes_of rfl) rfl (pi_enumU rfl (c.free 202 rfl) (pa_cons (pv 0) pa_nil)) (pg_tup rfl (pgs_cons (pg_name (i := 2) S_require_paths.nd rfl (Or.inl rfl)) (pgs_cons (pg_name (i := 3) S_require_paths.nd rfl (Or.inl rfl)) pgs_nil)))
    (pss_one (ps_if (pt_not (pt_val (gcall (ok_is_path c) (hr.mono (by decide)) rfl (c.glo 2 rfl) (F_is_path c).kp (Bd_is_path_1 c) (Dv_is_path_1 c) pxN (pa_cons (pv 3) pa_nil)))) (pss_one (ps_raise1 (k := 0) rfl bbV (TI_InvalidPaths c) (hr.mono (by decide)) (takes_of rfl rfl rfl rfl) rfl (pa_cons (pv 2) pa_nil))) pss_nil))))), ?_⟩)
  obtain ⟨v, m, rfl, o, n, hv, rfl, hq⟩ := h
  obtain ⟨t, kt, ht⟩ := hv.knd
  refine ⟨_, rfl, by show 2 ≤ sizeLine; decide, fun p hp => ⟨v, p, _, .type t, _, _, rfl, upd_same, cls2, (kt.same (same_upd hp)).ty, kt.seq, _, rfl, ?_⟩⟩
  rw [ht]
  have s1 := same_upd (o := .tup [.ty "list", .ty "tuple"]) hp
  cases hv with
  | bad k e =>
    refine iteT (iteT ⟨_, rfl, fun d nd => ?_⟩)
    exact (hq.same s1).go d nd
  | @seq xs h a hn =>
    refine iteF ⟨_, rfl, v, xs.length, rfl, (h.same s1).len, _, rfl, _, _, rfl, rfl, _, rfl, ?_⟩
    by_cases hx : (xs.length : Int) > n
    · rw [decide_eq_true hx]
      exact iteT ⟨_, rfl, fun d nd => ((hq.1 hx).same s1).go d nd⟩
    · rw [decide_eq_false hx]
      refine iteF ?_
      have hq := hq.2 (by omega)
      have stop : ∀ σ H1, (Same H H1 ∧ ∃ x y, σ = [some v, some (.int n), x, y] ∧ ∀ j < xs.length, ∀ x, xs[j]? = some x → isP x = true) → Q .non H1 := by
        rintro σ H1 ⟨sm, x, y, _, all⟩
        have e : firstBad xs = none := by
          rw [firstBad, List.findIdx?_eq_none_iff]
          intro x hx
          obtain ⟨j, hj, ej⟩ := List.mem_iff_getElem.mp hx
          rw [all j hj x (by rw [List.getElem?_eq_getElem hj, ej])] <;> rfl
        rw [e] at hq
        exact hq H1 sm
      obtain ⟨b, rfl, hs⟩ := h.same s1
      refine ⟨_, rfl, b, xs, rfl, hs, fun J wk => for_go wk (fun i σ H1 => Same H H1 ∧ Same (upd H p (.tup [.ty "list", .ty "tuple"])) H1 ∧ ∃ x y, σ = [some (.ref b), some (.int n), x, y] ∧ ∀ j < i, ∀ x, xs[j]? = some x → isP x = true) ⟨s1, .refl _, none, none, rfl, fun j hj => absurd hj (Nat.not_lt_zero j)⟩ (fun i σ H1 _ p => p.2.1) ?_ (fun σ H1 p => stop σ H1 ⟨p.1, p.2.2⟩)⟩
      rintro i y σ H1 H2 hi ⟨sm, sm', x0, y0, rfl, all⟩ ⟨T, ix, x, rfl, nT, rfl, hix, hx⟩
      cases hix
      have hx : xs[i]? = some x := hx
      have s2 := sm.trans (same_upd (o := .tup [.int (i : Nat), x]) nT)
      refine ⟨T, _, rfl, .inl (.inl upd_same), rfl, _, _, rfl, _, _, rfl, rfl, _, rfl, x, rfl, (a x (List.mem_of_getElem? hx)).same s2, fun H3 s3 => ⟨_, rfl, ?_⟩⟩
      cases e : isP x with
      | true => exact iteF ⟨s2.trans s3, (sm'.trans (same_upd nT)).trans s3, _, _, rfl, fun j hj z ez => by
          by_cases hji : j < i
          · exact all j hji z ez
          · have e2 : j = i := by omega
            rw [e2, hx] at ez
            rw [← Option.some.inj ez]
            exact e⟩
      | false =>
        refine iteT ⟨_, rfl, _, rfl, fun d nd => ?_⟩
        have fb : firstBad xs = some i := first_of hx e all
        rw [fb] at hq
        exact (hq.same (s2.trans s3)).go d nd
theorem F_reduce_all (c : Md fa fns ex P w K mg base) : FunDD K dd_reduce_all := c.def_ 0 14 rfl rfl
theorem S_reduce_all : FnScope ["parts", "kept", "part", "step"] ["parts"] (defScope s_reduce_all) := ⟨rfl, rfl, rfl, by decide +kernel, rfl, by decide +kernel, by decide +kernel⟩
def sp_reduce_all (K : PySem.W.Frag) : Sp := Sp1 fun v H Q _ => ∃ (a : Addr) (ps : List Pth), v = .ref a ∧ SqL K H a (ps.map fun p => V.str (tx p)) ∧ (∀ p ∈ ps, ∀ c ∈ p, c ∈ steps) ∧ (ps.flatten.length ≤ 100000) ∧ ∀ H', Same H H' → Q (.str (tx (red ps.flatten))) H'
theorem ok_reduce_all (c : Md fa fns ex P w K mg base) : FnG P w K mg base 2 (He.fAd K ("reduce_all", none)) (fdAt K (He.fAd K ("reduce_all", none))) ["parts"] (sp_reduce_all K) := by
  refine fnG_of (F_reduce_all c) S_reduce_all (len_1) (fun cdv A outer s H vs Q E hr h => ⟨_, (pss_cons (ps_set (i := 1) S_reduce_all.nd rfl (Or.inl rfl) (pe_lst pa_nil))
    (pss_cons (ps_for (passes_of rfl) rfl (pi_list (pv 0)) (pg_name (i := 2) S_reduce_all.nd rfl (Or.inl rfl))
    (pss_one (ps_for (passes_of rfl) rfl (pi_str (pv 2)) (pg_name (i := 3) S_reduce_all.nd rfl (Or.inl rfl))
    (pss_one (ps_if (PW.pt (pw_and (pt_cmpR (op_neD hr.r.units) (pv 1) (pe_lst pa_nil) (nomark _)) (pw_and1 (pt_cmpR op_eq (pe_ix ix_list (pv 1) (pe_un un_neg pe_int) (fun _ _ => rfl)) (pe_m0 PySem.F.slot_str_swapcase PySem.F.type_str_swapcase mt_swapcase (pv 3)) (nomark _))))) (pss_one (ps_expr (pe_bm0 PySem.F.plainAttrs_list PySem.F.slot_list_pop PySem.F.type_list_pop mt_pop (pv 1)))) (pss_one (ps_expr (pe_bm PySem.F.plainAttrs_list PySem.F.slot_list_append PySem.F.type_list_append mt_append (pv 1) (pa_cons (pv 3) pa_nil)))))))))
    (pss_one (ps_ret (pe_join pe_str (pv 1)))))), ?_⟩)
  obtain ⟨v, rfl, a, ps, rfl, hs, hst, hlen, hq⟩ := h
  have big : (100001 : Nat) < sizeLine := by decide
  refine ⟨by show 0 ≤ sizeLine; omega, fun l hl => ⟨_, rfl, a, rfl, ⟨_, sqL_same (same_upd hl) hs⟩, ?_⟩⟩
  -- the parts
  refine for_go (walk_list (xs := ps.map fun p => V.str (tx p))) (fun i σ H1 => ∃ x y, σ = [some (.ref a), some (.ref l), x, y] ∧ Same H H1 ∧ H1 l = some (.lst (sgn (red (ps.take i).flatten)))) ⟨none, none, rfl, same_upd hl, upd_same⟩
    (fun i σ H1 _ ⟨x, y, _, sm, _⟩ => sqL_same sm hs) ?_ ?_
  · rintro i v σ H1 H2 hi ⟨x, y, rfl, sm, hk⟩ ⟨rfl, hv⟩
    obtain ⟨p, hp, rfl⟩ : ∃ p, ps[i]? = some p ∧ v = .str (tx p) := by
      rw [List.getElem?_map] at hv
      obtain ⟨p, h1, h2⟩ := Option.map_eq_some_iff.mp hv
      exact ⟨p, h1, h2.symm⟩
    have hin : p ∈ ps := List.mem_of_getElem? hp
    refine ⟨_, rfl, tx p, rfl, ?_⟩
    refine for_go (walk_str (z := tx p)) (fun j σ H1 => ∃ x y, σ = [some (.ref a), some (.ref l), x, y] ∧ Same H H1 ∧ H1 l = some (.lst (sgn (red ((ps.take i).flatten ++ p.take j))))) ⟨_, _, rfl, sm, by simpa using hk⟩ (fun _ _ _ _ _ => trivial) ?_ ?_
    · rintro j v σ H3 H1 hj ⟨x, y, rfl, sm1, hk1⟩ ⟨rfl, c, hc, rfl⟩
      have hc1 : p[j]? = some c := by simpa [tx] using hc
      have hcs : c ∈ steps := hst p hin c (List.mem_of_getElem? hc1)
      generalize hkk : red ((ps.take i).flatten ++ p.take j) = k at hk1
      have hnext : red ((ps.take i).flatten ++ p.take (j + 1)) = rstep k c := by
        rw [← hkk, List.take_add_one, hc1]
        simp only [red, Option.toList_some, ← List.append_assoc, List.foldl_append, List.foldl_cons, List.foldl_nil]
      have hkm : ∀ d ∈ k, d ∈ steps := by
        intro d hd
        rw [← hkk] at hd
        rcases List.mem_append.mp (red_mem hd) with h | h
        · obtain ⟨p2, h1, h2⟩ := List.mem_flatten.mp h
          exact hst p2 (List.mem_of_mem_take h1) d h2
        · exact hst p hin d (List.mem_of_mem_take h)
      have hkl : k.length ≤ 100000 := by
        have h1 := red_len ((ps.take i).flatten ++ p.take j)
        rw [hkk] at h1
        have h2 : ((ps.take i).flatten ++ p.take j).length ≤ ps.flatten.length := parts_len hp
        omega
      refine ⟨_, rfl, by show 0 ≤ sizeLine; omega, fun l2 hl2 => ⟨_, _, dp_sgn (k := k) (same_upd hl2 _ _ hk1), .lst (.inl (.inl upd_same)) .nil, (sh_sgn hkm).shaped, (Sh.list (n := 0) (ds := []) (fun d z => by cases z)).shaped, _, rfl, ?_⟩⟩
      have sm2 : Same H (upd H1 l2 (.lst [])) := sm1.trans (same_upd hl2)
      have hk2 : (upd H1 l2 (.lst [])) l = some (.lst (sgn k)) := same_upd hl2 _ _ hk1
      have push : ∀ e : rstep k c = k ++ [c], (tDrop (tBM K "list" rAppend (tVar 1) (tCons (tVar 3) tNil))) { nx := fun σ H1 => ∃ x y, σ = [some (.ref a), some (.ref l), x, y] ∧ Same H H1 ∧ H1 l = some (.lst (sgn (red ((ps.take i).flatten ++ p.take (j + 1))))), rt := Q } [some (.ref a), some (.ref l), x, some (.str ⟨#[c]⟩)] (upd H1 l2 (.lst [])) := by
        intro e
        refine ⟨_, rfl, .inl ⟨rfl, _, .inl (.inl hk2)⟩, _, rfl, l, _, _, rfl, rfl, hk2, by simp only [sgn, List.length_map]; omega, _, _, rfl, ?_, ?_⟩
        · exact upd_at sm2 hl
        · rw [upd_same, hnext, e]
          simp [sgn]
      rw [eqv_nil]
      rcases List.eq_nil_or_concat k with ek | ⟨k', d, ek⟩
      · subst ek
        exact iteF (push (by rfl))
      · rw [List.concat_eq_append] at ek
        subst ek
        have ne : (!(List.map (fun c => PyData.str ⟨#[c]⟩) (k' ++ [d])).isEmpty) = true := by simp
        rw [ne]
        have sg : sgn (k' ++ [d]) = sgn k' ++ [V.str ⟨#[d]⟩] := by simp [sgn]
        refine iteT ⟨_, rfl, _, rfl, l, _, _, _, rfl, rfl, .inl (.inl hk2), by rw [sg]; exact atI_last _ _, _, rfl, ⟨_, rfl⟩, _, rfl, rfl, by show (1 : Nat) ≤ 5592405; decide, rfl, _, rfl, ?_⟩
        rw [swap1 c hcs]
        have rs : rstep (k' ++ [d]) c = if d = sw c then k' else k' ++ [d] ++ [c] := by simp [rstep]
        by_cases e : d = sw c
        · rw [e, decide_eq_true rfl]
          rw [e] at hk2 sg rs
          rw [if_pos rfl] at rs
          refine iteT ⟨_, rfl, .inl ⟨rfl, _, .inl (.inl hk2)⟩, l, _, .str ⟨#[sw c]⟩, rfl, rfl, hk2, by rw [sg]; simp, _, _, rfl, upd_at sm2 hl, ?_⟩
          rw [upd_same, hnext, e, rs, sg]
          simp
        · rw [decide_eq_false (fun z => e (by simpa using z))]
          rw [if_neg e] at rs
          exact iteF (push rs)
    · rintro σ H1 ⟨x, y, rfl, sm1, hk1⟩
      refine ⟨x, y, rfl, sm1, ?_⟩
      have e : (ps.take i).flatten ++ p.take (tx p).cps.size = (ps.take (i + 1)).flatten := by
        rw [List.take_add_one, hp, List.take_of_length_le (show p.length ≤ (tx p).cps.size from Nat.le_of_eq (by show p.length = p.toArray.size; simp))]
        simp
      rw [e] at hk1
      exact hk1
  · rintro σ H1 ⟨x, y, rfl, sm, hk⟩
    refine ⟨⟨_, rfl⟩, _, rfl, Str.ofString "", l, (red ps.flatten).map (fun c => ⟨#[c]⟩), rfl, rfl, .inl (.inl (.inl ?_)), ?_, ?_⟩
    · have e : ps.take (ps.map fun p => V.str (tx p)).length = ps := by simp
      rw [e] at hk
      rw [hk, sgn, List.map_map]
      rfl
    · have e : ((red ps.flatten).map fun c => (⟨#[c]⟩ : Str)).map (·.length) = (red ps.flatten).map fun _ => 1 := by
        rw [List.map_map]
        rfl
      rw [e, List.map_const', List.sum_replicate_nat]
      have h1 := red_len ps.flatten
      show (red ps.flatten).length * 1 + _ * (0 : Nat) ≤ 16777216
      omega
    · rw [join_sgn]
      exact hq _ sm
theorem T_LimitExceeded (c : Md fa fns ex P w K mg base) : EX K mg "OverflowError.__new__" tlO "LimitExceeded" "limit" (He.ga K "LimitExceeded") := exB_ok c.X c.G (exf c 16 rfl)
theorem F_LimitExceeded_init (c : Md fa fns ex P w K mg base) : FunDD K dd_LimitExceeded_init := c.def_ 0 8 rfl rfl
theorem S_LimitExceeded_init : FnScope ["self", "limit"] ["self", "limit"] (defScope s_LimitExceeded_init) := ⟨rfl, rfl, rfl, by decide +kernel, rfl, by decide +kernel, by decide +kernel⟩
theorem Bn_OverflowError (c : Md fa fns ex P w K mg base) : BaseN K mg "OverflowError" "OverflowError.__init__" := bnB_blt c.X c.G (exf c 18 rfl) (by decide +kernel) (by decide) (by rfl) (by decide +kernel)
theorem TI_LimitExceeded (c : Md fa fns ex P w K mg base) : EXI P w K mg base "OverflowError.__new__" tlO "LimitExceeded" "limit" (He.ga K "LimitExceeded") := ⟨T_LimitExceeded c, _, _, (iniB_ok (exf c 17 rfl)).1, (iniB_ok (exf c 17 rfl)).2, xinit bbO (by decide +kernel) (F_LimitExceeded_init c) S_LimitExceeded_init rfl rfl rfl (Bn_OverflowError c) (by decide) (by decide) (by decide) (fun env => ⟨_, rfl⟩), (F_LimitExceeded_init c).bindsN fun _ _ _ _ _ _ us hl => match us, hl with | [_, _], _ => rfl⟩
theorem Bd_reduce_all_1 (c : Md fa fns ex P w K mg base) : Binds K (fdAt K (He.fAd K ("reduce_all", none))) ["parts"] [] := (F_reduce_all c).bindsN fun _ _ _ _ _ _ us hl => match us, hl with | [_], _ => rfl
theorem Dv_reduce_all_1 (c : Md fa fns ex P w K mg base) : Vals [] [] := .nil
theorem F_reduced_generator (c : Md fa fns ex P w K mg base) : FunDD K dd_reduced_generator := c.def_ 0 19 rfl rfl
theorem S_reduced_generator : FnScope ["path", "result"] ["path"] (defScope s_reduced_generator) := ⟨rfl, rfl, rfl, by decide +kernel, rfl, by decide +kernel, by decide +kernel⟩
def sp_reduced_generator (K : PySem.W.Frag) : Sp := Sp1 fun v H Q E => isP v = true ∧ ((red (cdV v)).length ≤ 60 → ∀ H', Same H H' → Q (.str (tx (red (cdV v)))) H') ∧ (60 < (red (cdV v)).length → Rz (He.ga K "LimitExceeded") "limit" (.int 60) H E)
theorem ok_reduced_generator (c : Md fa fns ex P w K mg base) : FnG P w K mg base 3 (He.fAd K ("reduced_generator", none)) (fdAt K (He.fAd K ("reduced_generator", none))) ["path"] (sp_reduced_generator K) := by
  refine fnG_of (F_reduced_generator c) S_reduced_generator (len_1) (fun cdv A outer s H vs Q E hr h => ⟨_, (pss_cons (ps_set (i := 1) S_reduced_generator.nd rfl (Or.inl rfl) (gcall (ok_reduce_all c) (hr.mono (by decide)) rfl (c.glo 4 rfl) (F_reduce_all c).kp (Bd_reduce_all_1 c) (Dv_reduce_all_1 c) pxN (pa_cons (pe_lst (pa_cons (pv 0) pa_nil)) pa_nil)))
    (pss_cons (ps_if (pt_cmpR op_gt (pe_callB call_len rfl (c.free 205 rfl) (by decide +kernel) (pa_cons (pv 1) pa_nil)) (pe_gint rfl (He.int_ok c.X c.G (c.fact 219 rfl))) (nomark _)) (pss_one (ps_raise1 (k := 0) rfl bbO (TI_LimitExceeded c) (hr.mono (by decide)) (takes_of rfl rfl rfl rfl) rfl (pa_cons (pe_gint rfl (He.int_ok c.X c.G (c.fact 219 rfl))) pa_nil))) pss_nil)
    (pss_one (ps_ret (pv 1))))), ?_⟩)
  obtain ⟨v, rfl, e, h1, h2⟩ := h
  obtain ⟨p, rfl, ec, hl, hs⟩ := isP_str e
  rw [ec] at h1 h2
  refine ⟨_, rfl, by show 1 ≤ sizeLine; decide, fun a na => ⟨_, rfl, a, [p], rfl, .inl (.inl upd_same), fun q hq => by rw [List.mem_singleton.mp hq]; exact hs, by simp; omega, fun H2 s2 => ?_⟩⟩
  have e2 : [p].flatten = p := by simp
  rw [e2]
  have hz : (red p).length ≤ 400 := Nat.le_trans (red_len p) hl
  refine ⟨_, rfl, _, (red p).length, rfl, ⟨by show (tx (red p)).length ≤ sizeLine; rw [SX.S_len]; exact Nat.le_trans hz (by decide), (SX.S_len _).symm⟩, _, _, rfl, rfl, _, rfl, ?_⟩
  have sm := (same_upd (o := .lst [.str (tx p)]) na).trans s2
  by_cases h : (red p).length ≤ 60
  · rw [decide_eq_false (by show ¬ ((60 : Int) < ((red p).length : Nat)); omega)]
    exact iteF ⟨_, rfl, h1 h H2 sm⟩
  · rw [decide_eq_true (by show ((60 : Int) < ((red p).length : Nat)); omega)]
    exact iteT ⟨_, rfl, fun d nd => ((h2 (by omega)).same sm).go d nd⟩
theorem Bd_reduced_generator_1 (c : Md fa fns ex P w K mg base) : Binds K (fdAt K (He.fAd K ("reduced_generator", none))) ["path"] [] := (F_reduced_generator c).bindsN fun _ _ _ _ _ _ us hl => match us, hl with | [_], _ => rfl
theorem Dv_reduced_generator_1 (c : Md fa fns ex P w K mg base) : Vals [] [] := .nil
theorem Bd_require_paths_2 (c : Md fa fns ex P w K mg base) : Binds K (fdAt K (He.fAd K ("require_paths", none))) ["paths", "most"] [] := (F_require_paths c).bindsN fun _ _ _ _ _ _ us hl => match us, hl with | [_, _], _ => rfl
theorem Dv_require_paths_2 (c : Md fa fns ex P w K mg base) : Vals [] [] := .nil
theorem F_reduced_generators (c : Md fa fns ex P w K mg base) : FunDD K dd_reduced_generators := c.def_ 0 20 rfl rfl
theorem S_reduced_generators : FnScope ["generators", "path"] ["generators"] (defScope s_reduced_generators) := ⟨rfl, rfl, rfl, by decide +kernel, rfl, by decide +kernel, by decide +kernel⟩
def sp_reduced_generators (K : PySem.W.Frag) : Sp := Sp1 fun v H Q E => ∃ o, GenV K H v o ∧ GRd K (genOut o) H E fun ps => ∀ a H', Same H H' → H a = none → H' a = some (.lst (ps.map fun p => .str (tx p))) → Q (.ref a) H'
theorem ok_reduced_generators (c : Md fa fns ex P w K mg base) : FnG P w K mg base 4 (He.fAd K ("reduced_generators", none)) (fdAt K (He.fAd K ("reduced_generators", none))) ["generators"] (sp_reduced_generators K) := by
  refine fnG_of (F_reduced_generators c) S_reduced_generators (len_1) (fun cdv A outer s H vs Q E hr h => ⟨_, (pss_cons (ps_if (pt_not (pt_val (pe_callB call_isiT rfl (c.free 204 rfl) (by decide +kernel) (pa_cons (pv 0) (pa_cons (pe_tup (pa_cons (pe_bltn (v := .ty "list") rfl (c.free 206 rfl) (by decide +kernel) rfl) (pa_cons (pe_bltn (v := .ty "tuple") rfl (c.free 214 rfl) (by decide +kernel) rfl) pa_nil))) pa_nil))))) (pss_one (ps_raise1 (k := 0) rfl bbV (TI_InvalidPaths c) (hr.mono (by decide)) (takes_of rfl rfl rfl rfl) rfl (pa_cons pe_non pa_nil))) pss_nil)
    (pss_cons (ps_expr (gcall (ok_require_paths c) (hr.mono (by decide)) rfl (c.glo 7 rfl) (F_require_paths c).kp (Bd_require_paths_2 c) (Dv_require_paths_2 c) (pxB (takes_of rfl rfl rfl rfl)) (pa_cons (pv 0) (pa_cons (pe_callB call_len rfl (c.free 205 rfl) (by decide +kernel) (pa_cons (pv 0) pa_nil)) pa_nil))))
    (pss_cons (ps_if (pt_cmpR op_gt (pe_callB call_len rfl (c.free 205 rfl) (by decide +kernel) (pa_cons (pv 0) pa_nil)) (pe_gint rfl (He.int_ok c.X c.G (c.fact 218 rfl))) (nomark _)) (pss_one (ps_raise1 (k := 0) rfl bbO (TI_LimitExceeded c) (hr.mono (by decide)) (takes_of rfl rfl rfl rfl) rfl (pa_cons (pe_gint rfl (He.int_ok c.X c.G (c.fact 218 rfl))) pa_nil))) pss_nil)
    (pss_one (ps_ret (pe_lcX (own := [("path", 1)]) rfl rfl (takes_of rfl rfl rfl rfl) (fun _ _ _ _ h => h) rfl S_reduced_generators.nd (pi_seq (pv 0)) (blkOk_by (own := [("path", 1)]) (N := ["generators", "path"]) (sc := (defScope s_reduced_generators)) (by decide +kernel)) (fun _ _ _ _ _ _ => (pg_name (i := 1) S_reduced_generators.nd rfl (Or.inl rfl))) (fun _ _ _ _ _ _ => pts_nil) (fun _ _ _ _ _ _ hp => (gcall (ok_reduced_generator c) (hr.mono (by decide)) rfl (c.glo 9 rfl) (F_reduced_generator c).kp (Bd_reduced_generator_1 c) (Dv_reduced_generator_1 c) (fun σ => pxP hp σ) (pa_cons (pv 1) pa_nil))))))))), ?_⟩)
  obtain ⟨v, rfl, o, hv, hq⟩ := h
  obtain ⟨t, kt, ht⟩ := hv.knd
  refine ⟨_, rfl, by show 2 ≤ sizeLine; decide, fun p hp => ⟨v, p, _, .type t, _, _, rfl, upd_same, cls2, (kt.same (same_upd hp)).ty, kt.seq, _, rfl, ?_⟩⟩
  rw [ht]
  have s1 := same_upd (o := .tup [.ty "list", .ty "tuple"]) hp
  cases hv with
  | bad k e => exact iteT ⟨_, rfl, fun d nd => (Rz.same s1 hq).go d nd⟩
  | @seq xs h a hn =>
    refine iteF ⟨_, rfl, _, rfl, v, xs.length, rfl, (h.same s1).len, v, .int xs.length, rfl, some xs, xs.length, .seq (h.same s1) (fun x hx => (a x hx).same s1) hn, rfl, fun z => by omega, fun _ => ?_⟩
    cases fb : firstBad xs with
    | some i =>
      rw [genOut_bad fb] at hq
      exact Rz.same s1 hq
    | none =>
      have good := firstBad_none fb
      intro H1 s2
      have sm := s1.trans s2
      refine ⟨_, rfl, v, xs.length, rfl, (h.same sm).len, _, _, rfl, rfl, _, rfl, ?_⟩
      by_cases h16 : 16 < xs.length
      · rw [decide_eq_true (by omega)]
        rw [genOut_16 fb h16] at hq
        exact iteT ⟨_, rfl, fun d nd => (Rz.same sm hq).go d nd⟩
      · rw [decide_eq_false (by omega)]
        refine iteF ?_
        have el : ∀ i x (H2 H3 : Hp) (R : V → Hp → Prop), i < xs.length → (∀ j < i, ∀ z, xs[j]? = some z → (rdV z).length ≤ 60) → Same H1 H2 → H3 = H2 ∧ xs[i]? = some x → (∀ y H4, Same H2 H4 → (xs.take (i + 1)).map (fun z => V.str (tx (rdV z))) = (xs.take i).map (fun z => V.str (tx (rdV z))) ++ [y] → (∀ j < i + 1, ∀ z, xs[j]? = some z → (rdV z).length ≤ 60) → R y H4) →
            isP x = true ∧ ((red (cdV x)).length ≤ 60 → ∀ H', Same H3 H' → R (.str (tx (red (cdV x)))) H') ∧ (60 < (red (cdV x)).length → Rz (He.ga K "LimitExceeded") "limit" (.int 60) H3 E) := by
          rintro i x H2 H3 R hi hN sm2 ⟨rfl, hx⟩ r
          refine ⟨good x (List.mem_of_getElem? hx), fun h60 H4 s4 => r _ _ s4 (take_map hx _) fun j hj z hz => ?_, fun h60 => ?_⟩
          · by_cases hji : j < i
            · exact hN j hji z hz
            · have e2 : j = i := by omega
              rw [e2, hx] at hz
              rw [← Option.some.inj hz]
              exact h60
          · rw [genOut_60 fb h16 (List.mem_of_getElem? hx) h60] at hq
            exact Rz.same (sm.trans sm2) hq
        have fin : ∀ (D : Addr) (H2 : Hp), H1 D = none → (∀ j < xs.length, ∀ z, xs[j]? = some z → (rdV z).length ≤ 60) → Same H1 H2 → H2 D = some (.lst ((xs.take xs.length).map fun z => V.str (tx (rdV z)))) → Q (.ref D) H2 := by
          intro D H2 hD hN sm2 hl
          rw [genOut_ok fb h16 fun z hz => by
            obtain ⟨j, hj, ej⟩ := List.mem_iff_getElem.mp hz
            exact hN j hj z (by rw [List.getElem?_eq_getElem hj, ej])] at hq
          refine hq D H2 (sm.trans sm2) (sm.free hD) ?_
          rw [hl, List.take_length, List.map_map]
          rfl
        have hz : ∀ i, i < xs.length → ((xs.take i).map fun z => V.str (tx (rdV z))).length < sizeLine := by
          intro i hi
          simp only [List.length_map, List.length_take]
          have : (1000001 : Nat) < sizeLine := by decide
          omega
        obtain ⟨b, rfl, hs⟩ := h.same sm
        refine ⟨_, rfl, b, xs, rfl, hs, fun J wk D hD => lc_mapI wk hD (fun i => (xs.take i).map fun z => V.str (tx (rdV z))) (fun i => ∀ j < i, ∀ z, xs[j]? = some z → (rdV z).length ≤ 60) rfl (fun j hj => absurd hj (Nat.not_lt_zero j)) hz (fun H2 s => s) ?_ mono_gName (fun H2 n s q => fin D H2 hD n s q)⟩
        intro i x H2 H3 R hi hN sm2 hl y r
        exact ⟨rfl, _, rfl, x, rfl, el i x H2 H3 R hi hN sm2 y r⟩
theorem Bd_reduced_generators_1 (c : Md fa fns ex P w K mg base) : Binds K (fdAt K (He.fAd K ("reduced_generators", none))) ["generators"] [] := (F_reduced_generators c).bindsN fun _ _ _ _ _ _ us hl => match us, hl with | [_], _ => rfl
theorem Dv_reduced_generators_1 (c : Md fa fns ex P w K mg base) : Vals [] [] := .nil
theorem F_Folding_init (c : Md fa fns ex P w K mg base) : FunDD K dd_Folding_init := c.def_ 0 42 rfl rfl
theorem S_Folding_init : FnScope ["self", "generators"] ["self", "generators"] (defScope s_Folding_init) := ⟨rfl, rfl, rfl, by decide +kernel, rfl, by decide +kernel, by decide +kernel⟩
def sp_Folding_init (K : PySem.W.Frag) : Sp := Sp2 fun a b H _ E => (∃ x dx, a = .ref x ∧ H x = some (.ins (He.ga K "Folding") dx [])) ∧ Rg1 K b H E
theorem ok_Folding_init (c : Md fa fns ex P w K mg base) : FnG P w K mg base 5 (He.fAd K ("Folding", some "__init__")) (fdAt K (He.fAd K ("Folding", some "__init__"))) ["self", "generators"] (sp_Folding_init K) := by
  refine fnG_of (F_Folding_init c) S_Folding_init (len_2) (fun cdv A outer s H vs Q E hr h => ⟨_, (pss_one (ps_expr (pe_mstop (pv 0) (He.cls_ok (c.fact 143 rfl)) (He.meth_ok (c.fact 146 rfl)) (pa_cons (gcall (ok_reduced_generators c) (hr.mono (by decide)) rfl (c.glo 10 rfl) (F_reduced_generators c).kp (Bd_reduced_generators_1 c) (Dv_reduced_generators_1 c) (pxB (takes_of rfl rfl rfl rfl)) (pa_cons (pv 1) pa_nil)) pa_nil)))), ?_⟩)
  obtain ⟨a, b, rfl, ⟨x, dx, rfl, hx⟩, o, hv, hq⟩ := h
  exact ⟨_, rfl, x, dx, [], rfl, hx, rfl, _, rfl, _, rfl, o, hv, hq.no⟩
theorem F_fold_paths (c : Md fa fns ex P w K mg base) : FunDD K dd_fold_paths := c.def_ 0 57 rfl rfl
theorem F_folded_graph (c : Md fa fns ex P w K mg base) : FunDD K dd_folded_graph := c.def_ 0 58 rfl rfl
theorem S_folded_graph : FnScope ["generators"] ["generators"] (defScope s_folded_graph) := ⟨rfl, rfl, rfl, by decide +kernel, rfl, by decide +kernel, by decide +kernel⟩
def sp_folded_graph (K : PySem.W.Frag) : Sp := Sp1 fun a H _ E => Rg1 K a H E
theorem ok_folded_graph (c : Md fa fns ex P w K mg base) : FnG P w K mg base 5 (He.fAd K ("folded_graph", none)) (fdAt K (He.fAd K ("folded_graph", none))) ["generators"] (sp_folded_graph K) := by
  refine fnG_of (F_folded_graph c) S_folded_graph (len_1) (fun cdv A outer s H vs Q E hr h => ⟨_, (pss_one (ps_ret (pe_stop rfl (c.glo 20 rfl) (F_fold_paths c).kp (pa_cons (gcall (ok_reduced_generators c) (hr.mono (by decide)) rfl (c.glo 10 rfl) (F_reduced_generators c).kp (Bd_reduced_generators_1 c) (Dv_reduced_generators_1 c) (pxB (takes_of rfl rfl rfl rfl)) (pa_cons (pv 0) pa_nil)) pa_nil)))), ?_⟩)
  obtain ⟨a, rfl, o, hv, hq⟩ := h
  exact ⟨_, rfl, _, rfl, o, hv, hq.no⟩
theorem F_derive (c : Md fa fns ex P w K mg base) : FunDD K dd_derive := c.def_ 1 12 rfl rfl
theorem S_derive : FnScope ["generators", "path", "paths"] ["generators", "path"] (defScope s_derive) := ⟨rfl, rfl, rfl, by decide +kernel, rfl, by decide +kernel, by decide +kernel⟩
def sp_derive (K : PySem.W.Frag) : Sp := Sp2 fun a _ H _ E => Rg1 K a H E
theorem ok_derive (c : Md fa fns ex P w K mg base) : FnG P w K mg base 5 (He.fAd K ("derive", none)) (fdAt K (He.fAd K ("derive", none))) ["generators", "path"] (sp_derive K) := by
  refine fnG_of (F_derive c) S_derive (len_2) (fun cdv A outer s H vs Q E hr h => ⟨_, (pss_cons (ps_set (i := 2) S_derive.nd rfl (Or.inl rfl) (gcall (ok_reduced_generators c) (hr.mono (by decide)) rfl (c.glo 10 rfl) (F_reduced_generators c).kp (Bd_reduced_generators_1 c) (Dv_reduced_generators_1 c) (pxB (takes_of rfl rfl rfl rfl)) (pa_cons (pv 0) pa_nil)))
    pss_never), ?_⟩)
  obtain ⟨a, b, rfl, o, hv, hq⟩ := h
  exact ⟨_, rfl, _, rfl, o, hv, hq.no⟩
theorem Bd_derive_2 (c : Md fa fns ex P w K mg base) : Binds K (fdAt K (He.fAd K ("derive", none))) ["generators", "path"] [] := (F_derive c).bindsN fun _ _ _ _ _ _ us hl => match us, hl with | [_, _], _ => rfl
theorem Dv_derive_2 (c : Md fa fns ex P w K mg base) : Vals [] [] := .nil
theorem F_is_generated (c : Md fa fns ex P w K mg base) : FunDD K dd_is_generated := c.def_ 1 13 rfl rfl
theorem S_is_generated : FnScope ["generators", "path"] ["generators", "path"] (defScope s_is_generated) := ⟨rfl, rfl, rfl, by decide +kernel, rfl, by decide +kernel, by decide +kernel⟩
def sp_is_generated (K : PySem.W.Frag) : Sp := Sp2 fun a _ H _ E => Rg1 K a H E
theorem ok_is_generated (c : Md fa fns ex P w K mg base) : FnG P w K mg base 6 (He.fAd K ("is_generated", none)) (fdAt K (He.fAd K ("is_generated", none))) ["generators", "path"] (sp_is_generated K) := by
  refine fnG_of (F_is_generated c) S_is_generated (len_2) (fun cdv A outer s H vs Q E hr h => ⟨_, (pss_one (ps_ret (pe_cmpR op_notN (gcall (ok_derive c) (hr.mono (by decide)) rfl (c.glo 24 rfl) (F_derive c).kp (Bd_derive_2 c) (Dv_derive_2 c) (pxB (takes_of rfl rfl rfl rfl)) (pa_cons (pv 0) (pa_cons (pv 1) pa_nil))) pe_non (nomark _)))), ?_⟩)
  obtain ⟨a, b, rfl, hq⟩ := h
  exact ⟨_, rfl, _, rfl, _, _, rfl, hq⟩
theorem F_check_derivation (c : Md fa fns ex P w K mg base) : FunDD K dd_check_derivation := c.def_ 1 26 rfl rfl
theorem S_check_derivation : FnScope ["generators", "path", "derivation", "paths"] ["generators", "path", "derivation"] (defScope s_check_derivation) := ⟨rfl, rfl, rfl, by decide +kernel, rfl, by decide +kernel, by decide +kernel⟩
def sp_check_derivation (K : PySem.W.Frag) : Sp := Sp3 fun a _ _ H _ E => Rg1 K a H E
theorem ok_check_derivation (c : Md fa fns ex P w K mg base) : FnG P w K mg base 5 (He.fAd K ("check_derivation", none)) (fdAt K (He.fAd K ("check_derivation", none))) ["generators", "path", "derivation"] (sp_check_derivation K) := by
  refine fnG_of (F_check_derivation c) S_check_derivation (len_3) (fun cdv A outer s H vs Q E hr h => ⟨_, (pss_cons (ps_set (i := 3) S_check_derivation.nd rfl (Or.inl rfl) (gcall (ok_reduced_generators c) (hr.mono (by decide)) rfl (c.glo 10 rfl) (F_reduced_generators c).kp (Bd_reduced_generators_1 c) (Dv_reduced_generators_1 c) (pxB (takes_of rfl rfl rfl rfl)) (pa_cons (pv 0) pa_nil)))
    pss_never), ?_⟩)
  obtain ⟨a, b, c, rfl, o, hv, hq⟩ := h
  exact ⟨_, rfl, _, rfl, o, hv, hq.no⟩
theorem F_expand (c : Md fa fns ex P w K mg base) : FunDD K dd_expand := c.def_ 1 28 rfl rfl
theorem S_expand : FnScope ["generators", "derivation", "limit", "paths", "expanded", "word", "index", "others", "factor", "sign"] ["generators", "derivation", "limit"] (defScope s_expand) := ⟨rfl, rfl, rfl, by decide +kernel, rfl, by decide +kernel, by decide +kernel⟩
def sp_expand (K : PySem.W.Frag) : Sp := Sp3 fun a _ _ H _ E => Rg1 K a H E
theorem ok_expand (c : Md fa fns ex P w K mg base) : FnG P w K mg base 5 (He.fAd K ("expand", none)) (fdAt K (He.fAd K ("expand", none))) ["generators", "derivation", "limit"] (sp_expand K) := by
  refine fnG_of (F_expand c) S_expand (len_3) (fun cdv A outer s H vs Q E hr h => ⟨_, (pss_cons (ps_set (i := 3) S_expand.nd rfl (Or.inl rfl) (gcall (ok_reduced_generators c) (hr.mono (by decide)) rfl (c.glo 10 rfl) (F_reduced_generators c).kp (Bd_reduced_generators_1 c) (Dv_reduced_generators_1 c) (pxB (takes_of rfl rfl rfl rfl)) (pa_cons (pv 0) pa_nil)))
    pss_never), ?_⟩)
  obtain ⟨a, b, c, rfl, o, hv, hq⟩ := h
  exact ⟨_, rfl, _, rfl, o, hv, hq.no⟩
theorem F_check_factors (c : Md fa fns ex P w K mg base) : FunDD K dd_check_factors := c.def_ 1 30 rfl rfl
theorem S_check_factors : FnScope ["generators", "path", "factors", "paths", "expected", "factor", "index", "sign"] ["generators", "path", "factors"] (defScope s_check_factors) := ⟨rfl, rfl, rfl, by decide +kernel, rfl, by decide +kernel, by decide +kernel⟩
def sp_check_factors (K : PySem.W.Frag) : Sp := Sp3 fun a _ _ H _ E => Rg1 K a H E
theorem ok_check_factors (c : Md fa fns ex P w K mg base) : FnG P w K mg base 5 (He.fAd K ("check_factors", none)) (fdAt K (He.fAd K ("check_factors", none))) ["generators", "path", "factors"] (sp_check_factors K) := by
  refine fnG_of (F_check_factors c) S_check_factors (len_3) (fun cdv A outer s H vs Q E hr h => ⟨_, (pss_cons (ps_set (i := 3) S_check_factors.nd rfl (Or.inr rfl) (gcall (ok_reduced_generators c) (hr.mono (by decide)) rfl (c.glo 10 rfl) (F_reduced_generators c).kp (Bd_reduced_generators_1 c) (Dv_reduced_generators_1 c) (pxB (takes_of rfl rfl rfl rfl)) (pa_cons (pv 0) pa_nil)))
    pss_never), ?_⟩)
  obtain ⟨a, b, c, rfl, o, hv, hq⟩ := h
  exact ⟨_, rfl, _, rfl, o, hv, hq.no⟩
theorem F_counterexample (c : Md fa fns ex P w K mg base) : FunDD K dd_counterexample := c.def_ 1 18 rfl rfl
theorem S_counterexample : FnScope ["generators", "path", "paths", "goal"] ["generators", "path"] (defScope s_counterexample) := ⟨rfl, rfl, rfl, by decide +kernel, rfl, by decide +kernel, by decide +kernel⟩
def sp_counterexample (K : PySem.W.Frag) : Sp := Sp2 fun a _ H _ E => Rg1 K a H E
theorem ok_counterexample (c : Md fa fns ex P w K mg base) : FnG P w K mg base 5 (He.fAd K ("counterexample", none)) (fdAt K (He.fAd K ("counterexample", none))) ["generators", "path"] (sp_counterexample K) := by
  refine fnG_of (F_counterexample c) S_counterexample (len_2) (fun cdv A outer s H vs Q E hr h => ⟨_, (pss_cons (ps_set (i := 2) S_counterexample.nd rfl (Or.inl rfl) (gcall (ok_reduced_generators c) (hr.mono (by decide)) rfl (c.glo 10 rfl) (F_reduced_generators c).kp (Bd_reduced_generators_1 c) (Dv_reduced_generators_1 c) (pxB (takes_of rfl rfl rfl rfl)) (pa_cons (pv 0) pa_nil)))
    pss_never), ?_⟩)
  obtain ⟨a, b, rfl, o, hv, hq⟩ := h
  exact ⟨_, rfl, _, rfl, o, hv, hq.no⟩
theorem F_check_counterexample (c : Md fa fns ex P w K mg base) : FunDD K dd_check_counterexample := c.def_ 1 19 rfl rfl
theorem S_check_counterexample : FnScope ["generators", "path", "graph", "paths"] ["generators", "path", "graph"] (defScope s_check_counterexample) := ⟨rfl, rfl, rfl, by decide +kernel, rfl, by decide +kernel, by decide +kernel⟩
def sp_check_counterexample (K : PySem.W.Frag) : Sp := Sp3 fun a _ _ H _ E => Rg1 K a H E
theorem ok_check_counterexample (c : Md fa fns ex P w K mg base) : FnG P w K mg base 5 (He.fAd K ("check_counterexample", none)) (fdAt K (He.fAd K ("check_counterexample", none))) ["generators", "path", "graph"] (sp_check_counterexample K) := by
  refine fnG_of (F_check_counterexample c) S_check_counterexample (len_3) (fun cdv A outer s H vs Q E hr h => ⟨_, (pss_cons (ps_set (i := 3) S_check_counterexample.nd rfl (Or.inl rfl) (gcall (ok_reduced_generators c) (hr.mono (by decide)) rfl (c.glo 10 rfl) (F_reduced_generators c).kp (Bd_reduced_generators_1 c) (Dv_reduced_generators_1 c) (pxB (takes_of rfl rfl rfl rfl)) (pa_cons (pv 0) pa_nil)))
    pss_never), ?_⟩)
  obtain ⟨a, b, c, rfl, o, hv, hq⟩ := h
  exact ⟨_, rfl, _, rfl, o, hv, hq.no⟩
theorem F_certificate (c : Md fa fns ex P w K mg base) : FunDD K dd_certificate := c.def_ 1 21 rfl rfl
theorem S_certificate : FnScope ["generators", "path", "paths"] ["generators", "path"] (defScope s_certificate) := ⟨rfl, rfl, rfl, by decide +kernel, rfl, by decide +kernel, by decide +kernel⟩
def sp_certificate (K : PySem.W.Frag) : Sp := Sp2 fun a _ H _ E => Rg1 K a H E
theorem ok_certificate (c : Md fa fns ex P w K mg base) : FnG P w K mg base 5 (He.fAd K ("certificate", none)) (fdAt K (He.fAd K ("certificate", none))) ["generators", "path"] (sp_certificate K) := by
  refine fnG_of (F_certificate c) S_certificate (len_2) (fun cdv A outer s H vs Q E hr h => ⟨_, (pss_cons (ps_set (i := 2) S_certificate.nd rfl (Or.inl rfl) (gcall (ok_reduced_generators c) (hr.mono (by decide)) rfl (c.glo 10 rfl) (F_reduced_generators c).kp (Bd_reduced_generators_1 c) (Dv_reduced_generators_1 c) (pxB (takes_of rfl rfl rfl rfl)) (pa_cons (pv 0) pa_nil)))
    pss_never), ?_⟩)
  obtain ⟨a, b, rfl, o, hv, hq⟩ := h
  exact ⟨_, rfl, _, rfl, o, hv, hq.no⟩
theorem F_morphism (c : Md fa fns ex P w K mg base) : FunDD K dd_morphism := c.def_ 1 22 rfl rfl
theorem S_morphism : FnScope ["generators", "graph", "paths", "folded", "images", "queue", "node", "step", "target"] ["generators", "graph"] (defScope s_morphism) := ⟨rfl, rfl, rfl, by decide +kernel, rfl, by decide +kernel, by decide +kernel⟩
def sp_morphism (K : PySem.W.Frag) : Sp := Sp2 fun a _ H _ E => Rg1 K a H E
theorem ok_morphism (c : Md fa fns ex P w K mg base) : FnG P w K mg base 5 (He.fAd K ("morphism", none)) (fdAt K (He.fAd K ("morphism", none))) ["generators", "graph"] (sp_morphism K) := by
  refine fnG_of (F_morphism c) S_morphism (len_2) (fun cdv A outer s H vs Q E hr h => ⟨_, (pss_cons (ps_set (i := 2) S_morphism.nd rfl (Or.inl rfl) (gcall (ok_reduced_generators c) (hr.mono (by decide)) rfl (c.glo 10 rfl) (F_reduced_generators c).kp (Bd_reduced_generators_1 c) (Dv_reduced_generators_1 c) (pxB (takes_of rfl rfl rfl rfl)) (pa_cons (pv 0) pa_nil)))
    pss_never), ?_⟩)
  obtain ⟨a, b, rfl, o, hv, hq⟩ := h
  exact ⟨_, rfl, _, rfl, o, hv, hq.no⟩
theorem F_is_integer (c : Md fa fns ex P w K mg base) : FunDD K dd_is_integer := c.def_ 0 11 rfl rfl
theorem S_is_integer : FnScope ["value"] ["value"] (defScope s_is_integer) := ⟨rfl, rfl, rfl, by decide +kernel, rfl, by decide +kernel, by decide +kernel⟩
def sp_is_integer (K : PySem.W.Frag) : Sp := Sp1 fun v H Q _ => ∃ t, Knd K H v t ∧ Q (.bl (isa t "int" && !isa t "bool")) H
theorem ok_is_integer (c : Md fa fns ex P w K mg base) : FnG P w K mg base 1 (He.fAd K ("is_integer", none)) (fdAt K (He.fAd K ("is_integer", none))) ["value"] (sp_is_integer K) := by
  refine fnG_of (F_is_integer c) S_is_integer (len_1) (fun cdv A outer s H vs Q E hr h => ⟨_, (pss_one (ps_ret (pe_and (pe_callB call_isi rfl (c.free 204 rfl) (by decide +kernel) (pa_cons (pv 0) (pa_cons (pe_bltn (v := .ty "int") rfl (c.free 203 rfl) (by decide +kernel) rfl) pa_nil))) (pe_one (pe_not (pe_callB call_isi rfl (c.free 204 rfl) (by decide +kernel) (pa_cons (pv 0) (pa_cons (pe_bltn (v := .ty "bool") rfl (c.free 200 rfl) (by decide +kernel) rfl) pa_nil)))))))), ?_⟩)
  obtain ⟨v, rfl, t, kt, hq⟩ := h
  refine ⟨_, rfl, v, .ty "int", .type t, .type "int", isa t "int", rfl, .ty _, kt.ty, kt.one "int" (by decide), isa t "int", rfl, ?_⟩
  cases e : isa t "int" with
  | false =>
    refine iteF ?_
    rw [e] at hq
    exact hq
  | true =>
    refine iteT ?_
    refine ⟨_, rfl, v, .ty "bool", .type t, .type "bool", isa t "bool", rfl, .ty _, kt.ty, kt.one "bool" (by decide), isa t "bool", rfl, ?_⟩
    rw [e] at hq
    exact hq
theorem T_InvalidNumber (c : Md fa fns ex P w K mg base) : EX K mg "ValueError.__new__" tlV "InvalidNumber" "value" (He.ga K "InvalidNumber") := exB_ok c.X c.G (exf c 5 rfl)
theorem F_InvalidNumber_init (c : Md fa fns ex P w K mg base) : FunDD K dd_InvalidNumber_init := c.def_ 0 3 rfl rfl
theorem S_InvalidNumber_init : FnScope ["self", "value"] ["self", "value"] (defScope s_InvalidNumber_init) := ⟨rfl, rfl, rfl, by decide +kernel, rfl, by decide +kernel, by decide +kernel⟩
theorem TI_InvalidNumber (c : Md fa fns ex P w K mg base) : EXI P w K mg base "ValueError.__new__" tlV "InvalidNumber" "value" (He.ga K "InvalidNumber") := ⟨T_InvalidNumber c, _, _, (iniB_ok (exf c 6 rfl)).1, (iniB_ok (exf c 6 rfl)).2, xinit bbV (by decide +kernel) (F_InvalidNumber_init c) S_InvalidNumber_init rfl rfl rfl (Bn_PathError c) (by decide) (by decide) (by decide) (fun env => ⟨_, rfl⟩), (F_InvalidNumber_init c).bindsN fun _ _ _ _ _ _ us hl => match us, hl with | [_, _], _ => rfl⟩
theorem T_InvalidGraph (c : Md fa fns ex P w K mg base) : EX K mg "ValueError.__new__" tlV "InvalidGraph" "index" (He.ga K "InvalidGraph") := exB_ok c.X c.G (exf c 7 rfl)
theorem F_InvalidGraph_init (c : Md fa fns ex P w K mg base) : FunDD K dd_InvalidGraph_init := c.def_ 0 4 rfl rfl
theorem S_InvalidGraph_init : FnScope ["self", "index"] ["self", "index"] (defScope s_InvalidGraph_init) := ⟨rfl, rfl, rfl, by decide +kernel, rfl, by decide +kernel, by decide +kernel⟩
theorem TI_InvalidGraph (c : Md fa fns ex P w K mg base) : EXI P w K mg base "ValueError.__new__" tlV "InvalidGraph" "index" (He.ga K "InvalidGraph") := ⟨T_InvalidGraph c, _, _, (iniB_ok (exf c 8 rfl)).1, (iniB_ok (exf c 8 rfl)).2, xinit bbV (by decide +kernel) (F_InvalidGraph_init c) S_InvalidGraph_init rfl rfl rfl (Bn_PathError c) (by decide) (by decide) (by decide) (fun env => ⟨_, rfl⟩), (F_InvalidGraph_init c).bindsN fun _ _ _ _ _ _ us hl => match us, hl with | [_, _], _ => rfl⟩
theorem Bd_is_integer_1 (c : Md fa fns ex P w K mg base) : Binds K (fdAt K (He.fAd K ("is_integer", none))) ["value"] [] := (F_is_integer c).bindsN fun _ _ _ _ _ _ us hl => match us, hl with | [_], _ => rfl
theorem Dv_is_integer_1 (c : Md fa fns ex P w K mg base) : Vals [] [] := .nil
theorem F_Graph_init (c : Md fa fns ex P w K mg base) : FunDD K dd_Graph_init := c.def_ 0 21 rfl rfl
theorem S_Graph_init : FnScope ["self", "size", "edges", "index", "edge", "letter", "source", "target"] ["self", "size", "edges"] (defScope s_Graph_init) := ⟨rfl, rfl, rfl, by decide +kernel, rfl, by decide +kernel, by decide +kernel⟩
abbrev sp_Graph_init := sp_Graph_init0
theorem ok_Graph_init (c : Md fa fns ex P w K mg base) : FnG P w K mg base 3 (He.fAd K ("Graph", some "__init__")) (fdAt K (He.fAd K ("Graph", some "__init__"))) ["self", "size", "edges"] (sp_Graph_init K) := by
  refine fnG_of (F_Graph_init c) S_Graph_init (len_3) (fun cdv A outer s H vs Q E hr h => ⟨_, (pss_cons (ps_if (PW.pt (pw_or (pt_not (pt_val (gcall (ok_is_integer c) (hr.mono (by decide)) rfl (c.glo 1 rfl) (F_is_integer c).kp (Bd_is_integer_1 c) (Dv_is_integer_1 c) pxN (pa_cons (pv 1) pa_nil)))) (pw_or1 (pt_not (pt_chain op_le op_le pe_int (pv 1) (pe_gint rfl (He.int_ok c.X c.G (c.fact 221 rfl)))))))) (pss_one (ps_raise1 (k := 0) rfl bbV (TI_InvalidNumber c) (hr.mono (by decide)) (takes_of rfl rfl rfl rfl) rfl (pa_cons (pv 1) pa_nil))) pss_nil)
    (pss_cons (ps_if (pt_not (pt_val (pe_callB call_isiT rfl (c.free 204 rfl) (by decide +kernel) (pa_cons (pv 2) (pa_cons (pe_tup (pa_cons (pe_bltn (v := .ty "list") rfl (c.free 206 rfl) (by decide +kernel) rfl) (pa_cons (pe_bltn (v := .ty "tuple") rfl (c.free 214 rfl) (by decide +kernel) rfl) pa_nil))) pa_nil))))) (pss_one (ps_raise1 (k := 0) rfl bbV (TI_InvalidGraph c) (hr.mono (by decide)) (takes_of rfl rfl rfl rfl) rfl (pa_cons pe_non pa_nil))) pss_nil)
    (pss_cons (ps_fld (pv 0) (pv 1) rfl)
    (pss_cons (ps_fld (pv 0) pe_dnewT rfl)
    (pss_one (ps_for (passes_of rfl) rfl (pi_enumU rfl (c.free 202 rfl) (pa_cons (pv 2) pa_nil)) (pg_tup rfl (pgs_cons (pg_name (i := 3) S_Graph_init.nd rfl (Or.inl rfl)) (pgs_cons (pg_name (i := 4) S_Graph_init.nd rfl (Or.inl rfl)) pgs_nil)))
    pss_never)))))), ?_⟩)
  obtain ⟨sv, n, e, rfl, x, dx, ea, rfl, hx, rfl, rfl, he, hq⟩ := h
  have kt := Knd.sqT he
  have i1 : isa "int" "int" = true := by decide +kernel
  have i2 : isa "int" "bool" = false := by decide +kernel
  refine ⟨_, rfl, _, rfl, "int", .int 1, ?_⟩
  rw [i1, i2]
  refine ⟨_, rfl, iteF ⟨_, rfl, _, _, rfl, rfl, _, rfl, iteT ⟨_, _, rfl, rfl, _, rfl, iteF ?_⟩⟩⟩
  refine ⟨_, rfl, by show 2 ≤ sizeLine; decide, fun p hp => ⟨_, p, _, .type "tuple", _, _, rfl, upd_same, cls2, (kt.same (same_upd hp)).ty, kt.seq, _, rfl, ?_⟩⟩
  have i3 : (isa "tuple" "list" || isa "tuple" "tuple") = true := by decide +kernel
  rw [i3]
  have px : p ≠ x := by
    intro z
    rw [z, hx] at hp
    cases hp
  refine iteF ⟨_, rfl, _, rfl, x, _, dx, [], rfl, by rw [upd_ne (Ne.symm px)]; exact hx, cl_Graph c, na_Graph_node_count c, by decide, ?_⟩
  have s2 : ∀ b o, b ≠ x → H b = some o → (upd (upd H p (.tup [.ty "list", .ty "tuple"])) x (.ins (He.ga K "Graph") dx (putF "node_count" (.int 1) []))) b = some o := by
    intro b o nb e
    rw [upd_ne nb]
    exact same_upd hp b o e
  have hx2 : (upd (upd H p (.tup [.ty "list", .ty "tuple"])) x (.ins (He.ga K "Graph") dx (putF "node_count" (.int 1) []))) x = some (.ins (He.ga K "Graph") dx (putF "node_count" (.int 1) [])) := upd_same
  refine fun d hd => ⟨_, rfl, x, _, dx, _, rfl, same_upd hd _ _ hx2, cl_Graph c, na_Graph_targets c, by decide, ?_⟩
  have s3 : ∀ b o, b ≠ x → H b = some o → (upd (upd (upd (upd H p (.tup [.ty "list", .ty "tuple"])) x (.ins (He.ga K "Graph") dx (putF "node_count" (.int 1) []))) d (.dT [])) x (.ins (He.ga K "Graph") dx (putF "targets" (.ref d) (putF "node_count" (.int 1) [])))) b = some o := by
    intro b o nb e
    rw [upd_ne nb]
    exact same_upd hd b o (s2 b o nb e)
  refine ⟨_, rfl, ea, [], rfl, .inr (sqT_but s3 hx he), fun J wk => for_go wk (fun i σ H1 => Same (upd (upd (upd (upd H p (.tup [.ty "list", .ty "tuple"])) x (.ins (He.ga K "Graph") dx (putF "node_count" (.int 1) []))) d (.dT [])) x (.ins (He.ga K "Graph") dx (putF "targets" (.ref d) (putF "node_count" (.int 1) [])))) H1) (.refl _) (fun _ _ _ _ s => s) (fun i _ _ _ _ hi => absurd hi (Nat.not_lt_zero i)) (fun σ H1 s => ?_)⟩
  exact hq H1 fun b o n1 _ e => s b o (s3 b o n1 e)
theorem F_basis_of (c : Md fa fns ex P w K mg base) : FunDD K dd_basis_of := c.def_ 1 43 rfl rfl
theorem F_basis (c : Md fa fns ex P w K mg base) : FunDD K dd_basis := c.def_ 1 44 rfl rfl
theorem S_basis : FnScope ["generators"] ["generators"] (defScope s_basis) := ⟨rfl, rfl, rfl, by decide +kernel, rfl, by decide +kernel, by decide +kernel⟩
def sp_basis (K : PySem.W.Frag) : Sp := Sp1 fun a H _ E => Rg1 K a H E
theorem ok_basis (c : Md fa fns ex P w K mg base) : FnG P w K mg base 5 (He.fAd K ("basis", none)) (fdAt K (He.fAd K ("basis", none))) ["generators"] (sp_basis K) := by
  refine fnG_of (F_basis c) S_basis (len_1) (fun cdv A outer s H vs Q E hr h => ⟨_, (pss_one (ps_ret (pe_stop rfl (c.glo 55 rfl) (F_basis_of c).kp (pa_cons (pe_stop rfl (c.glo 20 rfl) (F_fold_paths c).kp (pa_cons (gcall (ok_reduced_generators c) (hr.mono (by decide)) rfl (c.glo 10 rfl) (F_reduced_generators c).kp (Bd_reduced_generators_1 c) (Dv_reduced_generators_1 c) (pxB (takes_of rfl rfl rfl rfl)) (pa_cons (pv 0) pa_nil)) pa_nil)) pa_nil)))), ?_⟩)
  obtain ⟨a, rfl, o, hv, hq⟩ := h
  exact ⟨_, rfl, _, rfl, o, hv, hq.no⟩
theorem F_rank (c : Md fa fns ex P w K mg base) : FunDD K dd_rank := c.def_ 1 45 rfl rfl
theorem S_rank : FnScope ["generators", "graph"] ["generators"] (defScope s_rank) := ⟨rfl, rfl, rfl, by decide +kernel, rfl, by decide +kernel, by decide +kernel⟩
def sp_rank (K : PySem.W.Frag) : Sp := Sp1 fun a H _ E => Rg1 K a H E
theorem ok_rank (c : Md fa fns ex P w K mg base) : FnG P w K mg base 5 (He.fAd K ("rank", none)) (fdAt K (He.fAd K ("rank", none))) ["generators"] (sp_rank K) := by
  refine fnG_of (F_rank c) S_rank (len_1) (fun cdv A outer s H vs Q E hr h => ⟨_, (pss_cons (ps_set (i := 1) S_rank.nd rfl (Or.inl rfl) (pe_stop rfl (c.glo 20 rfl) (F_fold_paths c).kp (pa_cons (gcall (ok_reduced_generators c) (hr.mono (by decide)) rfl (c.glo 10 rfl) (F_reduced_generators c).kp (Bd_reduced_generators_1 c) (Dv_reduced_generators_1 c) (pxB (takes_of rfl rfl rfl rfl)) (pa_cons (pv 0) pa_nil)) pa_nil)))
    pss_never), ?_⟩)
  obtain ⟨a, rfl, o, hv, hq⟩ := h
  exact ⟨_, rfl, _, rfl, o, hv, hq.no⟩
theorem F_completion_basis (c : Md fa fns ex P w K mg base) : FunDD K dd_completion_basis := c.def_ 1 46 rfl rfl
theorem S_completion_basis : FnScope ["generators", "graph", "representatives", "tree", "edge"] ["generators"] (defScope s_completion_basis) := ⟨rfl, rfl, rfl, by decide +kernel, rfl, by decide +kernel, by decide +kernel⟩
def sp_completion_basis (K : PySem.W.Frag) : Sp := Sp1 fun a H _ E => Rg1 K a H E
theorem ok_completion_basis (c : Md fa fns ex P w K mg base) : FnG P w K mg base 5 (He.fAd K ("completion_basis", none)) (fdAt K (He.fAd K ("completion_basis", none))) ["generators"] (sp_completion_basis K) := by
  refine fnG_of (F_completion_basis c) S_completion_basis (len_1) (fun cdv A outer s H vs Q E hr h => ⟨_, (pss_cons (ps_set (i := 1) S_completion_basis.nd rfl (Or.inl rfl) (pe_stop rfl (c.glo 20 rfl) (F_fold_paths c).kp (pa_cons (gcall (ok_reduced_generators c) (hr.mono (by decide)) rfl (c.glo 10 rfl) (F_reduced_generators c).kp (Bd_reduced_generators_1 c) (Dv_reduced_generators_1 c) (pxB (takes_of rfl rfl rfl rfl)) (pa_cons (pv 0) pa_nil)) pa_nil)))
    pss_never), ?_⟩)
  obtain ⟨a, rfl, o, hv, hq⟩ := h
  exact ⟨_, rfl, _, rfl, o, hv, hq.no⟩
theorem F_same_coset (c : Md fa fns ex P w K mg base) : FunDD K dd_same_coset := c.def_ 2 13 rfl rfl
theorem S_same_coset : FnScope ["generators", "first", "second", "graph", "left", "right"] ["generators", "first", "second"] (defScope s_same_coset) := ⟨rfl, rfl, rfl, by decide +kernel, rfl, by decide +kernel, by decide +kernel⟩
def sp_same_coset (K : PySem.W.Frag) : Sp := Sp3 fun a _ _ H _ E => Rg1 K a H E
theorem ok_same_coset (c : Md fa fns ex P w K mg base) : FnG P w K mg base 5 (He.fAd K ("same_coset", none)) (fdAt K (He.fAd K ("same_coset", none))) ["generators", "first", "second"] (sp_same_coset K) := by
  refine fnG_of (F_same_coset c) S_same_coset (len_3) (fun cdv A outer s H vs Q E hr h => ⟨_, (pss_cons (ps_set (i := 3) S_same_coset.nd rfl (Or.inl rfl) (pe_stop rfl (c.glo 20 rfl) (F_fold_paths c).kp (pa_cons (gcall (ok_reduced_generators c) (hr.mono (by decide)) rfl (c.glo 10 rfl) (F_reduced_generators c).kp (Bd_reduced_generators_1 c) (Dv_reduced_generators_1 c) (pxB (takes_of rfl rfl rfl rfl)) (pa_cons (pv 0) pa_nil)) pa_nil)))
    pss_never), ?_⟩)
  obtain ⟨a, b, c, rfl, o, hv, hq⟩ := h
  exact ⟨_, rfl, _, rfl, o, hv, hq.no⟩
theorem Bd_completion_basis_1 (c : Md fa fns ex P w K mg base) : Binds K (fdAt K (He.fAd K ("completion_basis", none))) ["generators"] [] := (F_completion_basis c).bindsN fun _ _ _ _ _ _ us hl => match us, hl with | [_], _ => rfl
theorem Dv_completion_basis_1 (c : Md fa fns ex P w K mg base) : Vals [] [] := .nil
theorem Bd_check_counterexample_3 (c : Md fa fns ex P w K mg base) : Binds K (fdAt K (He.fAd K ("check_counterexample", none))) ["generators", "path", "graph"] [] := (F_check_counterexample c).bindsN fun _ _ _ _ _ _ us hl => match us, hl with | [_, _, _], _ => rfl
theorem Dv_check_counterexample_3 (c : Md fa fns ex P w K mg base) : Vals [] [] := .nil
theorem BX_expand_2 (c : Md fa fns ex P w K mg base) : ∃ ds, Vals ((dd_expand.kws K).map (·.2)) ds ∧ Binds K (fdAt K (He.fAd K ("expand", none))) ["generators", "derivation", "limit"] ds := (F_expand c).binds0 (ps := ["generators", "derivation", "limit"]) 2 (List.cons_ne_nil _ _) rfl fun D doc pm an cdv ct us ks hu hk => match us, ks, hu, hk with | [_, _], [_], _, _ => ⟨_, _, _, _, _, _, rfl, rfl, rfl⟩
theorem Bd_morphism_2 (c : Md fa fns ex P w K mg base) : Binds K (fdAt K (He.fAd K ("morphism", none))) ["generators", "graph"] [] := (F_morphism c).bindsN fun _ _ _ _ _ _ us hl => match us, hl with | [_, _], _ => rfl
theorem Dv_morphism_2 (c : Md fa fns ex P w K mg base) : Vals [] [] := .nil
theorem Bd_is_generated_2 (c : Md fa fns ex P w K mg base) : Binds K (fdAt K (He.fAd K ("is_generated", none))) ["generators", "path"] [] := (F_is_generated c).bindsN fun _ _ _ _ _ _ us hl => match us, hl with | [_, _], _ => rfl
theorem Dv_is_generated_2 (c : Md fa fns ex P w K mg base) : Vals [] [] := .nil
theorem Bd_same_coset_3 (c : Md fa fns ex P w K mg base) : Binds K (fdAt K (He.fAd K ("same_coset", none))) ["generators", "first", "second"] [] := (F_same_coset c).bindsN fun _ _ _ _ _ _ us hl => match us, hl with | [_, _, _], _ => rfl
theorem Dv_same_coset_3 (c : Md fa fns ex P w K mg base) : Vals [] [] := .nil
theorem Bd_counterexample_2 (c : Md fa fns ex P w K mg base) : Binds K (fdAt K (He.fAd K ("counterexample", none))) ["generators", "path"] [] := (F_counterexample c).bindsN fun _ _ _ _ _ _ us hl => match us, hl with | [_, _], _ => rfl
theorem Dv_counterexample_2 (c : Md fa fns ex P w K mg base) : Vals [] [] := .nil
theorem Bd_folded_graph_1 (c : Md fa fns ex P w K mg base) : Binds K (fdAt K (He.fAd K ("folded_graph", none))) ["generators"] [] := (F_folded_graph c).bindsN fun _ _ _ _ _ _ us hl => match us, hl with | [_], _ => rfl
theorem Dv_folded_graph_1 (c : Md fa fns ex P w K mg base) : Vals [] [] := .nil
theorem BX_Graph_init_1 (c : Md fa fns ex P w K mg base) : ∃ ds, Vals ((dd_Graph_init.dvs K).drop 0) ds ∧ Binds K (fdAt K (He.fAd K ("Graph", some "__init__"))) ["self", "size", "edges"] ds := (F_Graph_init c).binds1 (ps := ["self", "size", "edges"]) 1 0 (List.cons_ne_nil _ _) rfl fun T kV doc pm an cdv ct us its hu hi => match us, its, hu, hi with | [_], [_, _], _, _ => ⟨_, rfl, rfl⟩
theorem Bd_certificate_2 (c : Md fa fns ex P w K mg base) : Binds K (fdAt K (He.fAd K ("certificate", none))) ["generators", "path"] [] := (F_certificate c).bindsN fun _ _ _ _ _ _ us hl => match us, hl with | [_, _], _ => rfl
theorem Dv_certificate_2 (c : Md fa fns ex P w K mg base) : Vals [] [] := .nil
theorem Bd_basis_1 (c : Md fa fns ex P w K mg base) : Binds K (fdAt K (He.fAd K ("basis", none))) ["generators"] [] := (F_basis c).bindsN fun _ _ _ _ _ _ us hl => match us, hl with | [_], _ => rfl
theorem Dv_basis_1 (c : Md fa fns ex P w K mg base) : Vals [] [] := .nil
theorem Bd_Folding_init_2 (c : Md fa fns ex P w K mg base) : Binds K (fdAt K (He.fAd K ("Folding", some "__init__"))) ["self", "generators"] [] := (F_Folding_init c).bindsN fun _ _ _ _ _ _ us hl => match us, hl with | [_, _], _ => rfl
theorem Dv_Folding_init_2 (c : Md fa fns ex P w K mg base) : Vals [] [] := .nil
theorem Bd_check_derivation_3 (c : Md fa fns ex P w K mg base) : Binds K (fdAt K (He.fAd K ("check_derivation", none))) ["generators", "path", "derivation"] [] := (F_check_derivation c).bindsN fun _ _ _ _ _ _ us hl => match us, hl with | [_, _, _], _ => rfl
theorem Dv_check_derivation_3 (c : Md fa fns ex P w K mg base) : Vals [] [] := .nil
theorem Bd_rank_1 (c : Md fa fns ex P w K mg base) : Binds K (fdAt K (He.fAd K ("rank", none))) ["generators"] [] := (F_rank c).bindsN fun _ _ _ _ _ _ us hl => match us, hl with | [_], _ => rfl
theorem Dv_rank_1 (c : Md fa fns ex P w K mg base) : Vals [] [] := .nil
theorem Bd_check_factors_3 (c : Md fa fns ex P w K mg base) : Binds K (fdAt K (He.fAd K ("check_factors", none))) ["generators", "path", "factors"] [] := (F_check_factors c).bindsN fun _ _ _ _ _ _ us hl => match us, hl with | [_, _, _], _ => rfl
theorem Dv_check_factors_3 (c : Md fa fns ex P w K mg base) : Vals [] [] := .nil
theorem F_law_first_calls (c : Md fa fns ex P w K mg base) : FunDD K dd_law_first_calls := c.def_ 2 44 rfl rfl
theorem S_law_first_calls : FnScope ["_law_number", "_law_some"] ["_law_number", "_law_some"] (defScope s_law_first_calls) := ⟨rfl, rfl, rfl, by decide +kernel, rfl, by decide +kernel, by decide +kernel⟩

theorem ok_law_first_calls (c : Md fa fns ex P w K mg base) : FnG P w K mg base 7 (He.fAd K ("_law_first_calls", none)) (fdAt K (He.fAd K ("_law_first_calls", none))) ["_law_number", "_law_some"] (sp_law_first_calls K) := by
  obtain ⟨ds_Graph_init_1, Dv_Graph_init_1, Bd_Graph_init_1⟩ := BX_Graph_init_1 c
  obtain ⟨ds_expand_2, Dv_expand_2, Bd_expand_2⟩ := BX_expand_2 c
  refine fnG_of (F_law_first_calls c) S_law_first_calls (len_2) (fun cdv A outer s H vs Q E hr h => ⟨_, (pss_cons (ps_if (pt_cmpR op_eq (pv 0) pe_int (nomark _)) (pss_one (ps_expr (gmake (He.mkr_ok (c.fact 144 rfl)) (ok_Folding_init c) (hr.mono (by decide)) rfl (c.glo 142 rfl) (Bd_Folding_init_2 c) (Dv_Folding_init_2 c) (pxB (takes_of rfl rfl rfl rfl)) (pa_cons (pv 1) pa_nil)))) pss_nil)
    (pss_cons (ps_if (pt_cmpR op_eq (pv 0) pe_int (nomark _)) (pss_one (ps_expr (gcall (ok_folded_graph c) (hr.mono (by decide)) rfl (c.glo 21 rfl) (F_folded_graph c).kp (Bd_folded_graph_1 c) (Dv_folded_graph_1 c) (pxB (takes_of rfl rfl rfl rfl)) (pa_cons (pv 1) pa_nil)))) pss_nil)
    (pss_cons (ps_if (pt_cmpR op_eq (pv 0) pe_int (nomark _)) (pss_one (ps_expr (gcall (ok_is_generated c) (hr.mono (by decide)) rfl (c.glo 25 rfl) (F_is_generated c).kp (Bd_is_generated_2 c) (Dv_is_generated_2 c) (pxB (takes_of rfl rfl rfl rfl)) (pa_cons (pv 1) (pa_cons pe_str pa_nil))))) pss_nil)
    (pss_cons (ps_if (pt_cmpR op_eq (pv 0) pe_int (nomark _)) (pss_one (ps_expr (gcall (ok_derive c) (hr.mono (by decide)) rfl (c.glo 24 rfl) (F_derive c).kp (Bd_derive_2 c) (Dv_derive_2 c) (pxB (takes_of rfl rfl rfl rfl)) (pa_cons (pv 1) (pa_cons pe_str pa_nil))))) pss_nil)
    (pss_cons (ps_if (pt_cmpR op_eq (pv 0) pe_int (nomark _)) (pss_one (ps_expr (gcall (ok_check_derivation c) (hr.mono (by decide)) rfl (c.glo 38 rfl) (F_check_derivation c).kp (Bd_check_derivation_3 c) (Dv_check_derivation_3 c) (pxB (takes_of rfl rfl rfl rfl)) (pa_cons (pv 1) (pa_cons pe_str (pa_cons (pe_lst pa_nil) pa_nil)))))) pss_nil)
    (pss_cons (ps_if (pt_cmpR op_eq (pv 0) pe_int (nomark _)) (pss_one (ps_expr (gcall (ok_expand c) (hr.mono (by decide)) rfl (c.glo 40 rfl) (F_expand c).kp Bd_expand_2 Dv_expand_2 (pxB (takes_of rfl rfl rfl rfl)) (pa_cons (pv 1) (pa_cons (pe_lst pa_nil) pa_nil))))) pss_nil)
    (pss_cons (ps_if (pt_cmpR op_eq (pv 0) pe_int (nomark _)) (pss_one (ps_expr (gcall (ok_check_factors c) (hr.mono (by decide)) rfl (c.glo 42 rfl) (F_check_factors c).kp (Bd_check_factors_3 c) (Dv_check_factors_3 c) (pxB (takes_of rfl rfl rfl rfl)) (pa_cons (pv 1) (pa_cons pe_str (pa_cons (pe_lst pa_nil) pa_nil)))))) pss_nil)
    (pss_cons (ps_if (pt_cmpR op_eq (pv 0) pe_int (nomark _)) (pss_one (ps_expr (gcall (ok_counterexample c) (hr.mono (by decide)) rfl (c.glo 30 rfl) (F_counterexample c).kp (Bd_counterexample_2 c) (Dv_counterexample_2 c) (pxB (takes_of rfl rfl rfl rfl)) (pa_cons (pv 1) (pa_cons pe_str pa_nil))))) pss_nil)
    (pss_cons (ps_if (pt_cmpR op_eq (pv 0) pe_int (nomark _)) (pss_one (ps_expr (gcall (ok_check_counterexample c) (hr.mono (by decide)) rfl (c.glo 31 rfl) (F_check_counterexample c).kp (Bd_check_counterexample_3 c) (Dv_check_counterexample_3 c) (pxB (takes_of rfl rfl rfl rfl)) (pa_cons (pv 1) (pa_cons pe_str (pa_cons pe_non pa_nil)))))) pss_nil)
    (pss_cons (ps_if (pt_cmpR op_eq (pv 0) pe_int (nomark _)) (pss_one (ps_expr (gcall (ok_certificate c) (hr.mono (by decide)) rfl (c.glo 33 rfl) (F_certificate c).kp (Bd_certificate_2 c) (Dv_certificate_2 c) (pxB (takes_of rfl rfl rfl rfl)) (pa_cons (pv 1) (pa_cons pe_str pa_nil))))) pss_nil)
    (pss_cons (ps_if (pt_cmpR op_eq (pv 0) pe_int (nomark _)) (pss_one (ps_expr (gcall (ok_morphism c) (hr.mono (by decide)) rfl (c.glo 34 rfl) (F_morphism c).kp (Bd_morphism_2 c) (Dv_morphism_2 c) (pxB (takes_of rfl rfl rfl rfl)) (pa_cons (pv 1) (pa_cons (gmake0 (He.mkr_ok (c.fact 127 rfl)) (ok_Graph_init c) (hr.mono (by decide)) rfl (c.glo 125 rfl) Bd_Graph_init_1 Dv_Graph_init_1 (pxB (takes_of rfl rfl rfl rfl))) pa_nil))))) pss_nil)
    (pss_cons (ps_if (pt_cmpR op_eq (pv 0) pe_int (nomark _)) (pss_one (ps_expr (gcall (ok_basis c) (hr.mono (by decide)) rfl (c.glo 56 rfl) (F_basis c).kp (Bd_basis_1 c) (Dv_basis_1 c) (pxB (takes_of rfl rfl rfl rfl)) (pa_cons (pv 1) pa_nil)))) pss_nil)
    (pss_cons (ps_if (pt_cmpR op_eq (pv 0) pe_int (nomark _)) (pss_one (ps_expr (gcall (ok_rank c) (hr.mono (by decide)) rfl (c.glo 57 rfl) (F_rank c).kp (Bd_rank_1 c) (Dv_rank_1 c) (pxB (takes_of rfl rfl rfl rfl)) (pa_cons (pv 1) pa_nil)))) pss_nil)
    (pss_cons (ps_if (pt_cmpR op_eq (pv 0) pe_int (nomark _)) (pss_one (ps_expr (gcall (ok_completion_basis c) (hr.mono (by decide)) rfl (c.glo 58 rfl) (F_completion_basis c).kp (Bd_completion_basis_1 c) (Dv_completion_basis_1 c) (pxB (takes_of rfl rfl rfl rfl)) (pa_cons (pv 1) pa_nil)))) pss_nil)
    (pss_one (ps_if (pt_cmpR op_eq (pv 0) pe_int (nomark _)) (pss_one (ps_expr (gcall (ok_same_coset c) (hr.mono (by decide)) rfl (c.glo 85 rfl) (F_same_coset c).kp (Bd_same_coset_3 c) (Dv_same_coset_3 c) (pxB (takes_of rfl rfl rfl rfl)) (pa_cons (pv 1) (pa_cons pe_str (pa_cons pe_str pa_nil)))))) pss_nil)))))))))))))))), ?_⟩)
  obtain ⟨n, v, rfl, k, rfl, k0, k1, hR⟩ := h
  refine ⟨_, rfl, rfl, _, rfl, ?_⟩
  by_cases h0 : k = 0
  · rw [decide_eq_true (congrArg V.int h0)]
    exact iteT ⟨_, rfl, fun x dx nx nd ne => ⟨_, _, rfl, ⟨x, dx, rfl, upd_same⟩, hR.same ((same_upd nd).trans (same_upd (by rw [upd_ne (Ne.symm ne)]; exact nx)))⟩⟩
  rw [decide_eq_false (fun z => h0 (V.int.inj z))]
  refine iteF ?_
  refine ⟨_, rfl, rfl, _, rfl, ?_⟩
  by_cases h1 : k = 1
  · rw [decide_eq_true (congrArg V.int h1)]
    exact iteT ⟨_, rfl, _, rfl, hR⟩
  rw [decide_eq_false (fun z => h1 (V.int.inj z))]
  refine iteF ?_
  refine ⟨_, rfl, rfl, _, rfl, ?_⟩
  by_cases h2 : k = 2
  · rw [decide_eq_true (congrArg V.int h2)]
    exact iteT ⟨_, rfl, _, _, rfl, hR⟩
  rw [decide_eq_false (fun z => h2 (V.int.inj z))]
  refine iteF ?_
  refine ⟨_, rfl, rfl, _, rfl, ?_⟩
  by_cases h3 : k = 3
  · rw [decide_eq_true (congrArg V.int h3)]
    exact iteT ⟨_, rfl, _, _, rfl, hR⟩
  rw [decide_eq_false (fun z => h3 (V.int.inj z))]
  refine iteF ?_
  refine ⟨_, rfl, rfl, _, rfl, ?_⟩
  by_cases h4 : k = 4
  · rw [decide_eq_true (congrArg V.int h4)]
    exact iteT ⟨_, rfl, Nat.zero_le _, fun q hq => ⟨_, _, _, rfl, hR.same (same_upd hq)⟩⟩
  rw [decide_eq_false (fun z => h4 (V.int.inj z))]
  refine iteF ?_
  refine ⟨_, rfl, rfl, _, rfl, ?_⟩
  by_cases h5 : k = 5
  · rw [decide_eq_true (congrArg V.int h5)]
    exact iteT ⟨_, rfl, Nat.zero_le _, fun q hq => ⟨_, _, _, rfl, hR.same (same_upd hq)⟩⟩
  rw [decide_eq_false (fun z => h5 (V.int.inj z))]
  refine iteF ?_
  refine ⟨_, rfl, rfl, _, rfl, ?_⟩
  by_cases h6 : k = 6
  · rw [decide_eq_true (congrArg V.int h6)]
    exact iteT ⟨_, rfl, Nat.zero_le _, fun q hq => ⟨_, _, _, rfl, hR.same (same_upd hq)⟩⟩
  rw [decide_eq_false (fun z => h6 (V.int.inj z))]
  refine iteF ?_
  refine ⟨_, rfl, rfl, _, rfl, ?_⟩
  by_cases h7 : k = 7
  · rw [decide_eq_true (congrArg V.int h7)]
    exact iteT ⟨_, rfl, _, _, rfl, hR⟩
  rw [decide_eq_false (fun z => h7 (V.int.inj z))]
  refine iteF ?_
  refine ⟨_, rfl, rfl, _, rfl, ?_⟩
  by_cases h8 : k = 8
  · rw [decide_eq_true (congrArg V.int h8)]
    exact iteT ⟨_, rfl, _, _, _, rfl, hR⟩
  rw [decide_eq_false (fun z => h8 (V.int.inj z))]
  refine iteF ?_
  refine ⟨_, rfl, rfl, _, rfl, ?_⟩
  by_cases h9 : k = 9
  · rw [decide_eq_true (congrArg V.int h9)]
    exact iteT ⟨_, rfl, _, _, rfl, hR⟩
  rw [decide_eq_false (fun z => h9 (V.int.inj z))]
  refine iteF ?_
  refine ⟨_, rfl, rfl, _, rfl, ?_⟩
  by_cases h10 : k = 10
  · rw [decide_eq_true (congrArg V.int h10)]
    exact iteT ⟨_, rfl, fun x dx nx nd ne => ⟨_, _, _, rfl, x, dx, _, rfl, upd_same, rfl, rfl, t0_Graph_init c _, fun H1 s1 => ⟨rfl, _, _, rfl, hR.same (frame2 (fun b o n1 n2 e => s1 b o n1 n2 (by rw [upd_ne n1, upd_ne n2]; exact e)) nx nd)⟩⟩⟩
  rw [decide_eq_false (fun z => h10 (V.int.inj z))]
  refine iteF ?_
  refine ⟨_, rfl, rfl, _, rfl, ?_⟩
  by_cases h11 : k = 11
  · rw [decide_eq_true (congrArg V.int h11)]
    exact iteT ⟨_, rfl, _, rfl, hR⟩
  rw [decide_eq_false (fun z => h11 (V.int.inj z))]
  refine iteF ?_
  refine ⟨_, rfl, rfl, _, rfl, ?_⟩
  by_cases h12 : k = 12
  · rw [decide_eq_true (congrArg V.int h12)]
    exact iteT ⟨_, rfl, _, rfl, hR⟩
  rw [decide_eq_false (fun z => h12 (V.int.inj z))]
  refine iteF ?_
  refine ⟨_, rfl, rfl, _, rfl, ?_⟩
  by_cases h13 : k = 13
  · rw [decide_eq_true (congrArg V.int h13)]
    exact iteT ⟨_, rfl, _, rfl, hR⟩
  rw [decide_eq_false (fun z => h13 (V.int.inj z))]
  refine iteF ?_
  refine ⟨_, rfl, rfl, _, rfl, ?_⟩
  by_cases h14 : k = 14
  · rw [decide_eq_true (congrArg V.int h14)]
    exact iteT ⟨_, rfl, _, _, _, rfl, hR⟩
  rw [decide_eq_false (fun z => h14 (V.int.inj z))]
  refine iteF ?_
  omega
theorem F_coset_count (c : Md fa fns ex P w K mg base) : FunDD K dd_coset_count := c.def_ 2 11 rfl rfl
theorem S_coset_count : FnScope ["generators", "graph"] ["generators"] (defScope s_coset_count) := ⟨rfl, rfl, rfl, by decide +kernel, rfl, by decide +kernel, by decide +kernel⟩
def sp_coset_count (K : PySem.W.Frag) : Sp := Sp1 fun a H _ E => Rg1 K a H E
theorem ok_coset_count (c : Md fa fns ex P w K mg base) : FnG P w K mg base 5 (He.fAd K ("coset_count", none)) (fdAt K (He.fAd K ("coset_count", none))) ["generators"] (sp_coset_count K) := by
  refine fnG_of (F_coset_count c) S_coset_count (len_1) (fun cdv A outer s H vs Q E hr h => ⟨_, (pss_cons (ps_set (i := 1) S_coset_count.nd rfl (Or.inl rfl) (pe_stop rfl (c.glo 20 rfl) (F_fold_paths c).kp (pa_cons (gcall (ok_reduced_generators c) (hr.mono (by decide)) rfl (c.glo 10 rfl) (F_reduced_generators c).kp (Bd_reduced_generators_1 c) (Dv_reduced_generators_1 c) (pxB (takes_of rfl rfl rfl rfl)) (pa_cons (pv 0) pa_nil)) pa_nil)))
    pss_never), ?_⟩)
  obtain ⟨a, rfl, o, hv, hq⟩ := h
  exact ⟨_, rfl, _, rfl, o, hv, hq.no⟩
theorem F_coset (c : Md fa fns ex P w K mg base) : FunDD K dd_coset := c.def_ 2 12 rfl rfl
theorem S_coset : FnScope ["generators", "path", "graph"] ["generators", "path"] (defScope s_coset) := ⟨rfl, rfl, rfl, by decide +kernel, rfl, by decide +kernel, by decide +kernel⟩
def sp_coset (K : PySem.W.Frag) : Sp := Sp2 fun a _ H _ E => Rg1 K a H E
theorem ok_coset (c : Md fa fns ex P w K mg base) : FnG P w K mg base 5 (He.fAd K ("coset", none)) (fdAt K (He.fAd K ("coset", none))) ["generators", "path"] (sp_coset K) := by
  refine fnG_of (F_coset c) S_coset (len_2) (fun cdv A outer s H vs Q E hr h => ⟨_, (pss_cons (ps_set (i := 2) S_coset.nd rfl (Or.inl rfl) (pe_stop rfl (c.glo 20 rfl) (F_fold_paths c).kp (pa_cons (gcall (ok_reduced_generators c) (hr.mono (by decide)) rfl (c.glo 10 rfl) (F_reduced_generators c).kp (Bd_reduced_generators_1 c) (Dv_reduced_generators_1 c) (pxB (takes_of rfl rfl rfl rfl)) (pa_cons (pv 0) pa_nil)) pa_nil)))
    pss_never), ?_⟩)
  obtain ⟨a, b, rfl, o, hv, hq⟩ := h
  exact ⟨_, rfl, _, rfl, o, hv, hq.no⟩
theorem F_representatives (c : Md fa fns ex P w K mg base) : FunDD K dd_representatives := c.def_ 2 14 rfl rfl
theorem S_representatives : FnScope ["generators", "graph", "paths", "tree", "node"] ["generators"] (defScope s_representatives) := ⟨rfl, rfl, rfl, by decide +kernel, rfl, by decide +kernel, by decide +kernel⟩
def sp_representatives (K : PySem.W.Frag) : Sp := Sp1 fun a H _ E => Rg1 K a H E
theorem ok_representatives (c : Md fa fns ex P w K mg base) : FnG P w K mg base 5 (He.fAd K ("representatives", none)) (fdAt K (He.fAd K ("representatives", none))) ["generators"] (sp_representatives K) := by
  refine fnG_of (F_representatives c) S_representatives (len_1) (fun cdv A outer s H vs Q E hr h => ⟨_, (pss_cons (ps_set (i := 1) S_representatives.nd rfl (Or.inl rfl) (pe_stop rfl (c.glo 20 rfl) (F_fold_paths c).kp (pa_cons (gcall (ok_reduced_generators c) (hr.mono (by decide)) rfl (c.glo 10 rfl) (F_reduced_generators c).kp (Bd_reduced_generators_1 c) (Dv_reduced_generators_1 c) (pxB (takes_of rfl rfl rfl rfl)) (pa_cons (pv 0) pa_nil)) pa_nil)))
    pss_never), ?_⟩)
  obtain ⟨a, rfl, o, hv, hq⟩ := h
  exact ⟨_, rfl, _, rfl, o, hv, hq.no⟩
theorem F_escapes (c : Md fa fns ex P w K mg base) : FunDD K dd_escapes := c.def_ 2 16 rfl rfl
theorem S_escapes : FnScope ["generators", "path", "graph"] ["generators", "path"] (defScope s_escapes) := ⟨rfl, rfl, rfl, by decide +kernel, rfl, by decide +kernel, by decide +kernel⟩
def sp_escapes (K : PySem.W.Frag) : Sp := Sp2 fun a _ H _ E => Rg1 K a H E
theorem ok_escapes (c : Md fa fns ex P w K mg base) : FnG P w K mg base 5 (He.fAd K ("escapes", none)) (fdAt K (He.fAd K ("escapes", none))) ["generators", "path"] (sp_escapes K) := by
  refine fnG_of (F_escapes c) S_escapes (len_2) (fun cdv A outer s H vs Q E hr h => ⟨_, (pss_cons (ps_set (i := 2) S_escapes.nd rfl (Or.inl rfl) (pe_stop rfl (c.glo 20 rfl) (F_fold_paths c).kp (pa_cons (gcall (ok_reduced_generators c) (hr.mono (by decide)) rfl (c.glo 10 rfl) (F_reduced_generators c).kp (Bd_reduced_generators_1 c) (Dv_reduced_generators_1 c) (pxB (takes_of rfl rfl rfl rfl)) (pa_cons (pv 0) pa_nil)) pa_nil)))
    pss_never), ?_⟩)
  obtain ⟨a, b, rfl, o, hv, hq⟩ := h
  exact ⟨_, rfl, _, rfl, o, hv, hq.no⟩
theorem F_escaping_path (c : Md fa fns ex P w K mg base) : FunDD K dd_escaping_path := c.def_ 2 17 rfl rfl
theorem S_escaping_path : FnScope ["generators", "graph", "paths", "tree", "node", "step", "result", "other"] ["generators"] (defScope s_escaping_path) := ⟨rfl, rfl, rfl, by decide +kernel, rfl, by decide +kernel, by decide +kernel⟩
def sp_escaping_path (K : PySem.W.Frag) : Sp := Sp1 fun a H _ E => Rg1 K a H E
theorem ok_escaping_path (c : Md fa fns ex P w K mg base) : FnG P w K mg base 5 (He.fAd K ("escaping_path", none)) (fdAt K (He.fAd K ("escaping_path", none))) ["generators"] (sp_escaping_path K) := by
  refine fnG_of (F_escaping_path c) S_escaping_path (len_1) (fun cdv A outer s H vs Q E hr h => ⟨_, (pss_cons (ps_set (i := 1) S_escaping_path.nd rfl (Or.inl rfl) (pe_stop rfl (c.glo 20 rfl) (F_fold_paths c).kp (pa_cons (gcall (ok_reduced_generators c) (hr.mono (by decide)) rfl (c.glo 10 rfl) (F_reduced_generators c).kp (Bd_reduced_generators_1 c) (Dv_reduced_generators_1 c) (pxB (takes_of rfl rfl rfl rfl)) (pa_cons (pv 0) pa_nil)) pa_nil)))
    pss_never), ?_⟩)
  obtain ⟨a, rfl, o, hv, hq⟩ := h
  exact ⟨_, rfl, _, rfl, o, hv, hq.no⟩
theorem F_check_escape (c : Md fa fns ex P w K mg base) : FunDD K dd_check_escape := c.def_ 2 18 rfl rfl
theorem S_check_escape : FnScope ["generators", "path", "graph", "paths", "node", "repetition", "nodes"] ["generators", "path", "graph"] (defScope s_check_escape) := ⟨rfl, rfl, rfl, by decide +kernel, rfl, by decide +kernel, by decide +kernel⟩
def sp_check_escape (K : PySem.W.Frag) : Sp := Sp3 fun a _ _ H _ E => Rg1 K a H E
theorem ok_check_escape (c : Md fa fns ex P w K mg base) : FnG P w K mg base 5 (He.fAd K ("check_escape", none)) (fdAt K (He.fAd K ("check_escape", none))) ["generators", "path", "graph"] (sp_check_escape K) := by
  refine fnG_of (F_check_escape c) S_check_escape (len_3) (fun cdv A outer s H vs Q E hr h => ⟨_, (pss_cons (ps_set (i := 3) S_check_escape.nd rfl (Or.inl rfl) (gcall (ok_reduced_generators c) (hr.mono (by decide)) rfl (c.glo 10 rfl) (F_reduced_generators c).kp (Bd_reduced_generators_1 c) (Dv_reduced_generators_1 c) (pxB (takes_of rfl rfl rfl rfl)) (pa_cons (pv 0) pa_nil)))
    pss_never), ?_⟩)
  obtain ⟨a, b, c, rfl, o, hv, hq⟩ := h
  exact ⟨_, rfl, _, rfl, o, hv, hq.no⟩
theorem F_order (c : Md fa fns ex P w K mg base) : FunDD K dd_order := c.def_ 2 36 rfl rfl
theorem S_order : FnScope ["generators", "path", "graph", "steps", "nodes"] ["generators", "path"] (defScope s_order) := ⟨rfl, rfl, rfl, by decide +kernel, rfl, by decide +kernel, by decide +kernel⟩
def sp_order (K : PySem.W.Frag) : Sp := Sp2 fun a _ H _ E => Rg1 K a H E
theorem ok_order (c : Md fa fns ex P w K mg base) : FnG P w K mg base 5 (He.fAd K ("order", none)) (fdAt K (He.fAd K ("order", none))) ["generators", "path"] (sp_order K) := by
  refine fnG_of (F_order c) S_order (len_2) (fun cdv A outer s H vs Q E hr h => ⟨_, (pss_cons (ps_set (i := 2) S_order.nd rfl (Or.inl rfl) (pe_stop rfl (c.glo 20 rfl) (F_fold_paths c).kp (pa_cons (gcall (ok_reduced_generators c) (hr.mono (by decide)) rfl (c.glo 10 rfl) (F_reduced_generators c).kp (Bd_reduced_generators_1 c) (Dv_reduced_generators_1 c) (pxB (takes_of rfl rfl rfl rfl)) (pa_cons (pv 0) pa_nil)) pa_nil)))
    pss_never), ?_⟩)
  obtain ⟨a, b, rfl, o, hv, hq⟩ := h
  exact ⟨_, rfl, _, rfl, o, hv, hq.no⟩
theorem F_power_node (c : Md fa fns ex P w K mg base) : FunDD K dd_power_node := c.def_ 2 37 rfl rfl
theorem S_power_node : FnScope ["generators", "path", "exponent", "graph", "steps", "nodes", "prefix", "core"] ["generators", "path", "exponent"] (defScope s_power_node) := ⟨rfl, rfl, rfl, by decide +kernel, rfl, by decide +kernel, by decide +kernel⟩
def sp_power_node (K : PySem.W.Frag) : Sp := Sp3 fun a _ _ H _ E => Rg1 K a H E
theorem ok_power_node (c : Md fa fns ex P w K mg base) : FnG P w K mg base 5 (He.fAd K ("power_node", none)) (fdAt K (He.fAd K ("power_node", none))) ["generators", "path", "exponent"] (sp_power_node K) := by
  refine fnG_of (F_power_node c) S_power_node (len_3) (fun cdv A outer s H vs Q E hr h => ⟨_, (pss_cons (ps_set (i := 3) S_power_node.nd rfl (Or.inl rfl) (pe_stop rfl (c.glo 20 rfl) (F_fold_paths c).kp (pa_cons (gcall (ok_reduced_generators c) (hr.mono (by decide)) rfl (c.glo 10 rfl) (F_reduced_generators c).kp (Bd_reduced_generators_1 c) (Dv_reduced_generators_1 c) (pxB (takes_of rfl rfl rfl rfl)) (pa_cons (pv 0) pa_nil)) pa_nil)))
    pss_never), ?_⟩)
  obtain ⟨a, b, c, rfl, o, hv, hq⟩ := h
  exact ⟨_, rfl, _, rfl, o, hv, hq.no⟩
theorem F_core_of (c : Md fa fns ex P w K mg base) : FunDD K dd_core_of := c.def_ 2 5 rfl rfl
theorem F_core_graph (c : Md fa fns ex P w K mg base) : FunDD K dd_core_graph := c.def_ 2 6 rfl rfl
theorem S_core_graph : FnScope ["generators"] ["generators"] (defScope s_core_graph) := ⟨rfl, rfl, rfl, by decide +kernel, rfl, by decide +kernel, by decide +kernel⟩
def sp_core_graph (K : PySem.W.Frag) : Sp := Sp1 fun a H _ E => Rg1 K a H E
theorem ok_core_graph (c : Md fa fns ex P w K mg base) : FnG P w K mg base 5 (He.fAd K ("core_graph", none)) (fdAt K (He.fAd K ("core_graph", none))) ["generators"] (sp_core_graph K) := by
  refine fnG_of (F_core_graph c) S_core_graph (len_1) (fun cdv A outer s H vs Q E hr h => ⟨_, (pss_one (ps_ret (pe_stop rfl (c.glo 77 rfl) (F_core_of c).kp (pa_cons (pe_stop rfl (c.glo 20 rfl) (F_fold_paths c).kp (pa_cons (gcall (ok_reduced_generators c) (hr.mono (by decide)) rfl (c.glo 10 rfl) (F_reduced_generators c).kp (Bd_reduced_generators_1 c) (Dv_reduced_generators_1 c) (pxB (takes_of rfl rfl rfl rfl)) (pa_cons (pv 0) pa_nil)) pa_nil)) pa_nil)))), ?_⟩)
  obtain ⟨a, rfl, o, hv, hq⟩ := h
  exact ⟨_, rfl, _, rfl, o, hv, hq.no⟩
theorem F_conjugate (c : Md fa fns ex P w K mg base) : FunDD K dd_conjugate := c.def_ 2 7 rfl rfl
theorem S_conjugate : FnScope ["generators", "path", "paths", "steps", "result", "generator"] ["generators", "path"] (defScope s_conjugate) := ⟨rfl, rfl, rfl, by decide +kernel, rfl, by decide +kernel, by decide +kernel⟩
def sp_conjugate (K : PySem.W.Frag) : Sp := Sp2 fun a _ H _ E => Rg1 K a H E
theorem ok_conjugate (c : Md fa fns ex P w K mg base) : FnG P w K mg base 5 (He.fAd K ("conjugate", none)) (fdAt K (He.fAd K ("conjugate", none))) ["generators", "path"] (sp_conjugate K) := by
  refine fnG_of (F_conjugate c) S_conjugate (len_2) (fun cdv A outer s H vs Q E hr h => ⟨_, (pss_cons (ps_set (i := 2) S_conjugate.nd rfl (Or.inl rfl) (gcall (ok_reduced_generators c) (hr.mono (by decide)) rfl (c.glo 10 rfl) (F_reduced_generators c).kp (Bd_reduced_generators_1 c) (Dv_reduced_generators_1 c) (pxB (takes_of rfl rfl rfl rfl)) (pa_cons (pv 0) pa_nil)))
    pss_never), ?_⟩)
  obtain ⟨a, b, rfl, o, hv, hq⟩ := h
  exact ⟨_, rfl, _, rfl, o, hv, hq.no⟩
theorem F_count_closed (c : Md fa fns ex P w K mg base) : FunDD K dd_count_closed := c.def_ 2 26 rfl rfl
theorem S_count_closed : FnScope ["generators", "length", "graph"] ["generators", "length"] (defScope s_count_closed) := ⟨rfl, rfl, rfl, by decide +kernel, rfl, by decide +kernel, by decide +kernel⟩
def sp_count_closed (K : PySem.W.Frag) : Sp := Sp2 fun a _ H _ E => Rg1 K a H E
theorem ok_count_closed (c : Md fa fns ex P w K mg base) : FnG P w K mg base 5 (He.fAd K ("count_closed", none)) (fdAt K (He.fAd K ("count_closed", none))) ["generators", "length"] (sp_count_closed K) := by
  refine fnG_of (F_count_closed c) S_count_closed (len_2) (fun cdv A outer s H vs Q E hr h => ⟨_, (pss_cons (ps_set (i := 2) S_count_closed.nd rfl (Or.inl rfl) (pe_stop rfl (c.glo 20 rfl) (F_fold_paths c).kp (pa_cons (gcall (ok_reduced_generators c) (hr.mono (by decide)) rfl (c.glo 10 rfl) (F_reduced_generators c).kp (Bd_reduced_generators_1 c) (Dv_reduced_generators_1 c) (pxB (takes_of rfl rfl rfl rfl)) (pa_cons (pv 0) pa_nil)) pa_nil)))
    pss_never), ?_⟩)
  obtain ⟨a, b, rfl, o, hv, hq⟩ := h
  exact ⟨_, rfl, _, rfl, o, hv, hq.no⟩
theorem F_closed_path_at (c : Md fa fns ex P w K mg base) : FunDD K dd_closed_path_at := c.def_ 2 27 rfl rfl
theorem S_closed_path_at : FnScope ["generators", "position", "graph", "counter", "length", "count"] ["generators", "position"] (defScope s_closed_path_at) := ⟨rfl, rfl, rfl, by decide +kernel, rfl, by decide +kernel, by decide +kernel⟩
def sp_closed_path_at (K : PySem.W.Frag) : Sp := Sp2 fun a _ H _ E => Rg1 K a H E
theorem ok_closed_path_at (c : Md fa fns ex P w K mg base) : FnG P w K mg base 5 (He.fAd K ("closed_path_at", none)) (fdAt K (He.fAd K ("closed_path_at", none))) ["generators", "position"] (sp_closed_path_at K) := by
  refine fnG_of (F_closed_path_at c) S_closed_path_at (len_2) (fun cdv A outer s H vs Q E hr h => ⟨_, (pss_cons (ps_set (i := 2) S_closed_path_at.nd rfl (Or.inl rfl) (pe_stop rfl (c.glo 20 rfl) (F_fold_paths c).kp (pa_cons (gcall (ok_reduced_generators c) (hr.mono (by decide)) rfl (c.glo 10 rfl) (F_reduced_generators c).kp (Bd_reduced_generators_1 c) (Dv_reduced_generators_1 c) (pxB (takes_of rfl rfl rfl rfl)) (pa_cons (pv 0) pa_nil)) pa_nil)))
    pss_never), ?_⟩)
  obtain ⟨a, b, rfl, o, hv, hq⟩ := h
  exact ⟨_, rfl, _, rfl, o, hv, hq.no⟩
theorem F_position_of (c : Md fa fns ex P w K mg base) : FunDD K dd_position_of := c.def_ 2 28 rfl rfl
theorem S_position_of : FnScope ["generators", "path", "graph", "goal", "counter", "length"] ["generators", "path"] (defScope s_position_of) := ⟨rfl, rfl, rfl, by decide +kernel, rfl, by decide +kernel, by decide +kernel⟩
def sp_position_of (K : PySem.W.Frag) : Sp := Sp2 fun a _ H _ E => Rg1 K a H E
theorem ok_position_of (c : Md fa fns ex P w K mg base) : FnG P w K mg base 5 (He.fAd K ("position_of", none)) (fdAt K (He.fAd K ("position_of", none))) ["generators", "path"] (sp_position_of K) := by
  refine fnG_of (F_position_of c) S_position_of (len_2) (fun cdv A outer s H vs Q E hr h => ⟨_, (pss_cons (ps_set (i := 2) S_position_of.nd rfl (Or.inl rfl) (pe_stop rfl (c.glo 20 rfl) (F_fold_paths c).kp (pa_cons (gcall (ok_reduced_generators c) (hr.mono (by decide)) rfl (c.glo 10 rfl) (F_reduced_generators c).kp (Bd_reduced_generators_1 c) (Dv_reduced_generators_1 c) (pxB (takes_of rfl rfl rfl rfl)) (pa_cons (pv 0) pa_nil)) pa_nil)))
    pss_never), ?_⟩)
  obtain ⟨a, b, rfl, o, hv, hq⟩ := h
  exact ⟨_, rfl, _, rfl, o, hv, hq.no⟩
theorem F_smallest_model (c : Md fa fns ex P w K mg base) : FunDD K dd_smallest_model := c.def_ 2 35 rfl rfl
theorem S_smallest_model : FnScope ["included", "path", "limit", "inside", "goal", "size"] ["included", "path", "limit"] (defScope s_smallest_model) := ⟨rfl, rfl, rfl, by decide +kernel, rfl, by decide +kernel, by decide +kernel⟩
def sp_smallest_model (K : PySem.W.Frag) : Sp := Sp3 fun a _ _ H _ E => Rg1 K a H E
theorem ok_smallest_model (c : Md fa fns ex P w K mg base) : FnG P w K mg base 5 (He.fAd K ("smallest_model", none)) (fdAt K (He.fAd K ("smallest_model", none))) ["included", "path", "limit"] (sp_smallest_model K) := by
  refine fnG_of (F_smallest_model c) S_smallest_model (len_3) (fun cdv A outer s H vs Q E hr h => ⟨_, (pss_cons (ps_set (i := 3) S_smallest_model.nd rfl (Or.inl rfl) (gcall (ok_reduced_generators c) (hr.mono (by decide)) rfl (c.glo 10 rfl) (F_reduced_generators c).kp (Bd_reduced_generators_1 c) (Dv_reduced_generators_1 c) (pxB (takes_of rfl rfl rfl rfl)) (pa_cons (pv 0) pa_nil)))
    pss_never), ?_⟩)
  obtain ⟨a, b, c, rfl, o, hv, hq⟩ := h
  exact ⟨_, rfl, _, rfl, o, hv, hq.no⟩
theorem Bd_coset_2 (c : Md fa fns ex P w K mg base) : Binds K (fdAt K (He.fAd K ("coset", none))) ["generators", "path"] [] := (F_coset c).bindsN fun _ _ _ _ _ _ us hl => match us, hl with | [_, _], _ => rfl
theorem Dv_coset_2 (c : Md fa fns ex P w K mg base) : Vals [] [] := .nil
theorem Bd_conjugate_2 (c : Md fa fns ex P w K mg base) : Binds K (fdAt K (He.fAd K ("conjugate", none))) ["generators", "path"] [] := (F_conjugate c).bindsN fun _ _ _ _ _ _ us hl => match us, hl with | [_, _], _ => rfl
theorem Dv_conjugate_2 (c : Md fa fns ex P w K mg base) : Vals [] [] := .nil
theorem BX_smallest_model_2 (c : Md fa fns ex P w K mg base) : ∃ ds, Vals ((dd_smallest_model.kws K).map (·.2)) ds ∧ Binds K (fdAt K (He.fAd K ("smallest_model", none))) ["included", "path", "limit"] ds := (F_smallest_model c).binds0 (ps := ["included", "path", "limit"]) 2 (List.cons_ne_nil _ _) rfl fun D doc pm an cdv ct us ks hu hk => match us, ks, hu, hk with | [_, _], [_], _, _ => ⟨_, _, _, _, _, _, rfl, rfl, rfl⟩
theorem Bd_power_node_3 (c : Md fa fns ex P w K mg base) : Binds K (fdAt K (He.fAd K ("power_node", none))) ["generators", "path", "exponent"] [] := (F_power_node c).bindsN fun _ _ _ _ _ _ us hl => match us, hl with | [_, _, _], _ => rfl
theorem Dv_power_node_3 (c : Md fa fns ex P w K mg base) : Vals [] [] := .nil
theorem Bd_representatives_1 (c : Md fa fns ex P w K mg base) : Binds K (fdAt K (He.fAd K ("representatives", none))) ["generators"] [] := (F_representatives c).bindsN fun _ _ _ _ _ _ us hl => match us, hl with | [_], _ => rfl
theorem Dv_representatives_1 (c : Md fa fns ex P w K mg base) : Vals [] [] := .nil
theorem Bd_order_2 (c : Md fa fns ex P w K mg base) : Binds K (fdAt K (He.fAd K ("order", none))) ["generators", "path"] [] := (F_order c).bindsN fun _ _ _ _ _ _ us hl => match us, hl with | [_, _], _ => rfl
theorem Dv_order_2 (c : Md fa fns ex P w K mg base) : Vals [] [] := .nil
theorem Bd_coset_count_1 (c : Md fa fns ex P w K mg base) : Binds K (fdAt K (He.fAd K ("coset_count", none))) ["generators"] [] := (F_coset_count c).bindsN fun _ _ _ _ _ _ us hl => match us, hl with | [_], _ => rfl
theorem Dv_coset_count_1 (c : Md fa fns ex P w K mg base) : Vals [] [] := .nil
theorem Bd_core_graph_1 (c : Md fa fns ex P w K mg base) : Binds K (fdAt K (He.fAd K ("core_graph", none))) ["generators"] [] := (F_core_graph c).bindsN fun _ _ _ _ _ _ us hl => match us, hl with | [_], _ => rfl
theorem Dv_core_graph_1 (c : Md fa fns ex P w K mg base) : Vals [] [] := .nil
theorem Bd_check_escape_3 (c : Md fa fns ex P w K mg base) : Binds K (fdAt K (He.fAd K ("check_escape", none))) ["generators", "path", "graph"] [] := (F_check_escape c).bindsN fun _ _ _ _ _ _ us hl => match us, hl with | [_, _, _], _ => rfl
theorem Dv_check_escape_3 (c : Md fa fns ex P w K mg base) : Vals [] [] := .nil
theorem Bd_count_closed_2 (c : Md fa fns ex P w K mg base) : Binds K (fdAt K (He.fAd K ("count_closed", none))) ["generators", "length"] [] := (F_count_closed c).bindsN fun _ _ _ _ _ _ us hl => match us, hl with | [_, _], _ => rfl
theorem Dv_count_closed_2 (c : Md fa fns ex P w K mg base) : Vals [] [] := .nil
theorem Bd_position_of_2 (c : Md fa fns ex P w K mg base) : Binds K (fdAt K (He.fAd K ("position_of", none))) ["generators", "path"] [] := (F_position_of c).bindsN fun _ _ _ _ _ _ us hl => match us, hl with | [_, _], _ => rfl
theorem Dv_position_of_2 (c : Md fa fns ex P w K mg base) : Vals [] [] := .nil
theorem Bd_escaping_path_1 (c : Md fa fns ex P w K mg base) : Binds K (fdAt K (He.fAd K ("escaping_path", none))) ["generators"] [] := (F_escaping_path c).bindsN fun _ _ _ _ _ _ us hl => match us, hl with | [_], _ => rfl
theorem Dv_escaping_path_1 (c : Md fa fns ex P w K mg base) : Vals [] [] := .nil
theorem Bd_escapes_2 (c : Md fa fns ex P w K mg base) : Binds K (fdAt K (He.fAd K ("escapes", none))) ["generators", "path"] [] := (F_escapes c).bindsN fun _ _ _ _ _ _ us hl => match us, hl with | [_, _], _ => rfl
theorem Dv_escapes_2 (c : Md fa fns ex P w K mg base) : Vals [] [] := .nil
theorem Bd_closed_path_at_2 (c : Md fa fns ex P w K mg base) : Binds K (fdAt K (He.fAd K ("closed_path_at", none))) ["generators", "position"] [] := (F_closed_path_at c).bindsN fun _ _ _ _ _ _ us hl => match us, hl with | [_, _], _ => rfl
theorem Dv_closed_path_at_2 (c : Md fa fns ex P w K mg base) : Vals [] [] := .nil
theorem F_law_second_calls (c : Md fa fns ex P w K mg base) : FunDD K dd_law_second_calls := c.def_ 2 45 rfl rfl
theorem S_law_second_calls : FnScope ["_law_number", "_law_some"] ["_law_number", "_law_some"] (defScope s_law_second_calls) := ⟨rfl, rfl, rfl, by decide +kernel, rfl, by decide +kernel, by decide +kernel⟩

theorem ok_law_second_calls (c : Md fa fns ex P w K mg base) : FnG P w K mg base 6 (He.fAd K ("_law_second_calls", none)) (fdAt K (He.fAd K ("_law_second_calls", none))) ["_law_number", "_law_some"] (sp_law_second_calls K) := by
  obtain ⟨ds_smallest_model_2, Dv_smallest_model_2, Bd_smallest_model_2⟩ := BX_smallest_model_2 c
  refine fnG_of (F_law_second_calls c) S_law_second_calls (len_2) (fun cdv A outer s H vs Q E hr h => ⟨_, (pss_cons (ps_if (pt_cmpR op_eq (pv 0) pe_int (nomark _)) (pss_one (ps_expr (gcall (ok_coset_count c) (hr.mono (by decide)) rfl (c.glo 83 rfl) (F_coset_count c).kp (Bd_coset_count_1 c) (Dv_coset_count_1 c) (pxB (takes_of rfl rfl rfl rfl)) (pa_cons (pv 1) pa_nil)))) pss_nil)
    (pss_cons (ps_if (pt_cmpR op_eq (pv 0) pe_int (nomark _)) (pss_one (ps_expr (gcall (ok_coset c) (hr.mono (by decide)) rfl (c.glo 84 rfl) (F_coset c).kp (Bd_coset_2 c) (Dv_coset_2 c) (pxB (takes_of rfl rfl rfl rfl)) (pa_cons (pv 1) (pa_cons pe_str pa_nil))))) pss_nil)
    (pss_cons (ps_if (pt_cmpR op_eq (pv 0) pe_int (nomark _)) (pss_one (ps_expr (gcall (ok_representatives c) (hr.mono (by decide)) rfl (c.glo 86 rfl) (F_representatives c).kp (Bd_representatives_1 c) (Dv_representatives_1 c) (pxB (takes_of rfl rfl rfl rfl)) (pa_cons (pv 1) pa_nil)))) pss_nil)
    (pss_cons (ps_if (pt_cmpR op_eq (pv 0) pe_int (nomark _)) (pss_one (ps_expr (gcall (ok_escapes c) (hr.mono (by decide)) rfl (c.glo 88 rfl) (F_escapes c).kp (Bd_escapes_2 c) (Dv_escapes_2 c) (pxB (takes_of rfl rfl rfl rfl)) (pa_cons (pv 1) (pa_cons pe_str pa_nil))))) pss_nil)
    (pss_cons (ps_if (pt_cmpR op_eq (pv 0) pe_int (nomark _)) (pss_one (ps_expr (gcall (ok_escaping_path c) (hr.mono (by decide)) rfl (c.glo 89 rfl) (F_escaping_path c).kp (Bd_escaping_path_1 c) (Dv_escaping_path_1 c) (pxB (takes_of rfl rfl rfl rfl)) (pa_cons (pv 1) pa_nil)))) pss_nil)
    (pss_cons (ps_if (pt_cmpR op_eq (pv 0) pe_int (nomark _)) (pss_one (ps_expr (gcall (ok_check_escape c) (hr.mono (by decide)) rfl (c.glo 90 rfl) (F_check_escape c).kp (Bd_check_escape_3 c) (Dv_check_escape_3 c) (pxB (takes_of rfl rfl rfl rfl)) (pa_cons (pv 1) (pa_cons pe_str (pa_cons pe_non pa_nil)))))) pss_nil)
    (pss_cons (ps_if (pt_cmpR op_eq (pv 0) pe_int (nomark _)) (pss_one (ps_expr (gcall (ok_order c) (hr.mono (by decide)) rfl (c.glo 101 rfl) (F_order c).kp (Bd_order_2 c) (Dv_order_2 c) (pxB (takes_of rfl rfl rfl rfl)) (pa_cons (pv 1) (pa_cons pe_str pa_nil))))) pss_nil)
    (pss_cons (ps_if (pt_cmpR op_eq (pv 0) pe_int (nomark _)) (pss_one (ps_expr (gcall (ok_power_node c) (hr.mono (by decide)) rfl (c.glo 102 rfl) (F_power_node c).kp (Bd_power_node_3 c) (Dv_power_node_3 c) (pxB (takes_of rfl rfl rfl rfl)) (pa_cons (pv 1) (pa_cons pe_str (pa_cons pe_int pa_nil)))))) pss_nil)
    (pss_cons (ps_if (pt_cmpR op_eq (pv 0) pe_int (nomark _)) (pss_one (ps_expr (gcall (ok_core_graph c) (hr.mono (by decide)) rfl (c.glo 78 rfl) (F_core_graph c).kp (Bd_core_graph_1 c) (Dv_core_graph_1 c) (pxB (takes_of rfl rfl rfl rfl)) (pa_cons (pv 1) pa_nil)))) pss_nil)
    (pss_cons (ps_if (pt_cmpR op_eq (pv 0) pe_int (nomark _)) (pss_one (ps_expr (gcall (ok_conjugate c) (hr.mono (by decide)) rfl (c.glo 79 rfl) (F_conjugate c).kp (Bd_conjugate_2 c) (Dv_conjugate_2 c) (pxB (takes_of rfl rfl rfl rfl)) (pa_cons (pv 1) (pa_cons pe_str pa_nil))))) pss_nil)
    (pss_cons (ps_if (pt_cmpR op_eq (pv 0) pe_int (nomark _)) (pss_one (ps_expr (gcall (ok_count_closed c) (hr.mono (by decide)) rfl (c.glo 91 rfl) (F_count_closed c).kp (Bd_count_closed_2 c) (Dv_count_closed_2 c) (pxB (takes_of rfl rfl rfl rfl)) (pa_cons (pv 1) (pa_cons pe_int pa_nil))))) pss_nil)
    (pss_cons (ps_if (pt_cmpR op_eq (pv 0) pe_int (nomark _)) (pss_one (ps_expr (gcall (ok_closed_path_at c) (hr.mono (by decide)) rfl (c.glo 92 rfl) (F_closed_path_at c).kp (Bd_closed_path_at_2 c) (Dv_closed_path_at_2 c) (pxB (takes_of rfl rfl rfl rfl)) (pa_cons (pv 1) (pa_cons pe_int pa_nil))))) pss_nil)
    (pss_cons (ps_if (pt_cmpR op_eq (pv 0) pe_int (nomark _)) (pss_one (ps_expr (gcall (ok_position_of c) (hr.mono (by decide)) rfl (c.glo 93 rfl) (F_position_of c).kp (Bd_position_of_2 c) (Dv_position_of_2 c) (pxB (takes_of rfl rfl rfl rfl)) (pa_cons (pv 1) (pa_cons pe_str pa_nil))))) pss_nil)
    (pss_one (ps_if (pt_cmpR op_eq (pv 0) pe_int (nomark _)) (pss_one (ps_expr (gcall (ok_smallest_model c) (hr.mono (by decide)) rfl (c.glo 100 rfl) (F_smallest_model c).kp Bd_smallest_model_2 Dv_smallest_model_2 (pxB (takes_of rfl rfl rfl rfl)) (pa_cons (pv 1) (pa_cons pe_str pa_nil))))) pss_nil))))))))))))))), ?_⟩)
  obtain ⟨n, v, rfl, k, rfl, k0, k1, hR⟩ := h
  refine ⟨_, rfl, rfl, _, rfl, ?_⟩
  by_cases h15 : k = 15
  · rw [decide_eq_true (congrArg V.int h15)]
    exact iteT ⟨_, rfl, _, rfl, hR⟩
  rw [decide_eq_false (fun z => h15 (V.int.inj z))]
  refine iteF ?_
  refine ⟨_, rfl, rfl, _, rfl, ?_⟩
  by_cases h16 : k = 16
  · rw [decide_eq_true (congrArg V.int h16)]
    exact iteT ⟨_, rfl, _, _, rfl, hR⟩
  rw [decide_eq_false (fun z => h16 (V.int.inj z))]
  refine iteF ?_
  refine ⟨_, rfl, rfl, _, rfl, ?_⟩
  by_cases h17 : k = 17
  · rw [decide_eq_true (congrArg V.int h17)]
    exact iteT ⟨_, rfl, _, rfl, hR⟩
  rw [decide_eq_false (fun z => h17 (V.int.inj z))]
  refine iteF ?_
  refine ⟨_, rfl, rfl, _, rfl, ?_⟩
  by_cases h18 : k = 18
  · rw [decide_eq_true (congrArg V.int h18)]
    exact iteT ⟨_, rfl, _, _, rfl, hR⟩
  rw [decide_eq_false (fun z => h18 (V.int.inj z))]
  refine iteF ?_
  refine ⟨_, rfl, rfl, _, rfl, ?_⟩
  by_cases h19 : k = 19
  · rw [decide_eq_true (congrArg V.int h19)]
    exact iteT ⟨_, rfl, _, rfl, hR⟩
  rw [decide_eq_false (fun z => h19 (V.int.inj z))]
  refine iteF ?_
  refine ⟨_, rfl, rfl, _, rfl, ?_⟩
  by_cases h20 : k = 20
  · rw [decide_eq_true (congrArg V.int h20)]
    exact iteT ⟨_, rfl, _, _, _, rfl, hR⟩
  rw [decide_eq_false (fun z => h20 (V.int.inj z))]
  refine iteF ?_
  refine ⟨_, rfl, rfl, _, rfl, ?_⟩
  by_cases h21 : k = 21
  · rw [decide_eq_true (congrArg V.int h21)]
    exact iteT ⟨_, rfl, _, _, rfl, hR⟩
  rw [decide_eq_false (fun z => h21 (V.int.inj z))]
  refine iteF ?_
  refine ⟨_, rfl, rfl, _, rfl, ?_⟩
  by_cases h22 : k = 22
  · rw [decide_eq_true (congrArg V.int h22)]
    exact iteT ⟨_, rfl, _, _, _, rfl, hR⟩
  rw [decide_eq_false (fun z => h22 (V.int.inj z))]
  refine iteF ?_
  refine ⟨_, rfl, rfl, _, rfl, ?_⟩
  by_cases h23 : k = 23
  · rw [decide_eq_true (congrArg V.int h23)]
    exact iteT ⟨_, rfl, _, rfl, hR⟩
  rw [decide_eq_false (fun z => h23 (V.int.inj z))]
  refine iteF ?_
  refine ⟨_, rfl, rfl, _, rfl, ?_⟩
  by_cases h24 : k = 24
  · rw [decide_eq_true (congrArg V.int h24)]
    exact iteT ⟨_, rfl, _, _, rfl, hR⟩
  rw [decide_eq_false (fun z => h24 (V.int.inj z))]
  refine iteF ?_
  refine ⟨_, rfl, rfl, _, rfl, ?_⟩
  by_cases h25 : k = 25
  · rw [decide_eq_true (congrArg V.int h25)]
    exact iteT ⟨_, rfl, _, _, rfl, hR⟩
  rw [decide_eq_false (fun z => h25 (V.int.inj z))]
  refine iteF ?_
  refine ⟨_, rfl, rfl, _, rfl, ?_⟩
  by_cases h26 : k = 26
  · rw [decide_eq_true (congrArg V.int h26)]
    exact iteT ⟨_, rfl, _, _, rfl, hR⟩
  rw [decide_eq_false (fun z => h26 (V.int.inj z))]
  refine iteF ?_
  refine ⟨_, rfl, rfl, _, rfl, ?_⟩
  by_cases h27 : k = 27
  · rw [decide_eq_true (congrArg V.int h27)]
    exact iteT ⟨_, rfl, _, _, rfl, hR⟩
  rw [decide_eq_false (fun z => h27 (V.int.inj z))]
  refine iteF ?_
  refine ⟨_, rfl, rfl, _, rfl, ?_⟩
  by_cases h28 : k = 28
  · rw [decide_eq_true (congrArg V.int h28)]
    exact iteT ⟨_, rfl, _, _, _, rfl, hR⟩
  rw [decide_eq_false (fun z => h28 (V.int.inj z))]
  refine iteF ?_
  omega
theorem F_separate (c : Md fa fns ex P w K mg base) : FunDD K dd_separate := c.def_ 1 33 rfl rfl
theorem S_separate : FnScope ["included", "excluded", "inside", "outside"] ["included", "excluded"] (defScope s_separate) := ⟨rfl, rfl, rfl, by decide +kernel, rfl, by decide +kernel, by decide +kernel⟩
def sp_separate (K : PySem.W.Frag) : Sp := Sp2 fun a b H _ E => Rg2 K a b H E
theorem ok_separate (c : Md fa fns ex P w K mg base) : FnG P w K mg base 5 (He.fAd K ("separate", none)) (fdAt K (He.fAd K ("separate", none))) ["included", "excluded"] (sp_separate K) := by
  refine fnG_of (F_separate c) S_separate (len_2) (fun cdv A outer s H vs Q E hr h => ⟨_, (pss_cons (ps_par (i := 2) (j := 3) rfl S_separate.nd rfl rfl (by decide) rfl rfl (pa_cons (gcall (ok_reduced_generators c) (hr.mono (by decide)) rfl (c.glo 10 rfl) (F_reduced_generators c).kp (Bd_reduced_generators_1 c) (Dv_reduced_generators_1 c) (pxB (takes_of rfl rfl rfl rfl)) (pa_cons (pv 0) pa_nil)) (pa_cons (gcall (ok_reduced_generators c) (hr.mono (by decide)) rfl (c.glo 10 rfl) (F_reduced_generators c).kp (Bd_reduced_generators_1 c) (Dv_reduced_generators_1 c) (pxB (takes_of rfl rfl rfl rfl)) (pa_cons (pv 1) pa_nil)) pa_nil)) rfl)
    pss_never), ?_⟩)
  obtain ⟨a, b, rfl, o, hv, o2, hu, hq⟩ := h
  exact ⟨_, rfl, _, rfl, o, hv, hq.imp fun ps k l H1 sm nl hl => ⟨_, rfl, _, rfl, o2, hu.same sm, (k.at sm).no⟩⟩
theorem F_check_separation (c : Md fa fns ex P w K mg base) : FunDD K dd_check_separation := c.def_ 1 35 rfl rfl
theorem S_check_separation : FnScope ["included", "excluded", "graph", "inside", "outside"] ["included", "excluded", "graph"] (defScope s_check_separation) := ⟨rfl, rfl, rfl, by decide +kernel, rfl, by decide +kernel, by decide +kernel⟩
def sp_check_separation (K : PySem.W.Frag) : Sp := Sp3 fun a b _ H _ E => Rg2 K a b H E
theorem ok_check_separation (c : Md fa fns ex P w K mg base) : FnG P w K mg base 5 (He.fAd K ("check_separation", none)) (fdAt K (He.fAd K ("check_separation", none))) ["included", "excluded", "graph"] (sp_check_separation K) := by
  refine fnG_of (F_check_separation c) S_check_separation (len_3) (fun cdv A outer s H vs Q E hr h => ⟨_, (pss_cons (ps_par (i := 3) (j := 4) rfl S_check_separation.nd rfl rfl (by decide) rfl rfl (pa_cons (gcall (ok_reduced_generators c) (hr.mono (by decide)) rfl (c.glo 10 rfl) (F_reduced_generators c).kp (Bd_reduced_generators_1 c) (Dv_reduced_generators_1 c) (pxB (takes_of rfl rfl rfl rfl)) (pa_cons (pv 0) pa_nil)) (pa_cons (gcall (ok_reduced_generators c) (hr.mono (by decide)) rfl (c.glo 10 rfl) (F_reduced_generators c).kp (Bd_reduced_generators_1 c) (Dv_reduced_generators_1 c) (pxB (takes_of rfl rfl rfl rfl)) (pa_cons (pv 1) pa_nil)) pa_nil)) rfl)
    pss_never), ?_⟩)
  obtain ⟨a, b, c, rfl, o, hv, o2, hu, hq⟩ := h
  exact ⟨_, rfl, _, rfl, o, hv, hq.imp fun ps k l H1 sm nl hl => ⟨_, rfl, _, rfl, o2, hu.same sm, (k.at sm).no⟩⟩
theorem F_reduced_problem (c : Md fa fns ex P w K mg base) : FunDD K dd_reduced_problem := c.def_ 1 36 rfl rfl
theorem S_reduced_problem : FnScope ["included", "excluded", "path", "inside", "outside"] ["included", "excluded", "path"] (defScope s_reduced_problem) := ⟨rfl, rfl, rfl, by decide +kernel, rfl, by decide +kernel, by decide +kernel⟩
def sp_reduced_problem (K : PySem.W.Frag) : Sp := Sp3 fun a b _ H _ E => Rg2 K a b H E
theorem ok_reduced_problem (c : Md fa fns ex P w K mg base) : FnG P w K mg base 5 (He.fAd K ("reduced_problem", none)) (fdAt K (He.fAd K ("reduced_problem", none))) ["included", "excluded", "path"] (sp_reduced_problem K) := by
  refine fnG_of (F_reduced_problem c) S_reduced_problem (len_3) (fun cdv A outer s H vs Q E hr h => ⟨_, (pss_cons (ps_par (i := 3) (j := 4) rfl S_reduced_problem.nd rfl rfl (by decide) rfl rfl (pa_cons (gcall (ok_reduced_generators c) (hr.mono (by decide)) rfl (c.glo 10 rfl) (F_reduced_generators c).kp (Bd_reduced_generators_1 c) (Dv_reduced_generators_1 c) (pxB (takes_of rfl rfl rfl rfl)) (pa_cons (pv 0) pa_nil)) (pa_cons (gcall (ok_reduced_generators c) (hr.mono (by decide)) rfl (c.glo 10 rfl) (F_reduced_generators c).kp (Bd_reduced_generators_1 c) (Dv_reduced_generators_1 c) (pxB (takes_of rfl rfl rfl rfl)) (pa_cons (pv 1) pa_nil)) pa_nil)) rfl)
    pss_never), ?_⟩)
  obtain ⟨a, b, c, rfl, o, hv, o2, hu, hq⟩ := h
  exact ⟨_, rfl, _, rfl, o, hv, hq.imp fun ps k l H1 sm nl hl => ⟨_, rfl, _, rfl, o2, hu.same sm, (k.at sm).no⟩⟩
theorem Bd_reduced_problem_3 (c : Md fa fns ex P w K mg base) : Binds K (fdAt K (He.fAd K ("reduced_problem", none))) ["included", "excluded", "path"] [] := (F_reduced_problem c).bindsN fun _ _ _ _ _ _ us hl => match us, hl with | [_, _, _], _ => rfl
theorem Dv_reduced_problem_3 (c : Md fa fns ex P w K mg base) : Vals [] [] := .nil
theorem F_classify (c : Md fa fns ex P w K mg base) : FunDD K dd_classify := c.def_ 1 37 rfl rfl
theorem S_classify : FnScope ["included", "excluded", "path", "inside", "outside", "goal", "derivation", "found"] ["included", "excluded", "path"] (defScope s_classify) := ⟨rfl, rfl, rfl, by decide +kernel, rfl, by decide +kernel, by decide +kernel⟩
def sp_classify (K : PySem.W.Frag) : Sp := Sp3 fun a b _ H _ E => Rg2 K a b H E
theorem ok_classify (c : Md fa fns ex P w K mg base) : FnG P w K mg base 6 (He.fAd K ("classify", none)) (fdAt K (He.fAd K ("classify", none))) ["included", "excluded", "path"] (sp_classify K) := by
  refine fnG_of (F_classify c) S_classify (len_3) (fun cdv A outer s H vs Q E hr h => ⟨_, (pss_cons (ps_asg (gcall (ok_reduced_problem c) (hr.mono (by decide)) rfl (c.glo 48 rfl) (F_reduced_problem c).kp (Bd_reduced_problem_3 c) (Dv_reduced_problem_3 c) (pxB (takes_of rfl rfl rfl rfl)) (pa_cons (pv 0) (pa_cons (pv 1) (pa_cons (pv 2) pa_nil)))) (pg_tup rfl (pgs_cons (pg_name (i := 3) S_classify.nd rfl (Or.inl rfl)) (pgs_cons (pg_name (i := 4) S_classify.nd rfl (Or.inl rfl)) (pgs_cons (pg_name (i := 5) S_classify.nd rfl (Or.inl rfl)) pgs_nil)))))
    pss_never), ?_⟩)
  obtain ⟨a, b, c, rfl, hq⟩ := h
  exact ⟨_, rfl, _, rfl, _, rfl, _, _, _, rfl, hq⟩
theorem F_check_classification (c : Md fa fns ex P w K mg base) : FunDD K dd_check_classification := c.def_ 1 38 rfl rfl
theorem S_check_classification : FnScope ["included", "excluded", "path", "result", "inside", "outside", "goal", "word", "details", "first", "second"] ["included", "excluded", "path", "result"] (defScope s_check_classification) := ⟨rfl, rfl, rfl, by decide +kernel, rfl, by decide +kernel, by decide +kernel⟩
def sp_check_classification (K : PySem.W.Frag) : Sp := Sp4 fun a b _ _ H _ E => Rg2 K a b H E
theorem ok_check_classification (c : Md fa fns ex P w K mg base) : FnG P w K mg base 6 (He.fAd K ("check_classification", none)) (fdAt K (He.fAd K ("check_classification", none))) ["included", "excluded", "path", "result"] (sp_check_classification K) := by
  refine fnG_of (F_check_classification c) S_check_classification (len_4) (fun cdv A outer s H vs Q E hr h => ⟨_, (pss_cons (ps_asg (gcall (ok_reduced_problem c) (hr.mono (by decide)) rfl (c.glo 48 rfl) (F_reduced_problem c).kp (Bd_reduced_problem_3 c) (Dv_reduced_problem_3 c) (pxB (takes_of rfl rfl rfl rfl)) (pa_cons (pv 0) (pa_cons (pv 1) (pa_cons (pv 2) pa_nil)))) (pg_tup rfl (pgs_cons (pg_name (i := 4) S_check_classification.nd rfl (Or.inl rfl)) (pgs_cons (pg_name (i := 5) S_check_classification.nd rfl (Or.inl rfl)) (pgs_cons (pg_name (i := 6) S_check_classification.nd rfl (Or.inl rfl)) pgs_nil)))))
    pss_never), ?_⟩)
  obtain ⟨a, b, c, d, rfl, hq⟩ := h
  exact ⟨_, rfl, _, rfl, _, rfl, _, _, _, rfl, hq⟩
theorem F_equivalent (c : Md fa fns ex P w K mg base) : FunDD K dd_equivalent := c.def_ 1 48 rfl rfl
theorem S_equivalent : FnScope ["first", "second", "left", "right"] ["first", "second"] (defScope s_equivalent) := ⟨rfl, rfl, rfl, by decide +kernel, rfl, by decide +kernel, by decide +kernel⟩
def sp_equivalent (K : PySem.W.Frag) : Sp := Sp2 fun a b H _ E => Rg2 K a b H E
theorem ok_equivalent (c : Md fa fns ex P w K mg base) : FnG P w K mg base 5 (He.fAd K ("equivalent", none)) (fdAt K (He.fAd K ("equivalent", none))) ["first", "second"] (sp_equivalent K) := by
  refine fnG_of (F_equivalent c) S_equivalent (len_2) (fun cdv A outer s H vs Q E hr h => ⟨_, (pss_cons (ps_par (i := 2) (j := 3) rfl S_equivalent.nd rfl rfl (by decide) rfl rfl (pa_cons (gcall (ok_reduced_generators c) (hr.mono (by decide)) rfl (c.glo 10 rfl) (F_reduced_generators c).kp (Bd_reduced_generators_1 c) (Dv_reduced_generators_1 c) (pxB (takes_of rfl rfl rfl rfl)) (pa_cons (pv 0) pa_nil)) (pa_cons (gcall (ok_reduced_generators c) (hr.mono (by decide)) rfl (c.glo 10 rfl) (F_reduced_generators c).kp (Bd_reduced_generators_1 c) (Dv_reduced_generators_1 c) (pxB (takes_of rfl rfl rfl rfl)) (pa_cons (pv 1) pa_nil)) pa_nil)) rfl)
    pss_never), ?_⟩)
  obtain ⟨a, b, rfl, o, hv, o2, hu, hq⟩ := h
  exact ⟨_, rfl, _, rfl, o, hv, hq.imp fun ps k l H1 sm nl hl => ⟨_, rfl, _, rfl, o2, hu.same sm, (k.at sm).no⟩⟩
theorem F_compare (c : Md fa fns ex P w K mg base) : FunDD K dd_compare := c.def_ 1 49 rfl rfl
theorem S_compare : FnScope ["first", "second", "left", "right", "index"] ["first", "second"] (defScope s_compare) := ⟨rfl, rfl, rfl, by decide +kernel, rfl, by decide +kernel, by decide +kernel⟩
def sp_compare (K : PySem.W.Frag) : Sp := Sp2 fun a b H _ E => Rg2 K a b H E
theorem ok_compare (c : Md fa fns ex P w K mg base) : FnG P w K mg base 5 (He.fAd K ("compare", none)) (fdAt K (He.fAd K ("compare", none))) ["first", "second"] (sp_compare K) := by
  refine fnG_of (F_compare c) S_compare (len_2) (fun cdv A outer s H vs Q E hr h => ⟨_, (pss_cons (ps_par (i := 2) (j := 3) rfl S_compare.nd rfl rfl (by decide) rfl rfl (pa_cons (gcall (ok_reduced_generators c) (hr.mono (by decide)) rfl (c.glo 10 rfl) (F_reduced_generators c).kp (Bd_reduced_generators_1 c) (Dv_reduced_generators_1 c) (pxB (takes_of rfl rfl rfl rfl)) (pa_cons (pv 0) pa_nil)) (pa_cons (gcall (ok_reduced_generators c) (hr.mono (by decide)) rfl (c.glo 10 rfl) (F_reduced_generators c).kp (Bd_reduced_generators_1 c) (Dv_reduced_generators_1 c) (pxB (takes_of rfl rfl rfl rfl)) (pa_cons (pv 1) pa_nil)) pa_nil)) rfl)
    pss_never), ?_⟩)
  obtain ⟨a, b, rfl, o, hv, o2, hu, hq⟩ := h
  exact ⟨_, rfl, _, rfl, o, hv, hq.imp fun ps k l H1 sm nl hl => ⟨_, rfl, _, rfl, o2, hu.same sm, (k.at sm).no⟩⟩
theorem F_check_comparison (c : Md fa fns ex P w K mg base) : FunDD K dd_check_comparison := c.def_ 1 52 rfl rfl
theorem S_check_comparison : FnScope ["first", "second", "result", "left", "right", "word", "one", "other"] ["first", "second", "result"] (defScope s_check_comparison) := ⟨rfl, rfl, rfl, by decide +kernel, rfl, by decide +kernel, by decide +kernel⟩
def sp_check_comparison (K : PySem.W.Frag) : Sp := Sp3 fun a b _ H _ E => Rg2 K a b H E
theorem ok_check_comparison (c : Md fa fns ex P w K mg base) : FnG P w K mg base 5 (He.fAd K ("check_comparison", none)) (fdAt K (He.fAd K ("check_comparison", none))) ["first", "second", "result"] (sp_check_comparison K) := by
  refine fnG_of (F_check_comparison c) S_check_comparison (len_3) (fun cdv A outer s H vs Q E hr h => ⟨_, (pss_cons (ps_par (i := 3) (j := 4) rfl S_check_comparison.nd rfl rfl (by decide) rfl rfl (pa_cons (gcall (ok_reduced_generators c) (hr.mono (by decide)) rfl (c.glo 10 rfl) (F_reduced_generators c).kp (Bd_reduced_generators_1 c) (Dv_reduced_generators_1 c) (pxB (takes_of rfl rfl rfl rfl)) (pa_cons (pv 0) pa_nil)) (pa_cons (gcall (ok_reduced_generators c) (hr.mono (by decide)) rfl (c.glo 10 rfl) (F_reduced_generators c).kp (Bd_reduced_generators_1 c) (Dv_reduced_generators_1 c) (pxB (takes_of rfl rfl rfl rfl)) (pa_cons (pv 1) pa_nil)) pa_nil)) rfl)
    pss_never), ?_⟩)
  obtain ⟨a, b, c, rfl, o, hv, o2, hu, hq⟩ := h
  exact ⟨_, rfl, _, rfl, o, hv, hq.imp fun ps k l H1 sm nl hl => ⟨_, rfl, _, rfl, o2, hu.same sm, (k.at sm).no⟩⟩
theorem F_reduced_short_list (c : Md fa fns ex P w K mg base) : FunDD K dd_reduced_short_list := c.def_ 1 56 rfl rfl
theorem S_reduced_short_list : FnScope ["generators", "paths", "left", "right", "graph", "size"] ["generators", "paths"] (defScope s_reduced_short_list) := ⟨rfl, rfl, rfl, by decide +kernel, rfl, by decide +kernel, by decide +kernel⟩
def sp_reduced_short_list (K : PySem.W.Frag) : Sp := Sp2 fun a b H _ E => Rg2 K a b H E
theorem ok_reduced_short_list (c : Md fa fns ex P w K mg base) : FnG P w K mg base 5 (He.fAd K ("reduced_short_list", none)) (fdAt K (He.fAd K ("reduced_short_list", none))) ["generators", "paths"] (sp_reduced_short_list K) := by
  refine fnG_of (F_reduced_short_list c) S_reduced_short_list (len_2) (fun cdv A outer s H vs Q E hr h => ⟨_, (pss_cons (ps_par (i := 2) (j := 3) rfl S_reduced_short_list.nd rfl rfl (by decide) rfl rfl (pa_cons (gcall (ok_reduced_generators c) (hr.mono (by decide)) rfl (c.glo 10 rfl) (F_reduced_generators c).kp (Bd_reduced_generators_1 c) (Dv_reduced_generators_1 c) (pxB (takes_of rfl rfl rfl rfl)) (pa_cons (pv 0) pa_nil)) (pa_cons (gcall (ok_reduced_generators c) (hr.mono (by decide)) rfl (c.glo 10 rfl) (F_reduced_generators c).kp (Bd_reduced_generators_1 c) (Dv_reduced_generators_1 c) (pxB (takes_of rfl rfl rfl rfl)) (pa_cons (pv 1) pa_nil)) pa_nil)) rfl)
    pss_never), ?_⟩)
  obtain ⟨a, b, rfl, o, hv, o2, hu, hq⟩ := h
  exact ⟨_, rfl, _, rfl, o, hv, hq.imp fun ps k l H1 sm nl hl => ⟨_, rfl, _, rfl, o2, hu.same sm, (k.at sm).no⟩⟩
theorem Bd_reduced_short_list_2 (c : Md fa fns ex P w K mg base) : Binds K (fdAt K (He.fAd K ("reduced_short_list", none))) ["generators", "paths"] [] := (F_reduced_short_list c).bindsN fun _ _ _ _ _ _ us hl => match us, hl with | [_, _], _ => rfl
theorem Dv_reduced_short_list_2 (c : Md fa fns ex P w K mg base) : Vals [] [] := .nil
theorem F_deficiency (c : Md fa fns ex P w K mg base) : FunDD K dd_deficiency := c.def_ 1 57 rfl rfl
theorem S_deficiency : FnScope ["generators", "paths", "left", "right", "graph", "size", "index", "path"] ["generators", "paths"] (defScope s_deficiency) := ⟨rfl, rfl, rfl, by decide +kernel, rfl, by decide +kernel, by decide +kernel⟩
def sp_deficiency (K : PySem.W.Frag) : Sp := Sp2 fun a b H _ E => Rg2 K a b H E
theorem ok_deficiency (c : Md fa fns ex P w K mg base) : FnG P w K mg base 6 (He.fAd K ("deficiency", none)) (fdAt K (He.fAd K ("deficiency", none))) ["generators", "paths"] (sp_deficiency K) := by
  refine fnG_of (F_deficiency c) S_deficiency (len_2) (fun cdv A outer s H vs Q E hr h => ⟨_, (pss_cons (ps_asg (gcall (ok_reduced_short_list c) (hr.mono (by decide)) rfl (c.glo 68 rfl) (F_reduced_short_list c).kp (Bd_reduced_short_list_2 c) (Dv_reduced_short_list_2 c) (pxB (takes_of rfl rfl rfl rfl)) (pa_cons (pv 0) (pa_cons (pv 1) pa_nil))) (pg_tup rfl (pgs_cons (pg_name (i := 2) S_deficiency.nd rfl (Or.inl rfl)) (pgs_cons (pg_name (i := 3) S_deficiency.nd rfl (Or.inl rfl)) (pgs_cons (pg_name (i := 4) S_deficiency.nd rfl (Or.inr rfl)) (pgs_cons (pg_name (i := 5) S_deficiency.nd rfl (Or.inl rfl)) pgs_nil))))))
    pss_never), ?_⟩)
  obtain ⟨a, b, rfl, hq⟩ := h
  exact ⟨_, rfl, _, rfl, _, _, rfl, hq⟩
theorem F_check_deficiency (c : Md fa fns ex P w K mg base) : FunDD K dd_check_deficiency := c.def_ 1 59 rfl rfl
theorem S_check_deficiency : FnScope ["generators", "paths", "result", "left", "right", "graph", "size", "word", "details", "path", "count", "mark"] ["generators", "paths", "result"] (defScope s_check_deficiency) := ⟨rfl, rfl, rfl, by decide +kernel, rfl, by decide +kernel, by decide +kernel⟩
def sp_check_deficiency (K : PySem.W.Frag) : Sp := Sp3 fun a b _ H _ E => Rg2 K a b H E
theorem ok_check_deficiency (c : Md fa fns ex P w K mg base) : FnG P w K mg base 6 (He.fAd K ("check_deficiency", none)) (fdAt K (He.fAd K ("check_deficiency", none))) ["generators", "paths", "result"] (sp_check_deficiency K) := by
  refine fnG_of (F_check_deficiency c) S_check_deficiency (len_3) (fun cdv A outer s H vs Q E hr h => ⟨_, (pss_cons (ps_asg (gcall (ok_reduced_short_list c) (hr.mono (by decide)) rfl (c.glo 68 rfl) (F_reduced_short_list c).kp (Bd_reduced_short_list_2 c) (Dv_reduced_short_list_2 c) (pxB (takes_of rfl rfl rfl rfl)) (pa_cons (pv 0) (pa_cons (pv 1) pa_nil))) (pg_tup rfl (pgs_cons (pg_name (i := 3) S_check_deficiency.nd rfl (Or.inl rfl)) (pgs_cons (pg_name (i := 4) S_check_deficiency.nd rfl (Or.inl rfl)) (pgs_cons (pg_name (i := 5) S_check_deficiency.nd rfl (Or.inl rfl)) (pgs_cons (pg_name (i := 6) S_check_deficiency.nd rfl (Or.inl rfl)) pgs_nil))))))
    pss_never), ?_⟩)
  obtain ⟨a, b, c, rfl, hq⟩ := h
  exact ⟨_, rfl, _, rfl, _, _, rfl, hq⟩
theorem F_intersection (c : Md fa fns ex P w K mg base) : FunDD K dd_intersection := c.def_ 2 3 rfl rfl
theorem S_intersection : FnScope ["first", "second", "left", "right", "one", "other"] ["first", "second"] (defScope s_intersection) := ⟨rfl, rfl, rfl, by decide +kernel, rfl, by decide +kernel, by decide +kernel⟩
def sp_intersection (K : PySem.W.Frag) : Sp := Sp2 fun a b H _ E => Rg2 K a b H E
theorem ok_intersection (c : Md fa fns ex P w K mg base) : FnG P w K mg base 5 (He.fAd K ("intersection", none)) (fdAt K (He.fAd K ("intersection", none))) ["first", "second"] (sp_intersection K) := by
  refine fnG_of (F_intersection c) S_intersection (len_2) (fun cdv A outer s H vs Q E hr h => ⟨_, (pss_cons (ps_par (i := 2) (j := 3) rfl S_intersection.nd rfl rfl (by decide) rfl rfl (pa_cons (gcall (ok_reduced_generators c) (hr.mono (by decide)) rfl (c.glo 10 rfl) (F_reduced_generators c).kp (Bd_reduced_generators_1 c) (Dv_reduced_generators_1 c) (pxB (takes_of rfl rfl rfl rfl)) (pa_cons (pv 0) pa_nil)) (pa_cons (gcall (ok_reduced_generators c) (hr.mono (by decide)) rfl (c.glo 10 rfl) (F_reduced_generators c).kp (Bd_reduced_generators_1 c) (Dv_reduced_generators_1 c) (pxB (takes_of rfl rfl rfl rfl)) (pa_cons (pv 1) pa_nil)) pa_nil)) rfl)
    pss_never), ?_⟩)
  obtain ⟨a, b, rfl, o, hv, o2, hu, hq⟩ := h
  exact ⟨_, rfl, _, rfl, o, hv, hq.imp fun ps k l H1 sm nl hl => ⟨_, rfl, _, rfl, o2, hu.same sm, (k.at sm).no⟩⟩
theorem F_join (c : Md fa fns ex P w K mg base) : FunDD K dd_join := c.def_ 2 4 rfl rfl
theorem S_join : FnScope ["first", "second", "left", "right"] ["first", "second"] (defScope s_join) := ⟨rfl, rfl, rfl, by decide +kernel, rfl, by decide +kernel, by decide +kernel⟩
def sp_join (K : PySem.W.Frag) : Sp := Sp2 fun a b H _ E => Rg2 K a b H E
theorem ok_join (c : Md fa fns ex P w K mg base) : FnG P w K mg base 5 (He.fAd K ("join", none)) (fdAt K (He.fAd K ("join", none))) ["first", "second"] (sp_join K) := by
  refine fnG_of (F_join c) S_join (len_2) (fun cdv A outer s H vs Q E hr h => ⟨_, (pss_cons (ps_par (i := 2) (j := 3) rfl S_join.nd rfl rfl (by decide) rfl rfl (pa_cons (gcall (ok_reduced_generators c) (hr.mono (by decide)) rfl (c.glo 10 rfl) (F_reduced_generators c).kp (Bd_reduced_generators_1 c) (Dv_reduced_generators_1 c) (pxB (takes_of rfl rfl rfl rfl)) (pa_cons (pv 0) pa_nil)) (pa_cons (gcall (ok_reduced_generators c) (hr.mono (by decide)) rfl (c.glo 10 rfl) (F_reduced_generators c).kp (Bd_reduced_generators_1 c) (Dv_reduced_generators_1 c) (pxB (takes_of rfl rfl rfl rfl)) (pa_cons (pv 1) pa_nil)) pa_nil)) rfl)
    pss_never), ?_⟩)
  obtain ⟨a, b, rfl, o, hv, o2, hu, hq⟩ := h
  exact ⟨_, rfl, _, rfl, o, hv, hq.imp fun ps k l H1 sm nl hl => ⟨_, rfl, _, rfl, o2, hu.same sm, (k.at sm).no⟩⟩
theorem F_conjugator (c : Md fa fns ex P w K mg base) : FunDD K dd_conjugator := c.def_ 2 9 rfl rfl
theorem S_conjugator : FnScope ["first", "second", "left", "right", "prefix", "core", "other_prefix", "other_core", "representatives", "tree", "node"] ["first", "second"] (defScope s_conjugator) := ⟨rfl, rfl, rfl, by decide +kernel, rfl, by decide +kernel, by decide +kernel⟩
def sp_conjugator (K : PySem.W.Frag) : Sp := Sp2 fun a b H _ E => Rg2 K a b H E
theorem ok_conjugator (c : Md fa fns ex P w K mg base) : FnG P w K mg base 5 (He.fAd K ("conjugator", none)) (fdAt K (He.fAd K ("conjugator", none))) ["first", "second"] (sp_conjugator K) := by
  refine fnG_of (F_conjugator c) S_conjugator (len_2) (fun cdv A outer s H vs Q E hr h => ⟨_, (pss_cons (ps_par (i := 2) (j := 3) rfl S_conjugator.nd rfl rfl (by decide) rfl rfl (pa_cons (gcall (ok_reduced_generators c) (hr.mono (by decide)) rfl (c.glo 10 rfl) (F_reduced_generators c).kp (Bd_reduced_generators_1 c) (Dv_reduced_generators_1 c) (pxB (takes_of rfl rfl rfl rfl)) (pa_cons (pv 0) pa_nil)) (pa_cons (gcall (ok_reduced_generators c) (hr.mono (by decide)) rfl (c.glo 10 rfl) (F_reduced_generators c).kp (Bd_reduced_generators_1 c) (Dv_reduced_generators_1 c) (pxB (takes_of rfl rfl rfl rfl)) (pa_cons (pv 1) pa_nil)) pa_nil)) rfl)
    pss_never), ?_⟩)
  obtain ⟨a, b, rfl, o, hv, o2, hu, hq⟩ := h
  exact ⟨_, rfl, _, rfl, o, hv, hq.imp fun ps k l H1 sm nl hl => ⟨_, rfl, _, rfl, o2, hu.same sm, (k.at sm).no⟩⟩
theorem F_check_conjugator (c : Md fa fns ex P w K mg base) : FunDD K dd_check_conjugator := c.def_ 2 10 rfl rfl
theorem S_check_conjugator : FnScope ["first", "second", "path", "left", "right"] ["first", "second", "path"] (defScope s_check_conjugator) := ⟨rfl, rfl, rfl, by decide +kernel, rfl, by decide +kernel, by decide +kernel⟩
def sp_check_conjugator (K : PySem.W.Frag) : Sp := Sp3 fun a b _ H _ E => Rg2 K a b H E
theorem ok_check_conjugator (c : Md fa fns ex P w K mg base) : FnG P w K mg base 5 (He.fAd K ("check_conjugator", none)) (fdAt K (He.fAd K ("check_conjugator", none))) ["first", "second", "path"] (sp_check_conjugator K) := by
  refine fnG_of (F_check_conjugator c) S_check_conjugator (len_3) (fun cdv A outer s H vs Q E hr h => ⟨_, (pss_cons (ps_par (i := 3) (j := 4) rfl S_check_conjugator.nd rfl rfl (by decide) rfl rfl (pa_cons (gcall (ok_reduced_generators c) (hr.mono (by decide)) rfl (c.glo 10 rfl) (F_reduced_generators c).kp (Bd_reduced_generators_1 c) (Dv_reduced_generators_1 c) (pxB (takes_of rfl rfl rfl rfl)) (pa_cons (pv 0) pa_nil)) (pa_cons (gcall (ok_reduced_generators c) (hr.mono (by decide)) rfl (c.glo 10 rfl) (F_reduced_generators c).kp (Bd_reduced_generators_1 c) (Dv_reduced_generators_1 c) (pxB (takes_of rfl rfl rfl rfl)) (pa_cons (pv 1) pa_nil)) pa_nil)) rfl)
    pss_never), ?_⟩)
  obtain ⟨a, b, c, rfl, o, hv, o2, hu, hq⟩ := h
  exact ⟨_, rfl, _, rfl, o, hv, hq.imp fun ps k l H1 sm nl hl => ⟨_, rfl, _, rfl, o2, hu.same sm, (k.at sm).no⟩⟩
theorem F_count_models (c : Md fa fns ex P w K mg base) : FunDD K dd_count_models := c.def_ 2 34 rfl rfl
theorem S_count_models : FnScope ["size", "included", "excluded", "inside", "outside"] ["size", "included", "excluded"] (defScope s_count_models) := ⟨rfl, rfl, rfl, by decide +kernel, rfl, by decide +kernel, by decide +kernel⟩
def sp_count_models (K : PySem.W.Frag) : Sp := Sp3 fun a b c H _ E => a = .int 1 ∧ Rg2 K b c H E
theorem ok_count_models (c : Md fa fns ex P w K mg base) : FnG P w K mg base 5 (He.fAd K ("count_models", none)) (fdAt K (He.fAd K ("count_models", none))) ["size", "included", "excluded"] (sp_count_models K) := by
  refine fnG_of (F_count_models c) S_count_models (len_3) (fun cdv A outer s H vs Q E hr h => ⟨_, (pss_cons (ps_if (PW.pt (pw_or (pt_not (pt_val (gcall (ok_is_integer c) (hr.mono (by decide)) rfl (c.glo 1 rfl) (F_is_integer c).kp (Bd_is_integer_1 c) (Dv_is_integer_1 c) pxN (pa_cons (pv 0) pa_nil)))) (pw_or1 (pt_not (pt_chain op_le op_le pe_int (pv 0) (pe_gint rfl (He.int_ok c.X c.G (c.fact 227 rfl)))))))) (pss_one (ps_raise1 (k := 0) rfl bbV (TI_InvalidNumber c) (hr.mono (by decide)) (takes_of rfl rfl rfl rfl) rfl (pa_cons (pv 0) pa_nil))) pss_nil)
    (pss_cons (ps_par (i := 3) (j := 4) rfl S_count_models.nd rfl rfl (by decide) rfl rfl (pa_cons (gcall (ok_reduced_generators c) (hr.mono (by decide)) rfl (c.glo 10 rfl) (F_reduced_generators c).kp (Bd_reduced_generators_1 c) (Dv_reduced_generators_1 c) (pxB (takes_of rfl rfl rfl rfl)) (pa_cons (pv 1) pa_nil)) (pa_cons (gcall (ok_reduced_generators c) (hr.mono (by decide)) rfl (c.glo 10 rfl) (F_reduced_generators c).kp (Bd_reduced_generators_1 c) (Dv_reduced_generators_1 c) (pxB (takes_of rfl rfl rfl rfl)) (pa_cons (pv 2) pa_nil)) pa_nil)) rfl)
    pss_never)), ?_⟩)
  obtain ⟨a, b, d, rfl, rfl, o, hv, o2, hu, hq⟩ := h
  have i1 : isa "int" "int" = true := by decide +kernel
  have i2 : isa "int" "bool" = false := by decide +kernel
  refine ⟨_, rfl, _, rfl, "int", .int 1, ?_⟩
  rw [i1, i2]
  exact ⟨_, rfl, iteF ⟨_, rfl, _, _, rfl, rfl, _, rfl, iteT ⟨_, _, rfl, rfl, _, rfl, iteF ⟨_, rfl, _, rfl, o, hv, hq.imp fun ps k l H1 sm nl hl => ⟨_, rfl, _, rfl, o2, hu.same sm, (k.at sm).no⟩⟩⟩⟩⟩
theorem Bd_separate_2 (c : Md fa fns ex P w K mg base) : Binds K (fdAt K (He.fAd K ("separate", none))) ["included", "excluded"] [] := (F_separate c).bindsN fun _ _ _ _ _ _ us hl => match us, hl with | [_, _], _ => rfl
theorem Dv_separate_2 (c : Md fa fns ex P w K mg base) : Vals [] [] := .nil
theorem Bd_check_separation_3 (c : Md fa fns ex P w K mg base) : Binds K (fdAt K (He.fAd K ("check_separation", none))) ["included", "excluded", "graph"] [] := (F_check_separation c).bindsN fun _ _ _ _ _ _ us hl => match us, hl with | [_, _, _], _ => rfl
theorem Dv_check_separation_3 (c : Md fa fns ex P w K mg base) : Vals [] [] := .nil
theorem Bd_check_conjugator_3 (c : Md fa fns ex P w K mg base) : Binds K (fdAt K (He.fAd K ("check_conjugator", none))) ["first", "second", "path"] [] := (F_check_conjugator c).bindsN fun _ _ _ _ _ _ us hl => match us, hl with | [_, _, _], _ => rfl
theorem Dv_check_conjugator_3 (c : Md fa fns ex P w K mg base) : Vals [] [] := .nil
theorem Bd_deficiency_2 (c : Md fa fns ex P w K mg base) : Binds K (fdAt K (He.fAd K ("deficiency", none))) ["generators", "paths"] [] := (F_deficiency c).bindsN fun _ _ _ _ _ _ us hl => match us, hl with | [_, _], _ => rfl
theorem Dv_deficiency_2 (c : Md fa fns ex P w K mg base) : Vals [] [] := .nil
theorem Bd_compare_2 (c : Md fa fns ex P w K mg base) : Binds K (fdAt K (He.fAd K ("compare", none))) ["first", "second"] [] := (F_compare c).bindsN fun _ _ _ _ _ _ us hl => match us, hl with | [_, _], _ => rfl
theorem Dv_compare_2 (c : Md fa fns ex P w K mg base) : Vals [] [] := .nil
theorem Bd_check_comparison_3 (c : Md fa fns ex P w K mg base) : Binds K (fdAt K (He.fAd K ("check_comparison", none))) ["first", "second", "result"] [] := (F_check_comparison c).bindsN fun _ _ _ _ _ _ us hl => match us, hl with | [_, _, _], _ => rfl
theorem Dv_check_comparison_3 (c : Md fa fns ex P w K mg base) : Vals [] [] := .nil
theorem Bd_classify_3 (c : Md fa fns ex P w K mg base) : Binds K (fdAt K (He.fAd K ("classify", none))) ["included", "excluded", "path"] [] := (F_classify c).bindsN fun _ _ _ _ _ _ us hl => match us, hl with | [_, _, _], _ => rfl
theorem Dv_classify_3 (c : Md fa fns ex P w K mg base) : Vals [] [] := .nil
theorem BKX_count_models_2_excluded (c : Md fa fns ex P w K mg base) : ∃ mv : List Value, KBn K (fdAt K (He.fAd K ("count_models", none))) ["size", "included", "excluded"] 2 ["excluded"] (fun us ws => us ++ ws) (fun vs zs => vs ++ zs) := by
  obtain ⟨mv, h⟩ := (F_count_models c).kbinds0 (ps := ["size", "included", "excluded"]) 2 ["excluded"] [] (fun us _ ws => us ++ ws) (List.cons_ne_nil _ _) (fun _ z => (List.not_mem_nil z).elim) (fun a _ b => a.append b) (fun D doc pm an cdv ct us mv ws h1 h2 h3 => match us, mv, ws, h1, h2, h3 with | [_, _], [], [_], _, _, _ => rfl)
  exact ⟨mv, h⟩
theorem Bd_check_deficiency_3 (c : Md fa fns ex P w K mg base) : Binds K (fdAt K (He.fAd K ("check_deficiency", none))) ["generators", "paths", "result"] [] := (F_check_deficiency c).bindsN fun _ _ _ _ _ _ us hl => match us, hl with | [_, _, _], _ => rfl
theorem Dv_check_deficiency_3 (c : Md fa fns ex P w K mg base) : Vals [] [] := .nil
theorem Bd_join_2 (c : Md fa fns ex P w K mg base) : Binds K (fdAt K (He.fAd K ("join", none))) ["first", "second"] [] := (F_join c).bindsN fun _ _ _ _ _ _ us hl => match us, hl with | [_, _], _ => rfl
theorem Dv_join_2 (c : Md fa fns ex P w K mg base) : Vals [] [] := .nil
theorem Bd_equivalent_2 (c : Md fa fns ex P w K mg base) : Binds K (fdAt K (He.fAd K ("equivalent", none))) ["first", "second"] [] := (F_equivalent c).bindsN fun _ _ _ _ _ _ us hl => match us, hl with | [_, _], _ => rfl
theorem Dv_equivalent_2 (c : Md fa fns ex P w K mg base) : Vals [] [] := .nil
theorem Bd_check_classification_4 (c : Md fa fns ex P w K mg base) : Binds K (fdAt K (He.fAd K ("check_classification", none))) ["included", "excluded", "path", "result"] [] := (F_check_classification c).bindsN fun _ _ _ _ _ _ us hl => match us, hl with | [_, _, _, _], _ => rfl
theorem Dv_check_classification_4 (c : Md fa fns ex P w K mg base) : Vals [] [] := .nil
theorem Bd_intersection_2 (c : Md fa fns ex P w K mg base) : Binds K (fdAt K (He.fAd K ("intersection", none))) ["first", "second"] [] := (F_intersection c).bindsN fun _ _ _ _ _ _ us hl => match us, hl with | [_, _], _ => rfl
theorem Dv_intersection_2 (c : Md fa fns ex P w K mg base) : Vals [] [] := .nil
theorem Bd_conjugator_2 (c : Md fa fns ex P w K mg base) : Binds K (fdAt K (He.fAd K ("conjugator", none))) ["first", "second"] [] := (F_conjugator c).bindsN fun _ _ _ _ _ _ us hl => match us, hl with | [_, _], _ => rfl
theorem Dv_conjugator_2 (c : Md fa fns ex P w K mg base) : Vals [] [] := .nil
theorem F_law_pair_calls (c : Md fa fns ex P w K mg base) : FunDD K dd_law_pair_calls := c.def_ 2 46 rfl rfl
theorem S_law_pair_calls : FnScope ["_law_number", "_law_one", "_law_two"] ["_law_number", "_law_one", "_law_two"] (defScope s_law_pair_calls) := ⟨rfl, rfl, rfl, by decide +kernel, rfl, by decide +kernel, by decide +kernel⟩

theorem ok_law_pair_calls (c : Md fa fns ex P w K mg base) : FnG P w K mg base 7 (He.fAd K ("_law_pair_calls", none)) (fdAt K (He.fAd K ("_law_pair_calls", none))) ["_law_number", "_law_one", "_law_two"] (sp_law_pair_calls K) := by
  obtain ⟨mv_count_models_2_excluded, Bk_count_models_2_excluded⟩ := BKX_count_models_2_excluded c
  refine fnG_of (F_law_pair_calls c) S_law_pair_calls (len_3) (fun cdv A outer s H vs Q E hr h => ⟨_, (pss_cons (ps_if (pt_cmpR op_eq (pv 0) pe_int (nomark _)) (pss_one (ps_expr (gcall (ok_separate c) (hr.mono (by decide)) rfl (c.glo 45 rfl) (F_separate c).kp (Bd_separate_2 c) (Dv_separate_2 c) (pxB (takes_of rfl rfl rfl rfl)) (pa_cons (pv 1) (pa_cons (pv 2) pa_nil))))) pss_nil)
    (pss_cons (ps_if (pt_cmpR op_eq (pv 0) pe_int (nomark _)) (pss_one (ps_expr (gcall (ok_check_separation c) (hr.mono (by decide)) rfl (c.glo 47 rfl) (F_check_separation c).kp (Bd_check_separation_3 c) (Dv_check_separation_3 c) (pxB (takes_of rfl rfl rfl rfl)) (pa_cons (pv 1) (pa_cons (pv 2) (pa_cons pe_non pa_nil)))))) pss_nil)
    (pss_cons (ps_if (pt_cmpR op_eq (pv 0) pe_int (nomark _)) (pss_one (ps_expr (gcall (ok_classify c) (hr.mono (by decide)) rfl (c.glo 49 rfl) (F_classify c).kp (Bd_classify_3 c) (Dv_classify_3 c) (pxB (takes_of rfl rfl rfl rfl)) (pa_cons (pv 1) (pa_cons (pv 2) (pa_cons pe_str pa_nil)))))) pss_nil)
    (pss_cons (ps_if (pt_cmpR op_eq (pv 0) pe_int (nomark _)) (pss_one (ps_expr (gcall (ok_check_classification c) (hr.mono (by decide)) rfl (c.glo 50 rfl) (F_check_classification c).kp (Bd_check_classification_4 c) (Dv_check_classification_4 c) (pxB (takes_of rfl rfl rfl rfl)) (pa_cons (pv 1) (pa_cons (pv 2) (pa_cons pe_str (pa_cons pe_non pa_nil))))))) pss_nil)
    (pss_cons (ps_if (pt_cmpR op_eq (pv 0) pe_int (nomark _)) (pss_one (ps_expr (gcall (ok_equivalent c) (hr.mono (by decide)) rfl (c.glo 60 rfl) (F_equivalent c).kp (Bd_equivalent_2 c) (Dv_equivalent_2 c) (pxB (takes_of rfl rfl rfl rfl)) (pa_cons (pv 1) (pa_cons (pv 2) pa_nil))))) pss_nil)
    (pss_cons (ps_if (pt_cmpR op_eq (pv 0) pe_int (nomark _)) (pss_one (ps_expr (gcall (ok_compare c) (hr.mono (by decide)) rfl (c.glo 61 rfl) (F_compare c).kp (Bd_compare_2 c) (Dv_compare_2 c) (pxB (takes_of rfl rfl rfl rfl)) (pa_cons (pv 1) (pa_cons (pv 2) pa_nil))))) pss_nil)
    (pss_cons (ps_if (pt_cmpR op_eq (pv 0) pe_int (nomark _)) (pss_one (ps_expr (gcall (ok_check_comparison c) (hr.mono (by decide)) rfl (c.glo 64 rfl) (F_check_comparison c).kp (Bd_check_comparison_3 c) (Dv_check_comparison_3 c) (pxB (takes_of rfl rfl rfl rfl)) (pa_cons (pv 1) (pa_cons (pv 2) (pa_cons pe_non pa_nil)))))) pss_nil)
    (pss_cons (ps_if (pt_cmpR op_eq (pv 0) pe_int (nomark _)) (pss_one (ps_expr (gcall (ok_deficiency c) (hr.mono (by decide)) rfl (c.glo 69 rfl) (F_deficiency c).kp (Bd_deficiency_2 c) (Dv_deficiency_2 c) (pxB (takes_of rfl rfl rfl rfl)) (pa_cons (pv 1) (pa_cons (pv 2) pa_nil))))) pss_nil)
    (pss_cons (ps_if (pt_cmpR op_eq (pv 0) pe_int (nomark _)) (pss_one (ps_expr (gcall (ok_check_deficiency c) (hr.mono (by decide)) rfl (c.glo 71 rfl) (F_check_deficiency c).kp (Bd_check_deficiency_3 c) (Dv_check_deficiency_3 c) (pxB (takes_of rfl rfl rfl rfl)) (pa_cons (pv 1) (pa_cons (pv 2) (pa_cons pe_non pa_nil)))))) pss_nil)
    (pss_cons (ps_if (pt_cmpR op_eq (pv 0) pe_int (nomark _)) (pss_one (ps_expr (gcall (ok_intersection c) (hr.mono (by decide)) rfl (c.glo 75 rfl) (F_intersection c).kp (Bd_intersection_2 c) (Dv_intersection_2 c) (pxB (takes_of rfl rfl rfl rfl)) (pa_cons (pv 1) (pa_cons (pv 2) pa_nil))))) pss_nil)
    (pss_cons (ps_if (pt_cmpR op_eq (pv 0) pe_int (nomark _)) (pss_one (ps_expr (gcall (ok_join c) (hr.mono (by decide)) rfl (c.glo 76 rfl) (F_join c).kp (Bd_join_2 c) (Dv_join_2 c) (pxB (takes_of rfl rfl rfl rfl)) (pa_cons (pv 1) (pa_cons (pv 2) pa_nil))))) pss_nil)
    (pss_cons (ps_if (pt_cmpR op_eq (pv 0) pe_int (nomark _)) (pss_one (ps_expr (gcall (ok_conjugator c) (hr.mono (by decide)) rfl (c.glo 81 rfl) (F_conjugator c).kp (Bd_conjugator_2 c) (Dv_conjugator_2 c) (pxB (takes_of rfl rfl rfl rfl)) (pa_cons (pv 1) (pa_cons (pv 2) pa_nil))))) pss_nil)
    (pss_cons (ps_if (pt_cmpR op_eq (pv 0) pe_int (nomark _)) (pss_one (ps_expr (gcall (ok_check_conjugator c) (hr.mono (by decide)) rfl (c.glo 82 rfl) (F_check_conjugator c).kp (Bd_check_conjugator_3 c) (Dv_check_conjugator_3 c) (pxB (takes_of rfl rfl rfl rfl)) (pa_cons (pv 1) (pa_cons (pv 2) (pa_cons pe_str pa_nil)))))) pss_nil)
    (pss_one (ps_if (pt_cmpR op_eq (pv 0) pe_int (nomark _)) (pss_one (ps_expr (gcallN (ok_count_models c) (hr.mono (by decide)) rfl (c.glo 99 rfl) (F_count_models c).kp Bk_count_models_2_excluded (pxB (takes_of rfl rfl rfl rfl)) (pa_cons pe_int (pa_cons (pv 1) pa_nil)) (pk_cons (pv 2) pk_nil)))) pss_nil))))))))))))))), ?_⟩)
  obtain ⟨n, v, u, rfl, k, rfl, k0, k1, hR⟩ := h
  refine ⟨_, rfl, rfl, _, rfl, ?_⟩
  by_cases h29 : k = 29
  · rw [decide_eq_true (congrArg V.int h29)]
    exact iteT ⟨_, rfl, _, rfl, _, _, rfl, hR⟩
  rw [decide_eq_false (fun z => h29 (V.int.inj z))]
  refine iteF ?_
  refine ⟨_, rfl, rfl, _, rfl, ?_⟩
  by_cases h30 : k = 30
  · rw [decide_eq_true (congrArg V.int h30)]
    exact iteT ⟨_, rfl, _, rfl, _, _, _, rfl, hR⟩
  rw [decide_eq_false (fun z => h30 (V.int.inj z))]
  refine iteF ?_
  refine ⟨_, rfl, rfl, _, rfl, ?_⟩
  by_cases h31 : k = 31
  · rw [decide_eq_true (congrArg V.int h31)]
    exact iteT ⟨_, rfl, _, rfl, _, _, _, rfl, hR⟩
  rw [decide_eq_false (fun z => h31 (V.int.inj z))]
  refine iteF ?_
  refine ⟨_, rfl, rfl, _, rfl, ?_⟩
  by_cases h32 : k = 32
  · rw [decide_eq_true (congrArg V.int h32)]
    exact iteT ⟨_, rfl, _, rfl, _, _, _, _, rfl, hR⟩
  rw [decide_eq_false (fun z => h32 (V.int.inj z))]
  refine iteF ?_
  refine ⟨_, rfl, rfl, _, rfl, ?_⟩
  by_cases h33 : k = 33
  · rw [decide_eq_true (congrArg V.int h33)]
    exact iteT ⟨_, rfl, _, rfl, _, _, rfl, hR⟩
  rw [decide_eq_false (fun z => h33 (V.int.inj z))]
  refine iteF ?_
  refine ⟨_, rfl, rfl, _, rfl, ?_⟩
  by_cases h34 : k = 34
  · rw [decide_eq_true (congrArg V.int h34)]
    exact iteT ⟨_, rfl, _, rfl, _, _, rfl, hR⟩
  rw [decide_eq_false (fun z => h34 (V.int.inj z))]
  refine iteF ?_
  refine ⟨_, rfl, rfl, _, rfl, ?_⟩
  by_cases h35 : k = 35
  · rw [decide_eq_true (congrArg V.int h35)]
    exact iteT ⟨_, rfl, _, rfl, _, _, _, rfl, hR⟩
  rw [decide_eq_false (fun z => h35 (V.int.inj z))]
  refine iteF ?_
  refine ⟨_, rfl, rfl, _, rfl, ?_⟩
  by_cases h36 : k = 36
  · rw [decide_eq_true (congrArg V.int h36)]
    exact iteT ⟨_, rfl, _, rfl, _, _, rfl, hR⟩
  rw [decide_eq_false (fun z => h36 (V.int.inj z))]
  refine iteF ?_
  refine ⟨_, rfl, rfl, _, rfl, ?_⟩
  by_cases h37 : k = 37
  · rw [decide_eq_true (congrArg V.int h37)]
    exact iteT ⟨_, rfl, _, rfl, _, _, _, rfl, hR⟩
  rw [decide_eq_false (fun z => h37 (V.int.inj z))]
  refine iteF ?_
  refine ⟨_, rfl, rfl, _, rfl, ?_⟩
  by_cases h38 : k = 38
  · rw [decide_eq_true (congrArg V.int h38)]
    exact iteT ⟨_, rfl, _, rfl, _, _, rfl, hR⟩
  rw [decide_eq_false (fun z => h38 (V.int.inj z))]
  refine iteF ?_
  refine ⟨_, rfl, rfl, _, rfl, ?_⟩
  by_cases h39 : k = 39
  · rw [decide_eq_true (congrArg V.int h39)]
    exact iteT ⟨_, rfl, _, rfl, _, _, rfl, hR⟩
  rw [decide_eq_false (fun z => h39 (V.int.inj z))]
  refine iteF ?_
  refine ⟨_, rfl, rfl, _, rfl, ?_⟩
  by_cases h40 : k = 40
  · rw [decide_eq_true (congrArg V.int h40)]
    exact iteT ⟨_, rfl, _, rfl, _, _, rfl, hR⟩
  rw [decide_eq_false (fun z => h40 (V.int.inj z))]
  refine iteF ?_
  refine ⟨_, rfl, rfl, _, rfl, ?_⟩
  by_cases h41 : k = 41
  · rw [decide_eq_true (congrArg V.int h41)]
    exact iteT ⟨_, rfl, _, rfl, _, _, _, rfl, hR⟩
  rw [decide_eq_false (fun z => h41 (V.int.inj z))]
  refine iteF ?_
  refine ⟨_, rfl, rfl, _, rfl, ?_⟩
  by_cases h42 : k = 42
  · rw [decide_eq_true (congrArg V.int h42)]
    exact iteT ⟨_, rfl, _, rfl, rfl, rfl, _, _, _, rfl, rfl, hR⟩
  rw [decide_eq_false (fun z => h42 (V.int.inj z))]
  refine iteF ?_
  omega
theorem Bd_law_first_calls_2 (c : Md fa fns ex P w K mg base) : Binds K (fdAt K (He.fAd K ("_law_first_calls", none))) ["_law_number", "_law_some"] [] := (F_law_first_calls c).bindsN fun _ _ _ _ _ _ us hl => match us, hl with | [_, _], _ => rfl
theorem Dv_law_first_calls_2 (c : Md fa fns ex P w K mg base) : Vals [] [] := .nil
theorem Bd_law_pair_calls_3 (c : Md fa fns ex P w K mg base) : Binds K (fdAt K (He.fAd K ("_law_pair_calls", none))) ["_law_number", "_law_one", "_law_two"] [] := (F_law_pair_calls c).bindsN fun _ _ _ _ _ _ us hl => match us, hl with | [_, _, _], _ => rfl
theorem Dv_law_pair_calls_3 (c : Md fa fns ex P w K mg base) : Vals [] [] := .nil
theorem Bd_law_second_calls_2 (c : Md fa fns ex P w K mg base) : Binds K (fdAt K (He.fAd K ("_law_second_calls", none))) ["_law_number", "_law_some"] [] := (F_law_second_calls c).bindsN fun _ _ _ _ _ _ us hl => match us, hl with | [_, _], _ => rfl
theorem Dv_law_second_calls_2 (c : Md fa fns ex P w K mg base) : Vals [] [] := .nil
theorem F_law_actual (c : Md fa fns ex P w K mg base) : FunDD K dd_law_actual := c.def_ 2 47 rfl rfl
theorem S_law_actual : FnScope ["_law_number", "_law_one", "_law_two", "e"] ["_law_number", "_law_one", "_law_two"] (defScope s_law_actual) := ⟨rfl, rfl, rfl, by decide +kernel, rfl, by decide +kernel, by decide +kernel⟩

theorem ok_law_actual (c : Md fa fns ex P w K mg base) : FnG P w K mg base 8 (He.fAd K ("_law_actual", none)) (fdAt K (He.fAd K ("_law_actual", none))) ["_law_number", "_law_one", "_law_two"] (sp_law_actual K) := by
  refine fnG_of (F_law_actual c) S_law_actual (len_3) (fun cdv A outer s H vs Q E hr h => ⟨_, (pss_cons (ps_tryG rfl rfl (takes_of rfl rfl rfl rfl) (fun W pn xe tk po => (pss_one (ps_if (pt_cmpR op_lt (pv 0) pe_int (nomark _)) (pss_one (ps_expr (gcall (ok_law_first_calls c) (hr.mono (by decide)) rfl (c.glo 109 rfl) (F_law_first_calls c).kp (Bd_law_first_calls_2 c) (Dv_law_first_calls_2 c) (passAt tk) (pa_cons (pv 0) (pa_cons (pv 1) pa_nil))))) (pss_one (ps_if (pt_cmpR op_lt (pv 0) pe_int (nomark _)) (pss_one (ps_expr (gcall (ok_law_second_calls c) (hr.mono (by decide)) rfl (c.glo 110 rfl) (F_law_second_calls c).kp (Bd_law_second_calls_2 c) (Dv_law_second_calls_2 c) (passAt tk) (pa_cons (pv 0) (pa_cons (pv 1) pa_nil))))) (pss_one (ps_expr (gcall (ok_law_pair_calls c) (hr.mono (by decide)) rfl (c.glo 111 rfl) (F_law_pair_calls c).kp (Bd_law_pair_calls_3 c) (Dv_law_pair_calls_3 c) (passAt tk) (pa_cons (pv 0) (pa_cons (pv 1) (pa_cons (pv 2) pa_nil)))))))))))
    (.as (i := 3) ⟨rfl, by decide, .inl (c.glo 116 rfl)⟩ S_law_actual.nd rfl rfl (fun a oe cls d pn hz hf => (pss_one (ps_ret (pe_lst (pa_cons pe_str (pa_cons (pe_xf (T_InvalidPaths c) hz hf (pv 3)) pa_nil)))))) (.as (i := 3) ⟨rfl, by decide, .inl (c.glo 122 rfl)⟩ S_law_actual.nd rfl rfl (fun a oe cls d pn hz hf => (pss_one (ps_ret (pe_lst (pa_cons pe_str (pa_cons (pe_xf (T_LimitExceeded c) hz hf (pv 3)) pa_nil)))))) .nil)))
    (pss_one (ps_ret (pe_lst (pa_cons pe_str pa_nil))))), ?_⟩)
  obtain ⟨n, a, b, rfl, k, o1, o, rfl, k0, k1, h1, hor, hno, hq⟩ := h
  -- what the clauses give
  have catch_ : ∀ {W : WX} {σ : L2.St} {H1 : Hp}, (∀ v d H2, Same H1 H2 → genOut o = .bad v → H2 d = some (.xd [("index", v)]) → W (.ref (He.ga K "InvalidPaths")) (some d) σ H2) →
      (∀ m d H2, Same H1 H2 → genOut o = .lim m → H2 d = some (.xd [("limit", .int m)]) → W (.ref (He.ga K "LimitExceeded")) (some d) σ H2) → GRd K (genOut o) H1 (WE W σ) fun _ => False := by
    intro W σ H1 w1 w2
    cases e : genOut o with
    | bad v => exact fun H2 d s hd => w1 v d H2 s e hd
    | lim m => exact fun H2 d s hd => w2 m d H2 s e hd
    | ok ps => exact (hno ps e).elim
  have two : 2 ≤ sizeLine := by decide
  have q1 : ∀ v l H2, genOut o = .bad v → Same H H2 → H2 l = none → Q (.ref l) (upd H2 l (.lst [.str (Str.ofString "paths"), v])) := by
    intro v l H2 e s hl
    refine hq l _ (s.trans (same_upd hl)) (s.free hl) ?_
    rw [upd_same, e]
    rfl
  have q2 : ∀ m l H2, genOut o = .lim m → Same H H2 → H2 l = none → Q (.ref l) (upd H2 l (.lst [.str (Str.ofString "limit"), .int m])) := by
    intro v l H2 e s hl
    refine hq l _ (s.trans (same_upd hl)) (s.free hl) ?_
    rw [upd_same, e]
    rfl
  refine ⟨_, rfl, _, _, rfl, rfl, _, rfl, ?_⟩
  by_cases h15 : k < 15
  · rw [decide_eq_true h15]
    have eo : o = o1 := by
      rcases hor with ⟨_, e⟩ | ⟨e, _⟩
      · exact e
      · omega
    subst eo
    refine iteT ⟨_, rfl, _, rfl, _, _, rfl, k, rfl, k0, h15, o, h1, catch_ (fun v d H2 s e hd => ⟨true, xm_InvalidPaths_InvalidPaths c, fun _ a2 ha => ?_, fun z => by cases z⟩) (fun m d H2 s e hd => ⟨false, xm_LimitExceeded_InvalidPaths c, fun z => (by cases z), fun _ => ⟨true, xm_LimitExceeded_LimitExceeded c, fun _ a2 ha => ?_, fun z => by cases z⟩⟩)⟩
    · exact ⟨_, rfl, rfl, rfl, d, v, rfl, hd, two, fun l hl => q1 v l H2 e s hl⟩
    · exact ⟨_, rfl, rfl, rfl, d, .int m, rfl, hd, two, fun l hl => q2 m l H2 e s hl⟩
  · rw [decide_eq_false h15]
    refine iteF ⟨_, rfl, _, _, rfl, rfl, _, rfl, ?_⟩
    by_cases h29 : k < 29
    · rw [decide_eq_true h29]
      have eo : o = o1 := by
        rcases hor with ⟨_, e⟩ | ⟨e, _⟩
        · exact e
        · omega
      subst eo
      refine iteT ⟨_, rfl, _, rfl, _, _, rfl, k, rfl, by omega, h29, o, h1, catch_ (fun v d H2 s e hd => ⟨true, xm_InvalidPaths_InvalidPaths c, fun _ a2 ha => ?_, fun z => by cases z⟩) (fun m d H2 s e hd => ⟨false, xm_LimitExceeded_InvalidPaths c, fun z => (by cases z), fun _ => ⟨true, xm_LimitExceeded_LimitExceeded c, fun _ a2 ha => ?_, fun z => by cases z⟩⟩)⟩
      · exact ⟨_, rfl, rfl, rfl, d, v, rfl, hd, two, fun l hl => q1 v l H2 e s hl⟩
      · exact ⟨_, rfl, rfl, rfl, d, .int m, rfl, hd, two, fun l hl => q2 m l H2 e s hl⟩
    · rw [decide_eq_false h29]
      obtain ⟨o2, h2, ep⟩ : ∃ o2, GenV K H b o2 ∧ genOut o = pairOut o1 o2 := by
        rcases hor with ⟨e, _⟩ | ⟨_, e⟩
        · omega
        · exact e
      refine iteF ⟨_, rfl, _, rfl, _, rfl, _, _, _, rfl, k, rfl, by omega, k1, rg2_of h1 h2 (ep ▸ catch_ (fun v d H2 s e hd => ⟨true, xm_InvalidPaths_InvalidPaths c, fun _ a2 ha => ?_, fun z => by cases z⟩) (fun m d H2 s e hd => ⟨false, xm_LimitExceeded_InvalidPaths c, fun z => (by cases z), fun _ => ⟨true, xm_LimitExceeded_LimitExceeded c, fun _ a2 ha => ?_, fun z => by cases z⟩⟩))⟩
      · exact ⟨_, rfl, rfl, rfl, d, v, rfl, hd, two, fun l hl => q1 v l H2 e s hl⟩
      · exact ⟨_, rfl, rfl, rfl, d, .int m, rfl, hd, two, fun l hl => q2 m l H2 e s hl⟩
theorem F_law_back (c : Md fa fns ex P w K mg base) : FunDD K dd_law_back := c.def_ 2 40 rfl rfl
theorem S_law_back : FnScope ["_law_step"] ["_law_step"] (defScope s_law_back) := ⟨rfl, rfl, rfl, by decide +kernel, rfl, by decide +kernel, by decide +kernel⟩

theorem ok_law_back (c : Md fa fns ex P w K mg base) : FnG P w K mg base 1 (He.fAd K ("_law_back", none)) (fdAt K (He.fAd K ("_law_back", none))) ["_law_step"] (sp_law_back K) := by
  refine fnG_of (F_law_back c) S_law_back (len_1) (fun cdv A outer s H vs Q E hr h => ⟨_, (pss_one (ps_ret (pe_ix ix_str pe_str (pe_op op_xor (pe_m1 PySem.F.slot_str_index PySem.F.type_str_index mt_index1 pe_str (pv 0)) pe_int) (fun _ _ => rfl)))), ?_⟩)
  obtain ⟨v, rfl, c, hc, rfl, hq⟩ := h
  exact ⟨⟨_, rfl⟩, _, rfl, _, _, _, _, rfl, rfl, occ_step c hc, _, _, rfl, rfl, _, _, _, rfl, rfl, by show (8 : Nat) ≤ sizeLine; decide, back_step c hc, hq⟩
theorem Bd_law_back_1 (c : Md fa fns ex P w K mg base) : Binds K (fdAt K (He.fAd K ("_law_back", none))) ["_law_step"] [] := (F_law_back c).bindsN fun _ _ _ _ _ _ us hl => match us, hl with | [_], _ => rfl
theorem Dv_law_back_1 (c : Md fa fns ex P w K mg base) : Vals [] [] := .nil
theorem F_law_short (c : Md fa fns ex P w K mg base) : FunDD K dd_law_short := c.def_ 2 41 rfl rfl
theorem S_law_short : FnScope ["_law_path", "_law_result", "_law_step"] ["_law_path"] (defScope s_law_short) := ⟨rfl, rfl, rfl, by decide +kernel, rfl, by decide +kernel, by decide +kernel⟩

theorem ok_law_short (c : Md fa fns ex P w K mg base) : FnG P w K mg base 2 (He.fAd K ("_law_short", none)) (fdAt K (He.fAd K ("_law_short", none))) ["_law_path"] (sp_law_short K) := by
  refine fnG_of (F_law_short c) S_law_short (len_1) (fun cdv A outer s H vs Q E hr h => ⟨_, (pss_cons (ps_set (i := 1) S_law_short.nd rfl (Or.inl rfl) pe_str)
    (pss_cons (ps_for (passes_of rfl) rfl (pi_str (pv 0)) (pg_name (i := 2) S_law_short.nd rfl (Or.inl rfl))
    (pss_one (ps_if (PW.pt (pw_and (pt_cmpR op_ne (pv 1) pe_str (nomark _)) (pw_and1 (pt_cmpR op_eq (pe_ix ix_str (pv 1) (pe_un un_neg pe_int) (fun _ _ => rfl)) (gcall (ok_law_back c) (hr.mono (by decide)) rfl (c.glo 105 rfl) (F_law_back c).kp (Bd_law_back_1 c) (Dv_law_back_1 c) pxN (pa_cons (pv 2) pa_nil)) (nomark _))))) (pss_one (ps_set (i := 1) S_law_short.nd rfl (Or.inl rfl) (pe_slice sl_str (pv 1) po_none (po_some (pe_un un_neg pe_int))))) (pss_one (ps_set (i := 1) S_law_short.nd rfl (Or.inl rfl) (pe_op op_add_str (pv 1) (pv 2)))))))
    (pss_one (ps_ret (pv 1))))), ?_⟩)
  obtain ⟨v, rfl, p, rfl, hs, hl, hq⟩ := h
  have bl := big_line
  refine ⟨_, rfl, tx p, rfl, for_go (walk_str (z := tx p)) (fun i σ H1 => H1 = H ∧ ∃ y, σ = [some (.str (tx p)), some (.str (tx (red (p.take i)))), y]) ⟨rfl, none, by rw [List.take_zero, ← show Str.ofString "" = tx (red []) from tx_nil] <;> rfl⟩ (fun _ _ _ _ _ => trivial) ?_ ?_⟩
  · rintro i y σ H3 H1 hi ⟨rfl, y0, rfl⟩ ⟨rfl, c, hc, rfl⟩
    rw [tx_at] at hc
    have hcs : c ∈ steps := hs c (List.mem_of_getElem? hc)
    have rn := red_take hc
    have kl : (red (p.take i)).length ≤ 100000 := by
      have h1 := red_len (p.take i)
      have h2 := List.length_take_le i p
      have h3 : (p.take i).length ≤ p.length := by simp only [List.length_take]; omega
      omega
    generalize red (p.take i) = k at rn kl
    refine ⟨_, rfl, rfl, _, rfl, ?_⟩
    rw [tx_nil, dec_str]
    rcases List.eq_nil_or_concat k with ek | ⟨k', d, ek⟩
    · subst ek
      refine iteF ⟨_, rfl, _, rfl, _, _, rfl, rfl, by show (0 : Nat) + 1 ≤ sizeLine; omega, rfl, some (.str ⟨#[c]⟩), ?_⟩
      rw [rn]
      rfl
    · rw [List.concat_eq_append] at ek
      subst ek
      have ne : (!decide (k' ++ [d] = ([] : Pth))) = true := by simp
      rw [ne]
      refine iteT ⟨_, rfl, _, rfl, _, _, d, rfl, rfl, by rw [tx_len]; omega, at_last k' d, _, rfl, _, rfl, c, hcs, rfl, rfl, _, rfl, ?_⟩
      rw [tx_one d, tx_one (sw c), dec_str]
      rw [rstep_snoc] at rn
      by_cases e : d = sw c
      · rw [e, decide_eq_true rfl]
        rw [if_pos e] at rn
        refine iteT ⟨_, rfl, _, rfl, _, rfl, _, rfl, by rw [tx_len]; rw [e] at kl; omega, rfl, some (.str ⟨#[c]⟩), ?_⟩
        rw [rn, cut_last]
        rfl
      · rw [decide_eq_false (fun z => e (by simpa using z))]
        rw [if_neg e] at rn
        refine iteF ⟨_, rfl, _, rfl, _, _, rfl, rfl, by rw [tx_len]; show (k' ++ [d]).length + 1 ≤ sizeLine; omega, rfl, some (.str ⟨#[c]⟩), ?_⟩
        rw [rn, tx_one c, tx_cat]
        rfl
  · rintro σ H1 ⟨rfl, y, rfl⟩
    refine ⟨_, rfl, ?_⟩
    rw [tx_size, List.take_length]
    exact hq _ (.refl _)
theorem Bd_law_short_1 (c : Md fa fns ex P w K mg base) : Binds K (fdAt K (He.fAd K ("_law_short", none))) ["_law_path"] [] := (F_law_short c).bindsN fun _ _ _ _ _ _ us hl => match us, hl with | [_], _ => rfl
theorem Dv_law_short_1 (c : Md fa fns ex P w K mg base) : Vals [] [] := .nil
theorem F_law_expected (c : Md fa fns ex P w K mg base) : FunDD K dd_law_expected := c.def_ 2 42 rfl rfl
theorem S_law_expected : FnScope ["_law_values", "_law_number", "_law_value", "_law_step"] ["_law_values"] (defScope s_law_expected) := ⟨rfl, rfl, rfl, by decide +kernel, rfl, by decide +kernel, by decide +kernel⟩

theorem ok_law_expected (c : Md fa fns ex P w K mg base) : FnG P w K mg base 3 (He.fAd K ("_law_expected", none)) (fdAt K (He.fAd K ("_law_expected", none))) ["_law_values"] (sp_law_expected K) := by
  refine fnG_of (F_law_expected c) S_law_expected (len_1) (fun cdv A outer s H vs Q E hr h => ⟨_, (pss_cons (ps_if (pt_not (pt_val (pe_callB call_isiT rfl (c.free 204 rfl) (by decide +kernel) (pa_cons (pv 0) (pa_cons (pe_tup (pa_cons (pe_bltn (v := .ty "list") rfl (c.free 206 rfl) (by decide +kernel) rfl) (pa_cons (pe_bltn (v := .ty "tuple") rfl (c.free 214 rfl) (by decide +kernel) rfl) pa_nil))) pa_nil))))) (pss_one (ps_ret (pe_lst (pa_cons pe_str (pa_cons pe_non pa_nil))))) pss_nil)
    (pss_cons (ps_for (passes_of rfl) rfl (pi_enumU rfl (c.free 202 rfl) (pa_cons (pv 0) pa_nil)) (pg_tup rfl (pgs_cons (pg_name (i := 1) S_law_expected.nd rfl (Or.inl rfl)) (pgs_cons (pg_name (i := 2) S_law_expected.nd rfl (Or.inl rfl)) pgs_nil)))
    (pss_cons (ps_if (PW.pt (pw_or (pt_not (pt_val (pe_callB call_isi rfl (c.free 204 rfl) (by decide +kernel) (pa_cons (pv 2) (pa_cons (pe_bltn (v := .ty "str") rfl (c.free 212 rfl) (by decide +kernel) rfl) pa_nil))))) (pw_or1 (pt_cmpR op_gt (pe_callB call_len rfl (c.free 205 rfl) (by decide +kernel) (pa_cons (pv 2) pa_nil)) pe_int (nomark _))))) (pss_one (ps_ret (pe_lst (pa_cons pe_str (pa_cons (pv 1) pa_nil))))) pss_nil)
    (pss_one (ps_if (pt_cmpR (op_neD hr.r.units) (pe_lc (own := [("_law_step", 3)]) rfl S_law_expected.nd (pi_str (pv 2)) (blkOk_by (own := [("_law_step", 3)]) (N := ["_law_values", "_law_number", "_law_value", "_law_step"]) (sc := (defScope s_law_expected)) (by decide +kernel)) (fun _ _ _ _ _ => (pg_name (i := 3) S_law_expected.nd rfl (Or.inl rfl))) (fun _ _ _ _ _ => (pts_one (pt_cmpR op_notIn_sign (pv 3) pe_str (by rfl)))) (fun _ _ _ _ _ => (pv 3))) (pe_lst pa_nil) (nomark _)) (pss_one (ps_ret (pe_lst (pa_cons pe_str (pa_cons (pv 1) pa_nil))))) pss_nil))))
    (pss_cons (ps_if (pt_cmpR op_gt (pe_callB call_len rfl (c.free 205 rfl) (by decide +kernel) (pa_cons (pv 0) pa_nil)) pe_int (nomark _)) (pss_one (ps_ret (pe_lst (pa_cons pe_str (pa_cons pe_int pa_nil))))) pss_nil)
    (pss_cons (ps_if (pt_cmpR (op_neD hr.r.units) (pe_lc (own := [("_law_value", 2)]) rfl S_law_expected.nd (pi_seq (pv 0)) (blkOk_by (own := [("_law_value", 2)]) (N := ["_law_values", "_law_number", "_law_value", "_law_step"]) (sc := (defScope s_law_expected)) (by decide +kernel)) (fun _ _ _ _ _ => (pg_name (i := 2) S_law_expected.nd rfl (Or.inl rfl))) (fun _ _ _ _ _ => (pts_one (pt_cmpR op_gt (pe_callB (kC (K := K) (r := rLen) call_len rfl) rfl (c.free 205 rfl) (by decide +kernel) (pa_cons (gcall (ok_law_short c) (hr.mono (by decide)) rfl (c.glo 106 rfl) (F_law_short c).kp (Bd_law_short_1 c) (Dv_law_short_1 c) pxN (pa_cons (pv 2) pa_nil)) pa_nil)) pe_int (nomark _)))) (fun _ _ _ _ _ => (pv 2))) (pe_lst pa_nil) (nomark _)) (pss_one (ps_ret (pe_lst (pa_cons pe_str (pa_cons pe_int pa_nil))))) pss_nil)
    (pss_one (ps_ret (pe_lst (pa_cons pe_str pa_nil)))))))), ?_⟩)
  obtain ⟨v, rfl, o, hv, hst, hq⟩ := h
  obtain ⟨t, kt, ht⟩ := hv.knd
  have bl := big_line
  have two : 2 ≤ sizeLine := by omega
  refine ⟨_, rfl, two, fun p hp => ⟨v, p, _, .type t, _, _, rfl, upd_same, cls2, (kt.same (same_upd hp)).ty, kt.seq, _, rfl, ?_⟩⟩
  rw [ht]
  have s1 := same_upd (o := .tup [.ty "list", .ty "tuple"]) hp
  cases hv with
  | bad k e => exact iteT ⟨two, fun l hl => hq l _ (s1.trans (same_upd hl)) (s1.free hl) upd_same⟩
  | @seq xs h a hn =>
    obtain ⟨b, rfl, hs⟩ := h
    have hsl : SeqV K H (.ref b) xs := ⟨b, rfl, hs⟩
    obtain ⟨b', e', hs1⟩ := hsl.same s1
    cases e'
    refine iteF ⟨_, rfl, b, xs, rfl, hs1, fun J wk => for_go wk (fun i σ H1 => Same H H1 ∧ Same (upd H p (.tup [.ty "list", .ty "tuple"])) H1 ∧ ∃ x y z, σ = [some (.ref b), x, y, z] ∧ ∀ j < i, ∀ x, xs[j]? = some x → isP x = true) ⟨s1, .refl _, none, none, none, rfl, fun j hj => absurd hj (Nat.not_lt_zero j)⟩ (fun i σ H1 _ p => p.2.1) ?_ ?_⟩
    · rintro i y σ H1 H2 hi ⟨sm, sm', x0, y0, z0, rfl, all⟩ ⟨T, ix, x, rfl, nT, rfl, hix, hx⟩
      cases hix
      have hx : xs[i]? = some x := hx
      have s2 := sm.trans (same_upd (o := .tup [.int (i : Nat), x]) nT)
      obtain ⟨t', kt', hz⟩ := a x (List.mem_of_getElem? hx)
      have bad : isP x = false → ∀ (l : Addr) (H3 : Hp), Same H H3 → H3 l = none → Q (.ref l) (upd H3 l (.lst [.str (Str.ofString "paths"), .int (i : Nat)])) := by
        intro e l H3 s3 hl
        have fb : firstBad xs = some i := first_of hx e all
        rw [genOut_bad fb] at hq
        exact hq l _ (s3.trans (same_upd hl)) (s3.free hl) upd_same
      refine ⟨T, _, rfl, .inl (.inl upd_same), rfl, _, _, rfl, _, _, rfl, rfl, _, rfl, x, .ty "str", .type t', .type "str", isa t' "str", rfl, .ty _, (kt'.same s2).ty, kt'.one "str" (by decide), _, rfl, ?_⟩
      cases e : isa t' "str" with
      | false => exact iteT (iteT ⟨_, rfl, two, fun l hl => bad (isP_not kt' e) l _ s2 hl⟩)
      | true =>
        obtain ⟨z, rfl⟩ := kt'.str_inv e
        refine iteF ⟨_, rfl, .str z, z.length, rfl, ⟨hz z rfl, rfl⟩, _, _, rfl, rfl, _, rfl, ?_⟩
        by_cases h4 : 400 < z.cps.size
        · rw [decide_eq_true (show (400 : Int) < ((z.length : Nat) : Int) by show (400 : Int) < ((z.cps.size : Nat) : Int); omega)]
          refine iteT ⟨_, rfl, two, fun l hl => bad ?_ l _ s2 hl⟩
          show okS z = false
          rw [okS_eq, decide_eq_false (by omega)] <;> rfl
        · rw [decide_eq_false (show ¬ (400 : Int) < ((z.length : Nat) : Int) by show ¬ (400 : Int) < ((z.cps.size : Nat) : Int); omega)]
          refine iteF ⟨_, rfl, z, rfl, fun D hD => lc_acc walk_str hD (fun i => ((z.cps.toList.take i).filter fun c => !decide (c ∈ steps)).map fun c => V.str ⟨#[c]⟩) rfl (fun j hj => ?_) (fun _ _ => trivial) ?_ ?_⟩
          · have h5 := List.length_filter_le (fun c => !decide (c ∈ steps)) (z.cps.toList.take j)
            simp only [List.length_map, List.length_take] at h5 ⊢
            omega
          · rintro j y H3 H4 R1 R2 hj s3 hD3 ⟨rfl, c, hc, rfl⟩ r1 r2
            have hc' : z.cps.toList[j]? = some c := by rw [Array.getElem?_toList]; exact hc
            refine ⟨rfl, _, rfl, c, _, rfl, rfl, _, rfl, ?_⟩
            rw [stepsS]
            by_cases hcs : c ∈ steps
            · rw [decide_eq_true hcs]
              exact iteF (r2 _ (.refl _) (by rw [take_filter hc', if_neg (by simp [hcs])]))
            · rw [decide_eq_false hcs]
              exact iteT ⟨_, rfl, r1 _ _ (.refl _) (by rw [take_filter hc', if_pos (by simp [hcs]), List.map_append] <;> rfl)⟩
          · intro H3 s3 hl3
            rw [List.take_of_length_le (by simp)] at hl3
            have ok := hst xs rfl (.str z) (List.mem_of_getElem? hx) z rfl
            refine ⟨Nat.zero_le _, fun l2 hl2 => ⟨_, _, .lst (.inl (.inl (same_upd hl2 _ _ hl3))) (DpAll_map (g := fun c => PyData.str ⟨#[c]⟩) (fun c => .str _) _), .lst (.inl (.inl upd_same)) .nil, (sh_signs ok _).shaped, sh_nil.shaped, _, rfl, ?_⟩⟩
            rw [eqv_nil]
            have s4 := (s2.trans s3).trans (same_upd (o := .lst []) hl2)
            have ez : okS z = (z.cps.toList.filter fun c => !decide (c ∈ steps)).isEmpty := by rw [okS_eq, decide_eq_true (by omega)] <;> rfl
            have e3 : (List.map (fun c => PyData.str ⟨#[c]⟩) (z.cps.toList.filter fun c => !decide (c ∈ steps))).isEmpty = okS z := by rw [ez, List.isEmpty_map]
            rw [e3]
            cases hok : okS z with
            | false => exact iteT ⟨_, rfl, two, fun l hl => bad hok l _ s4 hl⟩
            | true =>
              refine iteF ⟨s4, ((sm'.trans (same_upd nT)).trans s3).trans (same_upd hl2), _, _, _, rfl, fun j hj w ew => ?_⟩
              by_cases hji : j < i
              · exact all j hji w ew
              · have e2 : j = i := by omega
                rw [e2, hx] at ew
                rw [← Option.some.inj ew]
                exact hok
    · rintro σ H1 ⟨sm, sm', x0, y0, z0, rfl, all⟩
      have fb : firstBad xs = none := by
        rw [firstBad, List.findIdx?_eq_none_iff]
        intro x hx
        obtain ⟨j, hj, ej⟩ := List.mem_iff_getElem.mp hx
        rw [all j hj x (by rw [List.getElem?_eq_getElem hj, ej])] <;> rfl
      have good := firstBad_none fb
      refine ⟨_, rfl, .ref b, xs.length, rfl, (hsl.same sm).len, _, _, rfl, rfl, _, rfl, ?_⟩
      by_cases h16 : 16 < xs.length
      · rw [decide_eq_true (show (16 : Int) < ((xs.length : Nat) : Int) by omega)]
        rw [genOut_16 fb h16] at hq
        exact iteT ⟨two, fun l hl => hq l _ (sm.trans (same_upd hl)) (sm.free hl) upd_same⟩
      · rw [decide_eq_false (show ¬ (16 : Int) < ((xs.length : Nat) : Int) by omega)]
        obtain ⟨b', e', hs2⟩ := hsl.same sm
        cases e'
        refine iteF ⟨_, rfl, b, xs, rfl, hs2, fun J wk D hD => lc_acc wk hD (fun i => (xs.take i).filter fun v => decide (60 < (rdV v).length)) rfl (fun j hj => ?_) (fun _ s => s) ?_ ?_⟩
        · have h5 := List.length_filter_le (fun v => decide (60 < (rdV v).length)) (xs.take j)
          simp only [List.length_take] at h5 ⊢
          omega
        · rintro j y H3 H4 R1 R2 hj s3 hD3 ⟨rfl, hy⟩ r1 r2
          obtain ⟨q, rfl, eq, hl, hsq⟩ := isP_str (good y (List.mem_of_getElem? hy))
          refine ⟨rfl, _, rfl, _, rfl, q, rfl, hsq, by omega, fun H5 s5 => ⟨_, (red q).length, rfl, ⟨by rw [tx_len]; have := red_len q; omega, (tx_len _).symm⟩, _, _, rfl, rfl, _, rfl, ?_⟩⟩
          have e0 : rdV (.str (tx q)) = red q := by
            show red (cdV _) = _
            rw [eq]
          by_cases h60 : 60 < (red q).length
          · rw [decide_eq_true (show (60 : Int) < (((red q).length : Nat) : Int) by omega)]
            exact iteT ⟨_, rfl, r1 _ _ s5 (by rw [take_filter hy, if_pos (decide_eq_true (by rw [e0]; exact h60))])⟩
          · rw [decide_eq_false (show ¬ (60 : Int) < (((red q).length : Nat) : Int) by omega)]
            exact iteF (r2 _ s5 (by rw [take_filter hy, if_neg (by rw [e0]; simpa using h60)]))
        · intro H3 s3 hl3
          rw [List.take_length] at hl3
          have gf : ∀ y ∈ xs.filter (fun v => decide (60 < (rdV v).length)), isP y = true := fun y hy => good y (List.mem_filter.mp hy).1
          refine ⟨Nat.zero_le _, fun l2 hl2 => ⟨_, _, .lst (.inl (.inl (same_upd hl2 _ _ hl3))) (dpAll_paths gf), .lst (.inl (.inl upd_same)) .nil, (sh_paths gf).shaped, sh_nil.shaped, _, rfl, ?_⟩⟩
          rw [eqv_nil, List.isEmpty_map]
          have s4 := (sm.trans s3).trans (same_upd (o := .lst []) hl2)
          cases e : (xs.filter fun v => decide (60 < (rdV v).length)) with
          | nil =>
            have all60 : ∀ x ∈ xs, (rdV x).length ≤ 60 := fun x hx => by
              have z := List.filter_eq_nil_iff.mp e x hx
              simpa using z
            rw [genOut_ok fb h16 all60] at hq
            exact iteF ⟨by show 1 ≤ sizeLine; omega, fun l hl => hq l _ (s4.trans (same_upd hl)) (s4.free hl) upd_same⟩
          | cons y r =>
            have hy := List.mem_filter.mp (show y ∈ xs.filter _ from by rw [e]; exact List.mem_cons_self)
            rw [genOut_60 fb h16 hy.1 (of_decide_eq_true hy.2)] at hq
            exact iteT ⟨two, fun l hl => hq l _ (s4.trans (same_upd hl)) (s4.free hl) upd_same⟩
theorem Bd_law_actual_3 (c : Md fa fns ex P w K mg base) : Binds K (fdAt K (He.fAd K ("_law_actual", none))) ["_law_number", "_law_one", "_law_two"] [] := (F_law_actual c).bindsN fun _ _ _ _ _ _ us hl => match us, hl with | [_, _, _], _ => rfl
theorem Dv_law_actual_3 (c : Md fa fns ex P w K mg base) : Vals [] [] := .nil
theorem Bd_law_bad_1 (c : Md fa fns ex P w K mg base) : Binds K (fdAt K (He.fAd K ("_law_bad", none))) ["_law_pool_here"] [] := (F_law_bad c).bindsN fun _ _ _ _ _ _ us hl => match us, hl with | [_], _ => rfl
theorem Dv_law_bad_1 (c : Md fa fns ex P w K mg base) : Vals [] [] := .nil
theorem Bd_law_pool_2 (c : Md fa fns ex P w K mg base) : Binds K (fdAt K (He.fAd K ("_law_pool", none))) ["_law_script", "_law_index"] [] := (F_law_pool c).bindsN fun _ _ _ _ _ _ us hl => match us, hl with | [_, _], _ => rfl
theorem Dv_law_pool_2 (c : Md fa fns ex P w K mg base) : Vals [] [] := .nil
theorem Bd_law_expected_1 (c : Md fa fns ex P w K mg base) : Binds K (fdAt K (He.fAd K ("_law_expected", none))) ["_law_values"] [] := (F_law_expected c).bindsN fun _ _ _ _ _ _ us hl => match us, hl with | [_], _ => rfl
theorem Dv_law_expected_1 (c : Md fa fns ex P w K mg base) : Vals [] [] := .nil
theorem F_law (c : Md fa fns ex P w K mg base) : FunDD K dd_law := c.def_ 2 48 rfl rfl
theorem S_law : FnScope ["_law_script", "_law_index", "_law_pool_here", "_law_one", "_law_two", "_law_number"] ["_law_script"] (defScope s_law) := ⟨rfl, rfl, rfl, by decide +kernel, rfl, by decide +kernel, by decide +kernel⟩

theorem ok_law (c : Md fa fns ex P w K mg base) : FnG P w K mg base 9 (He.fAd K ("law", none)) (fdAt K (He.fAd K ("law", none))) ["_law_script"] (sp_law K) := by
  refine fnG_of (F_law c) S_law (len_1) (fun cdv A outer s H vs Q E hr h => ⟨_, (pss_cons (ps_for (passes_of rfl) rfl (pi_range1 rfl (c.free 209 rfl) (pa_cons (pe_callB (call_max2 rfl) rfl (c.free 207 rfl) (by decide +kernel) (pa_cons pe_int (pa_cons (pe_callB (call_min2 rfl) rfl (c.free 208 rfl) (by decide +kernel) (pa_cons pe_int (pa_cons (pe_callB call_len rfl (c.free 205 rfl) (by decide +kernel) (pa_cons (pv 0) pa_nil)) pa_nil))) pa_nil))) pa_nil)) (pg_name (i := 1) S_law.nd rfl (Or.inl rfl))
    (pss_cons (ps_set (i := 2) S_law.nd rfl (Or.inl rfl) (gcall (ok_law_pool c) (hr.mono (by decide)) rfl (c.glo 103 rfl) (F_law_pool c).kp (Bd_law_pool_2 c) (Dv_law_pool_2 c) pxN (pa_cons (pv 0) (pa_cons (pv 1) pa_nil))))
    (pss_cons (ps_set (i := 3) S_law.nd rfl (Or.inl rfl) (gcall (ok_law_bad c) (hr.mono (by decide)) rfl (c.glo 108 rfl) (F_law_bad c).kp (Bd_law_bad_1 c) (Dv_law_bad_1 c) pxN (pa_cons (pv 2) pa_nil)))
    (pss_cons (ps_set (i := 4) S_law.nd rfl (Or.inl rfl) (gcall (ok_law_bad c) (hr.mono (by decide)) rfl (c.glo 108 rfl) (F_law_bad c).kp (Bd_law_bad_1 c) (Dv_law_bad_1 c) pxN (pa_cons (pv 2) pa_nil)))
    (pss_one (ps_for (passes_of rfl) rfl (pi_range1 rfl (c.free 209 rfl) (pa_cons pe_int pa_nil)) (pg_name (i := 5) S_law.nd rfl (Or.inl rfl))
    (pss_cons (ps_if (pt_cmpR op_ne (pe_callB (call_repr (k := 0) (hr.mono (by decide))) rfl (c.free 210 rfl) (by decide +kernel) (pa_cons (gcall (ok_law_actual c) (hr.mono (by decide)) rfl (c.glo 112 rfl) (F_law_actual c).kp (Bd_law_actual_3 c) (Dv_law_actual_3 c) pxN (pa_cons (pv 5) (pa_cons (pv 3) (pa_cons (pv 4) pa_nil)))) pa_nil)) (pe_callB (call_repr (k := 0) (hr.mono (by decide))) rfl (c.free 210 rfl) (by decide +kernel) (pa_cons (gcall (ok_law_expected c) (hr.mono (by decide)) rfl (c.glo 107 rfl) (F_law_expected c).kp (Bd_law_expected_1 c) (Dv_law_expected_1 c) pxN (pa_cons (pv 3) pa_nil)) pa_nil)) (nomark _)) (pss_one (ps_ret pe_bl)) pss_nil)
    (pss_cons (ps_if (PW.pt (pw_and (pt_cmpR op_gt (pv 5) pe_int (nomark _)) (pw_and1 (pt_cmpR op_ne (pe_callB (call_repr (k := 0) (hr.mono (by decide))) rfl (c.free 210 rfl) (by decide +kernel) (pa_cons (gcall (ok_law_actual c) (hr.mono (by decide)) rfl (c.glo 112 rfl) (F_law_actual c).kp (Bd_law_actual_3 c) (Dv_law_actual_3 c) pxN (pa_cons (pv 5) (pa_cons (pe_lst (pa_cons pe_str (pa_cons pe_str pa_nil))) (pa_cons (pv 4) pa_nil)))) pa_nil)) (pe_callB (call_repr (k := 0) (hr.mono (by decide))) rfl (c.free 210 rfl) (by decide +kernel) (pa_cons (gcall (ok_law_expected c) (hr.mono (by decide)) rfl (c.glo 107 rfl) (F_law_expected c).kp (Bd_law_expected_1 c) (Dv_law_expected_1 c) pxN (pa_cons (pv 4) pa_nil)) pa_nil)) (nomark _))))) (pss_one (ps_ret pe_bl)) pss_nil)
    (pss_one (ps_if (PW.pt (pw_and (pt_cmpR op_gt (pv 5) pe_int (nomark _)) (pw_and1 (pt_cmpR op_ne (pe_callB (call_repr (k := 0) (hr.mono (by decide))) rfl (c.free 210 rfl) (by decide +kernel) (pa_cons (gcall (ok_law_actual c) (hr.mono (by decide)) rfl (c.glo 112 rfl) (F_law_actual c).kp (Bd_law_actual_3 c) (Dv_law_actual_3 c) pxN (pa_cons (pv 5) (pa_cons (pv 3) (pa_cons (pe_lst pa_nil) pa_nil)))) pa_nil)) (pe_callB (call_repr (k := 0) (hr.mono (by decide))) rfl (c.free 210 rfl) (by decide +kernel) (pa_cons (gcall (ok_law_expected c) (hr.mono (by decide)) rfl (c.glo 107 rfl) (F_law_expected c).kp (Bd_law_expected_1 c) (Dv_law_expected_1 c) pxN (pa_cons (pv 3) pa_nil)) pa_nil)) (nomark _))))) (pss_one (ps_ret pe_bl)) pss_nil))))))))))
    (pss_one (ps_ret pe_bl))), ?_⟩)
  obtain ⟨v, rfl, a, ns, rfl, hs, hn, hq⟩ := h
  have two : 2 ≤ sizeLine := by decide
  refine ⟨_, rfl, .ref a, _, rfl, .inl ⟨_, hs, rfl⟩, _, _, rfl, _, _, rfl, _, rfl, ?_, ?_, ?_⟩
  · split <;> split <;> omega
  · split <;> split <;> (try simp only [List.length_map]) <;> omega
  generalize hm : Int.toNat _ = m
  have hm3 : m ≤ 3 := by
    rw [← hm]
    split <;> split <;> omega
  refine for_go walk_range (fun i σ H1 => Same H H1 ∧ ∃ x1 x2 x3 x4 x5, σ = [some (.ref a), x1, x2, x3, x4, x5]) ⟨.refl _, _, _, _, _, _, rfl⟩ (fun _ _ _ _ _ => trivial) ?_ ?_
  · rintro i y σ H1 H2 hi ⟨sm, x1, x2, x3, x4, x5, rfl⟩ ⟨rfl, rfl⟩
    refine ⟨_, rfl, _, rfl, _, _, rfl, a, ns, _, rfl, sqL_same sm hs, by omega, rfl, by omega, by omega, fun l H3 hl s3 p3 => ?_⟩
    refine ⟨_, rfl, _, rfl, l, rfl, p3, fun one o1 H4 s4 p4 g1 no1 c1 => ?_⟩
    refine ⟨_, rfl, _, rfl, l, rfl, p4, fun tw o2 H5 s5 p5 g2 no2 c2 => ?_⟩
    have g1' : GenV K H5 one o1 := g1 H5 s5
    have g2' : GenV K H5 tw o2 := g2 H5 (.refl _ _)
    have hlH : H l = none := sm.free hl
    have s05 : Same H H5 := by
      intro b o e
      have nb : b ≠ l := by
        intro z
        rw [z, hlH] at e
        cases e
      exact s5 b o nb (s4 b o nb (s3 b o (sm b o e)))
    have st1 : ∀ xs, o1 = some xs → ∀ x ∈ xs, ∀ z, x = .str z → PyData.strOk z = true := fun xs e => (c1 xs e).2
    have st2 : ∀ xs, o2 = some xs → ∀ x ∈ xs, ∀ z, x = .str z → PyData.strOk z = true := fun xs e => (c2 xs e).2
    refine ⟨43, rfl, by decide, by decide, for_go (n := 43) walk_range (fun k σ H6 => Same H5 H6 ∧ ∃ y5, σ = [some (.ref a), some (.int (0 + (i : Nat))), some (.ref l), some one, some tw, y5]) ⟨.refl _, _, rfl⟩ (fun _ _ _ _ _ => trivial) ?_ ?_⟩
    · rintro k y σ H6 H7 hk ⟨s6, y5, rfl⟩ ⟨rfl, rfl⟩
      obtain ⟨sh1, dp1, ln1⟩ := exp_show no1 fun xs e => (c1 xs e).1
      obtain ⟨sh2, dp2, ln2⟩ := exp_show no2 fun xs e => (c2 xs e).1
      have k0 : (0 : Int) ≤ 0 + ((k : Nat) : Int) := by omega
      have k1 : (0 : Int) + ((k : Nat) : Int) < 43 := by omega
      refine ⟨_, rfl, _, rfl, _, rfl, _, _, _, rfl, _, o1, o1, rfl, k0, k1, g1'.same s6, ?_, no1, fun la Ha sa na ha => ⟨_, _, rfl, .inl (exp_dp ha), sh1, dp1, ln1, _, rfl, _, rfl, o1, g1'.same (s6.trans sa), st1, fun lb Hb sb nb hb => ⟨_, _, rfl, .inl (exp_dp hb), sh1, dp1, ln1, rfl, _, rfl, ?_⟩⟩⟩
      · by_cases h : (0 : Int) + ((k : Nat) : Int) < 29
        · exact .inl ⟨h, rfl⟩
        · exact .inr ⟨by omega, o2, g2'.same s6, (pairOut_bad no1).symm⟩
      rw [decide_eq_true rfl]
      have s7 := (s6.trans sa).trans sb
      refine iteF ⟨_, rfl, _, _, rfl, rfl, _, rfl, ?_⟩
      by_cases h28 : (28 : Int) < 0 + ((k : Nat) : Int)
      · rw [decide_eq_true h28]
        refine iteT ⟨_, rfl, two, fun q hq7 => ?_⟩
        have s8 := s7.trans (same_upd (o := .lst [.str (Str.ofString "a"), .str (Str.ofString "bb")]) hq7)
        have gq : GenV K (upd Hb q (.lst [.str (Str.ofString "a"), .str (Str.ofString "bb")])) (.ref q) (some [.str (Str.ofString "a"), .str (Str.ofString "bb")]) := by
          refine .seq ⟨q, rfl, .inl (.inl (.inl upd_same))⟩ (fun x hx => ?_) (by show 2 ≤ 1000000; decide)
          rcases List.mem_cons.mp hx with rfl | hx
          · exact ⟨_, .str _, fun z e => by
              cases e
              show 1 ≤ sizeLine
              omega⟩
          · rw [List.mem_singleton.mp hx]
            exact ⟨_, .str _, fun z e => by
              cases e
              show 2 ≤ sizeLine
              omega⟩
        obtain ⟨ps, hps⟩ : ∃ ps, genOut (some [V.str (Str.ofString "a"), V.str (Str.ofString "bb")]) = .ok ps := ⟨_, genOut_ok (by decide +kernel) (by decide) (by decide +kernel)⟩
        refine ⟨_, rfl, _, _, _, rfl, _, some [.str (Str.ofString "a"), .str (Str.ofString "bb")], o2, rfl, k0, k1, gq, .inr ⟨by omega, o2, g2'.same s8, (pairOut_ok hps).symm⟩, no2, fun lc Hc sc nc hc => ⟨_, _, rfl, .inl (exp_dp hc), sh2, dp2, ln2, _, rfl, _, rfl, o2, g2'.same (s8.trans sc), st2, fun ld Hd sd nd hd => ⟨_, _, rfl, .inl (exp_dp hd), sh2, dp2, ln2, rfl, _, rfl, ?_⟩⟩⟩
        rw [decide_eq_true rfl]
        have s9 := (s8.trans sc).trans sd
        refine iteF ⟨_, rfl, _, _, rfl, rfl, _, rfl, ?_⟩
        rw [decide_eq_true h28]
        refine iteT ⟨_, rfl, _, rfl, Nat.zero_le _, fun q2 hq9 => ?_⟩
        have s10 := s9.trans (same_upd (o := .lst []) hq9)
        have gq2 : GenV K (upd Hd q2 (.lst [])) (.ref q2) (some []) := .seq ⟨q2, rfl, .inl (.inl (.inl upd_same))⟩ (fun x hx => by cases hx) (Nat.zero_le _)
        refine ⟨_, _, _, rfl, _, o1, o1, rfl, k0, k1, g1'.same s10, .inr ⟨by omega, some [], gq2, (pairOut_bad no1).symm⟩, no1, fun le He se ne he => ⟨_, _, rfl, .inl (exp_dp he), sh1, dp1, ln1, _, rfl, _, rfl, o1, g1'.same (s10.trans se), st1, fun lf Hf sf nf hf => ⟨_, _, rfl, .inl (exp_dp hf), sh1, dp1, ln1, rfl, _, rfl, ?_⟩⟩⟩
        rw [decide_eq_true rfl]
        exact iteF ⟨(s10.trans se).trans sf, _, rfl⟩
      · rw [decide_eq_false h28]
        refine iteF ⟨_, rfl, _, _, rfl, rfl, _, rfl, ?_⟩
        rw [decide_eq_false h28]
        exact iteF ⟨s7, _, rfl⟩
    · rintro σ H6 ⟨s6, y5, rfl⟩
      exact ⟨s05.trans s6, _, _, _, _, _, rfl⟩
  · rintro σ H1 ⟨sm, x1, x2, x3, x4, x5, rfl⟩
    exact hq H1
theorem law_at {h : Heap} {f : Addr} (X : K.In h) (G : h.Ns mainGlobals mg) (hfa : mg ("law" : Str) = some (.ref f)) (S : SaysW fa fns ex K) :
    ∃ (K : PySem.W.Frag) (fd : FuncData) (sp : Sp), K.In h ∧ (∀ (s : Shared) (u : Value), BindsTo s fd ⟨[u], []⟩ [(("_law_script" : Str), u)]) ∧
      (∀ (H : Hp) (a : Addr) (ns : List Int), ns.length ≤ 63 → SqL K H a (ns.map V.int) → sp [.ref a] H (fun v _ => v = .bl true) fun _ _ _ => False) ∧
      ∀ base : Heap, K.In base → base.Ns mainGlobals mg → FnG P w K mg base 9 f fd ["_law_script"] sp := by
  have c : Md fa fns ex P w K mg h := ⟨X, G, S⟩
  have e := hfa.symm.trans (c.glo 113 rfl)
  cases e
  have b := FunD.bindsA (ps := ["_law_script"]) (F_law c) fun _ _ _ _ _ _ us hl => match us, hl with | [_], _ => rfl
  exact ⟨K, _, sp_law K, X, fun s u => b s [u] rfl, fun H a ns hl hS => ⟨_, rfl, a, ns, rfl, hS, hl, fun _ => rfl⟩, fun base hX hG => ok_law ⟨hX, hG, S⟩⟩
end
end W8
open PySem PySem.W PySem.Calls PyProof.Rows
set_option maxRecDepth 100000 in
set_option maxHeartbeats 0 in
theorem PySem.Challenge.cw_walkshome_k79_generator_errors_everywher_holds : PySem.Challenge.rw_walkshome_k79_generator_errors_everywher.Holds := by
  w_on; o_law
  refine HandSHeadRun.head_any (r := OpenLaw.row PySem.Challenge.rw_walkshome_k79_generator_errors_everywher) (q := W8.qv) (H := W8.hk) (ob := W8.ob) (M := 20000) (loose := W8.ls) (d := HandSHeadRun.topDef (OpenLaw.row PySem.Challenge.rw_walkshome_k79_generator_errors_everywher).prog 160) (kwd := []) W8.ob_eq
    (by kernel_rfl) (fun s => by kernel_rfl) W8.run (by kernel_rfl) (by kernel_rfl) (by kernel_rfl) (by rfl) (by first | assumption | decide +kernel) (by decide +kernel) ⟨rfl, rfl, rfl, rfl, rfl, by decide +kernel⟩ ?hw ?hc
  case hw => w_witness2
  case hc =>
    refine W8.walkG (l := PySem.Challenge.rw_walkshome_k79_generator_errors_everywher) (n := 63) (k := 9) (x := "_law_script") rfl (by decide) (by kernel_rfl) (W8.roomC.mono (by decide)) ?F
    intro w mg fa h Y G hmg0
    obtain ⟨K, KX, S⟩ := Y
    have hmg : mg ("law" : PySem.Str) = some (.ref fa) := by
      have e : (HandSHeadRun.topDef (OpenLaw.row PySem.Challenge.rw_walkshome_k79_generator_errors_everywher).prog 160).name = ("law" : PySem.Str) := by kernel_rfl
      rw [← e]
      exact hmg0
    exact W8.law_at KX G hmg S
