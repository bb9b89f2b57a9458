import PyProof.Rows.All
import Wide.All
import OpenK.AllK
import Wide.FinOn
import KE.KStateDown
import HandS.ForMost
import HandS.Exc
import HandS.ExcOwn
import HandS.TryMany
import HandS.ExcInit
import HandS.ExcField
import HandS.WordsExc
import HandS.Defaults
import HandS.MakeKw
import HandS.MakeKwOnly
import HandS.IsInst
import HandS.ClsMeth
import HandS.Deep
import HandS.Flow
import HandS.SortRule
import HandS.SortInts
import HandS.Evl
import HandS.Wide
import HandS.Head0
import HandS.Head1
import HandS.Head2
import HandS.HeadEnd
import HandS.HeadHook1
import HandS.HeadHook2
import HandS.TupAny
import HandS.TupMul
import HandS.Star
import HandS.Strs
import KE.GoesMore
import HandS.SetBool
import HandS.Conv
import HandS.Style
import PyProof.NeKinds
import HandS.SetFor
import HandS.Text
import HandS.FStr
import HandS.Codes
import KE.KUnpackStar
import PyProof.StrOps2
import HandS.SuiteRaise
import HandS.RaiseFrom
import HandS.ExcInitHot
import KE.KTryMore
import HandS.Zip
import HandS.ExcIs
import HandS.DictComp
import HandS.TupSets
import HandS.Keys
import HandS.TryOnly
import PySem.Challenge.RW_looksleft_k03_stores_and_lines
set_option Elab.async false
set_option linter.all false
set_option maxRecDepth 100000
set_option maxHeartbeats 3900000
/-! My layer: promises of defs where no repr runs around (guards), data, repr, own errors. -/
namespace G
open L2 PyProof.Rows PySem PySem.Spec
/-- a call's arguments: the keywords ks, each by its name, no star among them -/
structure NamedOnly (X : Cx) (kws : List Keyword) (pos : Pos) (ks : List Str) : Prop where
  each : ((backToKw pos (keywordEach kws X.env)).all fun k => k.1.isSome) = true
  keys : ((backToKw pos (keywordEach kws X.env)).filterMap fun k => k.1) = ks
  flat : (((backTo pos (starEach [] X.env)).any fun a => a.1) || ((backToKw pos (keywordEach kws X.env)).any fun k => k.1.isNone)) = false
/-- a call's arguments: e and then es, no star among them -/
structure OneByOne (X : Cx) (e : Expr) (es : List Expr) (pos : Pos) : Prop where
  next : starEach (e :: es) X.env = (false, eval e X.env) :: starEach es X.env
  none : ((backTo pos (starEach es X.env)).any fun a => a.1) = false
/-! ### room, with no repr around -/
structure RG (k : Nat) (A : Around) : Prop where
  r : Room k A
  g : A.guards = some []
theorem RG.mono {j k : Nat} {A : Around} (h : RG k A) (l : j ≤ k) : RG j A := ⟨h.r.mono l, h.g⟩
theorem RG.deeper {k : Nat} {A : Around} (h : RG (k + 1) A) (e : Env) : RG k (A.deeper e) := ⟨h.r.deeper e, h.g⟩
theorem RG.make {k : Nat} {A : Around} (h : RG (k + 1) A) (C : Addr) (us : List Value) (kw : List (Str × Value)) : RG k (A.under (.builtin "type.__call__" ⟨.ref C :: us, kw⟩)) :=
  ⟨h.r.make C us kw, by
    have e : (Code.builtin "type.__call__" ⟨.ref C :: us, kw⟩).guards = [] := by unfold Code.guards; rfl
    have z : (A.under (Code.builtin "type.__call__" ⟨.ref C :: us, kw⟩)).guards = pushGuards (Code.builtin "type.__call__" ⟨.ref C :: us, kw⟩).guards A.guards := by unfold Around.under; rfl
    rw [z, e, h.g]; rfl⟩
/-- what a def promises, called where no repr is around -/
structure FG (P : Program) (w : World) (K : PySem.W.Frag) (mg : Str → Option Value) (base : Heap) (CX : CXT) (k : Nat) (f : Addr) (fd : FuncData) (ps : List Str) (sp : Sp) : Prop where
  few : ∀ (vs : List V) (H : Hp) (Q : VK) (E : XK), sp vs H Q E → vs.length = ps.length
  run : ∀ (A : Around) (outer : List Env) (s : Shared) (H : Hp) (args : Args) (us : List Value) (vs : List V) (Q : VK) (E : XK),
    RG k A → Env0 P w K mg base A outer s H → BindsTo s fd args (ps.zip us) → Vals vs us → sp vs H Q E → codeAny (model P w) A (.call (.ref f) args) (CR CX outer P w H s Q E) s
section
variable {P : Program} {w : World} {K : PySem.W.Frag} {mg : Str → Option Value} {base : Heap} {CX : CXT}
/-- the written part stands in the state of a call -/
theorem has_K {A : Around} {outer : List Env} {s : Shared} {H : Hp} (e : Env0 P w K mg base A outer s H) : K.In s.heap :=
  PySem.W.Frag.In.keeps e.mod.kin (fun a u z => And.left (e.bs a u z))
/-- what a body's end means outside of it -/
theorem body_end {N : List Str} {qual : Str} {scope : Scope} {f : Addr} {cdv : Value} {A : Around} {outer : List Env} {s s' : Shared} {H : Hp} {Q : VK} {E : XK} {fl : Flow}
    (h : SP (cxOf CX P w K mg base N qual scope f cdv A outer s H E) [] { nx := fun _ H' => Q .non H', rt := Q } fl s') :
    match (motive := Flow → Prop) fl with | .ret u => CE outer P w H s Q u s' | .next => CE outer P w H s Q .none s' | _ => False := by
  match fl, h with
  | .ret _, ⟨v, _, H', I, r, q⟩ => exact ⟨v, H', I.os, I.bare, I.base, I.hok, r, q⟩
  | .next, ⟨_, H', I, q⟩ => exact ⟨.non, H', I.os, I.bare, I.base, I.hok, rfl, q⟩
  | .brk, ⟨_, _, _, q⟩ => exact q
  | .cont, ⟨_, _, _, q⟩ => exact q
/-- a parameter has a place in the frame -/
theorem par_place {N ps : List Str} {scope : Scope} (S : FnScope N ps scope) (n : Nat) {us : List Value} (b : Str × Value) (m : b ∈ ps.zip us) :
    scope.names.lookup b.1 = some .local ∨ (scope.names.lookup b.1 = some .cell ∧ ((cellsFrom n scope.names []).lookup b.1).isSome = true) := by
  obtain ⟨p, u⟩ := b
  have c := S.par p (List.of_mem_zip m).1
  exact c.imp id fun c => And.intro c (Option.isSome_iff_exists.mpr (cell_has c))
/-- a def by its body -/
theorem fg_of {x qual : Str} {params : Arguments} {body : List Stmt} {scope : Scope} {dvs : List V} {kws : List (Str × V)} {f : Addr} {fd : FuncData} {N ps : List Str} {k : Nat} {sp : Sp} (F : FunD K x qual params body scope dvs kws f fd) (S : FnScope N ps scope)
    (few : ∀ (vs : List V) (H : Hp) (Q : VK) (E : XK), sp vs H Q E → vs.length = ps.length)
    (run : ∀ (cdv : Value) (A : Around) (outer : List Env) (s : Shared) (H : Hp) (vs : List V) (Q : VK) (E : XK), RG k (A.deeper (envOfC qual scope s.heap.objs.size f cdv)) → sp vs H Q E →
      ∃ t : TS, PSs (cxOf CX P w K mg base N qual scope f cdv A outer s H E) body t ∧
        t { nx := fun _ H' => Q .non H', rt := Q } (start N vs) H) : FG P w K mg base CX (k + 1) f fd ps sp := by
  obtain ⟨oc, od, dV, kV, doc, pm, an, cdv, ct, osl, fdE, stands, code, -⟩ := F.ex
  subst fdE
  constructor
  case few => exact few
  intro A outer s H args us vs Q E room env0 binds vals prom
  have inK := has_K env0
  apply codeAny_call_function room.r.depth (inK _ _ stands) rfl S.co S.gen rfl (PySem.W.codeRec_of inK code)
  apply binds
  apply wpAny_newFunctionEnv_cells S.kind (par_place S _)
  rintro _ rfl s1 inside
  refine And.intro (Heap.NoLimit.keeps (env0.mod.nolimit.keeps fun a u z => And.left (env0.bs a u z)) inside.toInCall.keep) (codeAny_func ?_)
  obtain ⟨t, steps, want⟩ := run cdv A outer s H vs Q E (RG.deeper room _) prom
  have atStart := inv_start (CX := CX) (E := E) (cd := cdv) (f := f) S room.r.hd env0 (few vs H Q E prom) vals inside
  refine wpAny_mono (steps.run [] s1 _ H _ atStart want) (fun fl s' z => ?_) (fun _ _ z => z)
  have z' := body_end z
  cases fl <;> first | exact z' | exact False.elim z'
end
/-! ### calls of such defs -/
section
variable {X : Cx} {CX : CXT} {k : Nat} {f C : Addr} {fd : FuncData} {ps ks : List Str} {sp : Sp} {E : XK} {x m : Str} {p pos apos : Pos} {e o : Expr} {es : List Expr} {kws : List Keyword} {ta : TE} {t tk : TA}
theorem ret_of {pins : List (Addr × Obj)} {σ : L2.St} {H : Hp} {s : Shared} {Q : VK} (hx : Passes CX X E) (I : Inv X pins σ H s) {r : Result} {s' : Shared} (h : CR CX X.stack X.prog X.w H s Q E r s') :
    match r with | .ok (.ret u) => EP X pins σ Q u s' | .ok _ => False | .error e => X.xe e s' := by
  cases r with
  | error e => exact hx pins σ H s e s' I h
  | ok fl => cases fl with
    | ret u => exact I.after h
    | next => exact h
    | brk => exact h
    | cont => exact h
theorem run_g {pins : List (Addr × Obj)} {σ : L2.St} {H : Hp} {s : Shared} {Q : VK} {us : List Value} {vs : List V} (F : FG X.prog X.w X.K X.mg X.base CX k f fd ps sp) (hr : RG k X.A) (hb : Binds X.K fd ps []) (hx : Passes CX X E)
    (I : Inv X pins σ H s) (r : Vals vs us) (h : sp vs H Q E) : wpAny (model X.prog X.w) X.A (call (.ref f) us) (EP X pins σ Q) X.xe s := by
  have hl : us.length = ps.length := r.length.symm.trans (F.few _ _ _ _ h)
  have hbs : BindsTo s fd ⟨us, []⟩ (ps.zip us) := by
    have z := hb s us I.kIn (by rw [List.append_nil]; exact hl)
    rwa [List.append_nil] at z
  refine wpAny_call (codeAny_mono (F.run X.A X.stack s H _ us vs Q E hr I.env0 hbs r h) fun q s' hq => ?_)
  have z := ret_of hx I hq
  cases q with
  | error e => exact z
  | ok fl => cases fl <;> exact z
/-- f(e, ..) -/
theorem pe_g (F : FG X.prog X.w X.K X.mg X.base CX k f fd ps sp) (hr : RG k X.A) (hg : Gl X x) (hm : X.mg x = some (.ref f)) (hk : PySem.W.keepIn X.K (.ref f) = true) (hb : Binds X.K fd ps []) (hx : Passes CX X E) (ha : PA X (e :: es) t)
    (hdb : (x == ("__debug__" : Str)) = false := by decide) (one : OneByOne X e es pos := by exact ⟨rfl, rfl⟩) :
    PE X (.Call (.Name x p) (e :: es) [] pos) (tCall sp [] E t) :=
  ⟨fun pins s σ H Q I h => wpAny_Call_Name_kw (ld_glob I hg hm (PySem.W.callWith_K (h₀ := X.base) I.ok.mod.kin hk (thn (ha.run pos pins s σ H _ I h) fun us s1 ⟨vs, H1, I1, r, q⟩ => ⟨I1.kIn, run_g F hr hb hx I1 r (by simpa using q)⟩) one.next one.none) hdb)⟩
/-- f() -/
theorem pe_g0 (F : FG X.prog X.w X.K X.mg X.base CX k f fd ps sp) (hr : RG k X.A) (hg : Gl X x) (hm : X.mg x = some (.ref f)) (hk : PySem.W.keepIn X.K (.ref f) = true) (hb : Binds X.K fd ps []) (hx : Passes CX X E)
    (hdb : (x == ("__debug__" : Str)) = false := by decide) : PE X (.Call (.Name x p) [] [] pos) (tCall sp [] E tNil) :=
  ⟨fun pins s σ H Q I h => wpAny_Call_Name_kw (ld_glob I hg hm (PySem.W.callWith_K0 I.kIn hk (run_g F hr hb hx I .nil (by simpa [tCall, tNil] using h))) hdb)⟩
/-- o.m(e, ..) -/
theorem pe_gm {pl : Sem Bool} (he : PE X o ta) (c : Cls X.K C) (hm : Meth X.K C m f) (F : FG X.prog X.w X.K X.mg X.base CX k f fd ps sp) (hr : RG k X.A) (hb : Binds X.K fd ps []) (hx : Passes CX X E) (ha : PA X (e :: es) t)
    (one : OneByOne X e es pos := by exact ⟨rfl, rfl⟩)
    (ht : eval (.Call (.Attribute o m apos) (e :: es) [] pos) X.env = (do let ov ← eval o X.env; standAt apos.atName; let (f, first) ← holding [ov] (getMethod ov m pl); callWith pos f first (backTo pos (starEach (e :: es) X.env)) (backToKw pos (keywordEach [] X.env))) := by rfl) :
    PE X (.Call (.Attribute o m apos) (e :: es) [] pos) (tMeth C m sp [] E ta t) := by
  refine ⟨fun pins s σ H Q I h => PySem.W.methodCall_KW (pl := pl) (thn (he.run pins s σ H _ I h) ?_) ht⟩
  rintro u s1 ⟨_, H1, I1, rx, a, dx, fs, rfl, ea, l, q⟩
  cases rx
  refine getmeth_ok I1 ea c hm l (PySem.W.callWith_K (first := [.ref a]) (h₀ := X.base) I.ok.mod.kin hm.kp (thn (ha.run pos pins s1 σ H1 _ I1 q) fun us s2 ⟨vs, H2, I2, r, q2⟩ => ⟨I2.kIn, ?_⟩) one.next one.none)
  exact run_g (us := .ref a :: us) (vs := .ref a :: vs) F hr hb hx I2 (.cons rfl r) (by simpa using q2)
theorem pe_gm0 {pl : Sem Bool} (he : PE X o ta) (c : Cls X.K C) (hm : Meth X.K C m f) (F : FG X.prog X.w X.K X.mg X.base CX k f fd ps sp) (hr : RG k X.A) (hb : Binds X.K fd ps []) (hx : Passes CX X E)
    (ht : eval (.Call (.Attribute o m apos) [] [] pos) X.env = (do let ov ← eval o X.env; standAt apos.atName; let (f, first) ← holding [ov] (getMethod ov m pl); callWith pos f first (backTo pos (starEach [] X.env)) (backToKw pos (keywordEach [] X.env))) := by rfl) :
    PE X (.Call (.Attribute o m apos) [] [] pos) (tMeth C m sp [] E ta tNil) := by
  refine ⟨fun pins s σ H Q I h => PySem.W.methodCall_KW (pl := pl) (thn (he.run pins s σ H _ I h) ?_) ht⟩
  rintro u s1 ⟨_, H1, I1, rx, a, dx, fs, rfl, ea, l, q⟩
  cases rx
  exact getmeth_ok I1 ea c hm l (PySem.W.callWith_K0 (first := [.ref a]) I1.kIn hm.kp (run_g (us := [.ref a]) (vs := [.ref a]) F hr hb hx I1 (.cons rfl .nil) (by simpa [tNil] using q)))
/-- f(e, .., k = v, ..), n values by position: how it binds -/
theorem run_gk {n : Nat} {g : List Value → List Value → List Value} {gV : List V → List V → List V} {pins : List (Addr × Obj)} {σ : L2.St} {H : Hp} {s : Shared} {Q : VK} {us ws : List Value} {vs zs : List V} (F : FG X.prog X.w X.K X.mg X.base CX k f fd ps sp) (hr : RG k X.A)
    (hb : KBn X.K fd ps n ks g gV) (hx : Passes CX X E) (I : Inv X pins σ H s) (r : Vals vs us) (rz : Vals zs ws) (l1 : vs.length = n) (l2 : zs.length = ks.length) (h : sp (gV vs zs) H Q E) :
    wpAny (model X.prog X.w) X.A (call (.ref f) us (ks.zip ws)) (EP X pins σ Q) X.xe s := by
  refine wpAny_call (codeAny_mono (F.run X.A X.stack s H _ (g us ws) _ Q E hr I.env0 (hb.to s us ws I.kIn (r.length.symm.trans l1) (rz.length.symm.trans l2)) (hb.rel r rz) h) fun q s' hq => ?_)
  have z := ret_of hx I hq
  cases q with
  | error e => exact z
  | ok fl => cases fl <;> exact z
def tGK (n m : Nat) (sp : Sp) (gV : List V → List V → List V) (E : XK) (t tk : TA) : TE := fun σ H Q => t σ H fun vs H1 => tk σ H1 fun zs H2 => vs.length = n ∧ zs.length = m ∧ sp (gV vs zs) H2 Q E
/-- f(k = v, ..) -/
theorem pe_gk0 {g : List Value → List Value → List Value} {gV : List V → List V → List V} (F : FG X.prog X.w X.K X.mg X.base CX k f fd ps sp) (hr : RG k X.A) (hg : Gl X x) (hm : X.mg x = some (.ref f)) (hk : PySem.W.keepIn X.K (.ref f) = true) (hb : KBn X.K fd ps 0 ks g gV) (hx : Passes CX X E)
    (hkw : PK X kws tk) (nk : NamedOnly X kws pos ks := by exact ⟨rfl, rfl, rfl⟩)
    (hdb : (x == ("__debug__" : Str)) = false := by decide) :
    PE X (.Call (.Name x p) [] kws pos) (tGK 0 ks.length sp gV E tNil tk) := by
  refine ⟨fun pins s σ H Q I h => wpAny_Call_Name_kw (ld_glob I hg hm (PySem.W.callWith_KW0 (h₀ := X.base) I.ok.mod.kin hk nk.each (thn (hkw.run pos pins s σ H _ I h) ?_) nk.flat) hdb)⟩
  rintro ws s2 ⟨zs, H2, I2, rz, l1, l2, q2⟩
  refine ⟨I2.kIn, ?_⟩
  rw [nk.keys]
  exact run_gk (us := []) (vs := []) F hr hb hx I2 .nil rz rfl l2 q2
/-- a class of one's own is called; Z tells what its __init__ may let out -/
theorem run_new {n : Nat} {g : List Value → List Value → List Value} {gV : List V → List V → List V} {pins : List (Addr × Obj)} {σ : L2.St} {H : Hp} {s : Shared} {Q : VK} {us ws : List Value} {vs zs : List V} {Z : XK} (M : Mk X.K C f) (F : FG X.prog X.w X.K X.mg X.base CX k f fd ps sp) (hr : RG (k + 1) X.A)
    (hb : KBn X.K fd ps (n + 1) ks g gV) (out : ∀ (H' : Hp) (s1 s2 : Shared) (e : Value), Inv X pins σ H' s1 → CX X.stack H' s1 Z e s2 → X.xe e s2) (I : Inv X pins σ H s) (r : Vals vs us) (rz : Vals zs ws) (l1 : vs.length = n) (l2 : zs.length = ks.length)
    (want : ∀ a d : Addr, H a = none → H d = none → d ≠ a → sp (gV (.ref a :: vs) zs) (upd (upd H d (.own a)) a (.ins C d [])) (fun v H' => v = .non ∧ Q (.ref a) H') Z) : wpAny (model X.prog X.w) X.A (call (.ref C) us (ks.zip ws)) (EP X pins σ Q) X.xe s := by
  have J := Inv.made (C := C) I
  have free : ∀ j, H (s.heap.objs.size + j) = none := fun j => I.hok.fresh (Nat.le_add_right _ j)
  have prom := want (s.heap.objs.size + 1) s.heap.objs.size (free 1) (free 0) (Nat.succ_ne_self _).symm
  have self : Vals (V.ref (s.heap.objs.size + 1) :: vs) (Value.ref (s.heap.objs.size + 1) :: us) := Paired.cons rfl r
  have many : (Value.ref (s.heap.objs.size + 1) :: us).length = n + 1 := by rw [← self.length, List.length_cons, l1]
  have manyK : ws.length = ks.length := by rw [← rz.length, l2]
  have body := F.run _ X.stack _ _ _ _ _ _ Z (hr.make C us (ks.zip ws)) (J.env0.make C us (ks.zip ws)) (hb.to _ _ _ J.kIn many manyK) (hb.rel self rz) prom
  refine wpAny_call (make_map I.kIn M.makes M.init (beq_iff_eq.mp M.fn) (codeAny_mono body ?_))
  rintro (e | _ | _ | _ | u) s' z
  · exact out _ _ _ _ J z
  iterate 3 exact False.elim z
  obtain ⟨_, H', J', rv, rfl, q⟩ := J.after z
  exact ⟨rv, .ref (s.heap.objs.size + 1), H', J', rfl, q⟩
theorem run_gmk {n : Nat} {g : List Value → List Value → List Value} {gV : List V → List V → List V} {pins : List (Addr × Obj)} {σ : L2.St} {H : Hp} {s : Shared} {Q : VK} {us ws : List Value} {vs zs : List V} (M : Mk X.K C f) (F : FG X.prog X.w X.K X.mg X.base CX k f fd ps sp) (hr : RG (k + 1) X.A)
    (hb : KBn X.K fd ps (n + 1) ks g gV) (hx : Passes CX X E) (I : Inv X pins σ H s) (r : Vals vs us) (rz : Vals zs ws) (l1 : vs.length = n) (l2 : zs.length = ks.length)
    (want : ∀ a d : Addr, H a = none → H d = none → d ≠ a → sp (gV (.ref a :: vs) zs) (upd (upd H d (.own a)) a (.ins C d [])) (fun v H' => v = .non ∧ Q (.ref a) H') E) :
    wpAny (model X.prog X.w) X.A (call (.ref C) us (ks.zip ws)) (EP X pins σ Q) X.xe s :=
  run_new M F hr hb (fun H' s1 s2 e J z => hx pins σ H' s1 e s2 J z) I r rz l1 l2 want
abbrev tGM := @tMakeK
theorem pe_gmk0 {g : List Value → List Value → List Value} {gV : List V → List V → List V} (M : Mk X.K C f) (F : FG X.prog X.w X.K X.mg X.base CX k f fd ps sp) (hr : RG (k + 1) X.A) (hg : Gl X x) (hm : X.mg x = some (.ref C)) (hb : KBn X.K fd ps 1 ks g gV) (hx : Passes CX X E) (hkw : PK X kws tk)
    (nk : NamedOnly X kws pos ks := by exact ⟨rfl, rfl, rfl⟩) (hdb : (x == ("__debug__" : Str)) = false := by decide)
    :
    PE X (.Call (.Name x p) [] kws pos) (tGM C 0 ks.length sp gV E tNil tk) := by
  refine ⟨fun pins s σ H Q I h => wpAny_Call_Name_kw (ld_glob I hg hm (PySem.W.callWith_KW0 (h₀ := X.base) I.ok.mod.kin M.kp nk.each (thn (hkw.run pos pins s σ H _ I h) ?_) nk.flat) hdb)⟩
  rintro ws s2 ⟨zs, H2, I2, rz, l1, l2, q2⟩
  refine ⟨I2.kIn, ?_⟩
  rw [nk.keys]
  exact run_gmk (us := []) (vs := []) M F hr hb hx I2 .nil rz rfl l2 q2
/-- C(e, ..) by position alone -/
theorem pe_gmk (M : Mk X.K C f) (F : FG X.prog X.w X.K X.mg X.base CX k f fd ps sp) (hr : RG (k + 1) X.A) (hg : Gl X x) (hm : X.mg x = some (.ref C)) {n : Nat} {g : List Value → List Value → List Value} {gV : List V → List V → List V} (hb : KBn X.K fd ps (n + 1) [] g gV) (hx : Passes CX X E) (ha : PA X (e :: es) t)
    (hdb : (x == ("__debug__" : Str)) = false := by decide) (one : OneByOne X e es pos := by exact ⟨rfl, rfl⟩) :
    PE X (.Call (.Name x p) (e :: es) [] pos) (tGM C n 0 sp gV E t tNil) := by
  refine ⟨fun pins s σ H Q I h => wpAny_Call_Name_kw (ld_glob I hg hm (PySem.W.callWith_K (h₀ := X.base) I.ok.mod.kin M.kp (thn (ha.run pos pins s σ H _ I h) ?_) one.next one.none) hdb)⟩
  rintro us s1 ⟨vs, H1, I1, r, l1, l2, q⟩
  refine ⟨I1.kIn, ?_⟩
  exact run_gmk (ks := []) (ws := []) (zs := []) M F hr hb hx I1 r .nil l1 rfl q
end
/-- how a def without defaults binds, keywords among its arguments -/
theorem kb_of {K : PySem.W.Frag} {x qual : Str} {params : Arguments} {body : List Stmt} {scope : Scope} {kws : List (Str × V)} {f : Addr} {fd : FuncData} {ps : List Str} (F : FunD K x qual params body scope [] kws f fd) (n : Nat) (ks : List Str) (g : {α : Type} → List α → List α → List α)
    (hrel : ∀ {vs zs : List V} {us ws : List Value}, Vals vs us → Vals zs ws → Vals (g vs zs) (g us ws))
    (h : ∀ (kV doc pm : Value) (an : Option Addr) (cdv ct : Value) (us ws : List Value), us.length = n → ws.length = ks.length → bindArgs (PySem.W.fnOf x qual params body scope .none kV doc pm an cdv ct) ⟨us, ks.zip ws⟩ = pure (ps.zip (g us ws))) :
    KBn K fd ps n ks (fun us ws => g us ws) (fun vs zs => g vs zs) := by
  have ⟨_, _, dV, kV, doc, pm, an, cdv, ct, _, is, _, _, dflt, _⟩ := F.ex
  subst is
  have none : dV = .none := dflt.elim (·.2) fun z => absurd rfl z.1
  subst none
  exact ⟨fun s us ws _ l1 l2 => .of_eq (h kV doc pm an cdv ct us ws l1 l2), hrel⟩
end G

namespace G
open L2 PyProof.Rows PySem PySem.Spec
open Evl (Ex)
/-! ### data over the abstract heap -/
/-- a dict's key, as data -/
def kD : Key → PyData
  | .inl i => .int i
  | .inr x => .str x
mutual
inductive Dq (K : PySem.W.Frag) (H : Hp) : V → PyData → Prop
  | non : Dq K H .non .none
  | bl (b : Bool) : Dq K H (.bl b) (.bool b)
  | int (i : Int) : Dq K H (.int i) (.int i)
  | str (x : Str) : Dq K H (.str x) (.str x)
  | lst {a : Addr} {xs : List V} {ds : List PyData} (h : SqL K H a xs) (hs : Dqs K H xs ds) : Dq K H (.ref a) (.list ds)
  | tup {a : Addr} {xs : List V} {ds : List PyData} (h : SqT K H a xs) (hs : Dqs K H xs ds) : Dq K H (.ref a) (.tuple ds)
  | dic {a : Addr} {kvs : List (Key × V)} {ds : List PyData} (h : H a = some (.dK kvs)) (hs : Dqs K H (kvs.map fun p => p.2) ds) : Dq K H (.ref a) (.dict ((kvs.map fun p => kD p.1).zip ds))
inductive Dqs (K : PySem.W.Frag) (H : Hp) : List V → List PyData → Prop
  | nil : Dqs K H [] []
  | cons {v : V} {vs : List V} {d : PyData} {ds : List PyData} (h : Dq K H v d) (hs : Dqs K H vs ds) : Dqs K H (v :: vs) (d :: ds)
end
section
variable {K : PySem.W.Frag} {H H' : Hp}
mutual
theorem Dq.mono (e : Ex H H') : ∀ {v : V} {d : PyData}, Dq K H v d → Dq K H' v d
  | _, _, .non => .non
  | _, _, .bl b => .bl b
  | _, _, .int i => .int i
  | _, _, .str x => .str x
  | _, _, .lst h hs => .lst (Evl.ex_l e h) (Dqs.mono e hs)
  | _, _, .tup h hs => .tup (Evl.ex_t e h) (Dqs.mono e hs)
  | _, _, .dic h hs => .dic (e _ _ h) (Dqs.mono e hs)
theorem Dqs.mono (e : Ex H H') : ∀ {v : List V} {d : List PyData}, Dqs K H v d → Dqs K H' v d
  | _, _, .nil => .nil
  | _, _, .cons h hs => .cons (h.mono e) (Dqs.mono e hs)
end
theorem Dq.dic0 {a : Addr} (h : H a = some (.dK [])) : Dq K H (.ref a) (.dict []) := .dic h .nil
theorem Dqs.length : ∀ {xs : List V} {ds : List PyData}, Dqs K H xs ds → xs.length = ds.length
  | _, _, .nil => rfl
  | _, _, .cons _ hs => congrArg Nat.succ (Dqs.length hs)
theorem Dqs.get : ∀ {xs : List V} {ds : List PyData} {i : Nat} {x : V}, Dqs K H xs ds → xs[i]? = some x → ∃ d, ds[i]? = some d ∧ Dq K H x d
  | _, _, _, _, .nil, seen => by simp at seen
  | _, _, 0, _, .cons h _, e => by simp at e; subst e; exact ⟨_, rfl, h⟩
  | _, _, i + 1, _, .cons _ hs, e => by
    obtain ⟨d, h1, h2⟩ := Dqs.get (i := i) hs (by simpa using e)
    exact ⟨d, by simpa using h1, h2⟩
theorem Dqs.at_ : ∀ {xs : List V} {ds : List PyData} {i : Nat} {d : PyData}, Dqs K H xs ds → ds[i]? = some d → ∃ x, xs[i]? = some x ∧ Dq K H x d
  | _, _, _, _, .nil, seen => by simp at seen
  | _, _, 0, _, .cons h _, e => by simp at e; subst e; exact ⟨_, rfl, h⟩
  | _, _, i + 1, _, .cons _ hs, e => by
    obtain ⟨x, h1, h2⟩ := Dqs.at_ (i := i) hs (by simpa using e)
    exact ⟨x, (by simpa using h1), h2⟩
theorem Dqs.append : ∀ {xs ys : List V} {ds es : List PyData}, Dqs K H xs ds → Dqs K H ys es → Dqs K H (xs ++ ys) (ds ++ es)
  | _, _, _, _, .nil, h => h
  | _, _, _, _, .cons h hs, h' => .cons h (Dqs.append hs h')
theorem Dqs.take : ∀ {xs : List V} {ds : List PyData} (n : Nat), Dqs K H xs ds → Dqs K H (xs.take n) (ds.take n)
  | _, _, 0, _ => by simpa using Dqs.nil
  | _, _, _ + 1, .nil => .nil
  | _, _, n + 1, .cons h hs => .cons h (Dqs.take n hs)
theorem Dqs.drop : ∀ {xs : List V} {ds : List PyData} (n : Nat), Dqs K H xs ds → Dqs K H (xs.drop n) (ds.drop n)
  | _, _, 0, h => h
  | _, _, _ + 1, .nil => .nil
  | _, _, n + 1, .cons _ hs => Dqs.drop n hs
theorem Dqs.set : ∀ {xs : List V} {ds : List PyData} {x : V} {d : PyData} (i : Nat), Dqs K H xs ds → Dq K H x d → Dqs K H (xs.set i x) (ds.set i d)
  | _, _, _, _, _, .nil, _ => .nil
  | _, _, _, _, 0, .cons _ hs, h => .cons h hs
  | _, _, _, _, i + 1, .cons g hs, h => .cons g (Dqs.set i hs h)
theorem Dqs.ints (ns : List Int) : Dqs K H (ns.map V.int) (ns.map PyData.int) := by
  induction ns with
  | nil => exact .nil
  | cons n ns ih => exact .cons (.int n) ih
theorem Dqs.ints_inv : ∀ {ns : List Int} {xs : List V}, Dqs K H xs (ns.map PyData.int) → xs = ns.map V.int
  | [], _, .nil => rfl
  | n :: ns, _, .cons h hs => by cases h; rw [List.map_cons, Dqs.ints_inv hs]
mutual
theorem Dq.dp : ∀ {v : V} {d : PyData}, Dq K H v d → d.canLay0 = true → Dp K H v d
  | _, _, .non, _ => .non
  | _, _, .bl b, _ => .bl b
  | _, _, .int i, _ => .int i
  | _, _, .str x, _ => .str x
  | _, _, .lst h hs, c => .lst h (Dqs.dp hs (by simpa [PyData.canLay0] using c))
  | _, _, .tup h hs, c => .tup h (Dqs.dp hs (by simpa [PyData.canLay0] using c))
  | _, _, .dic h _, c => by simp [PyData.canLay0] at c
theorem Dqs.dp : ∀ {v : List V} {d : List PyData}, Dqs K H v d → PyData.canLayAll0 d = true → DpAll K H v d
  | _, _, .nil, _ => .nil
  | _, _, .cons h hs, c => by
    simp only [PyData.canLayAll0, Bool.and_eq_true] at c
    exact .cons (h.dp c.1) (Dqs.dp hs c.2)
end
/-- a value's type's name -/
def tyN : PyData → String
  | .int _ => "int" | .bool _ => "bool" | .str _ => "str" | .none => "NoneType"
  | .dict _ => "dict" | .tuple _ => "tuple" | .list _ => "list"
theorem Dq.ty {v : V} {d : PyData} (h : Dq K H v d) : TyX K H v (.type (tyN d)) := by
  cases h with
  | non => exact .base .non
  | bl b => exact .base (.bl b)
  | int i => exact .base (.int i)
  | str x => exact .base (.str x)
  | dic h _ => exact .base (.dK h)
  | lst h hs => rcases h with (h | ⟨o, h⟩) | ⟨o, its, n, h1, h2, _⟩
                · exact .base (.lst h)
                · exact .base (.frz h)
                · exact .kList h1 h2
  | tup h hs => rcases h with (h | ⟨o, h⟩) | ⟨o, its, n, h1, h2, _⟩
                · exact .base (.tup h)
                · exact .fTuple h
                · exact .kTuple h1 h2
def isT (T : String) : PyData → Bool
  | .none => T == "NoneType" | .bool _ => T == "bool" || T == "int" | .int _ => T == "int" | .str _ => T == "str" | .list _ => T == "list" | .tuple _ => T == "tuple" | .dict _ => T == "dict"
theorem kit_is {d : PyData} {T : String} (hT : T = "int" ∨ T = "bool" ∨ T = "tuple" ∨ T = "list" ∨ T = "str") : PySem.W.kitOne K (.type (tyN d)) (.type T) = some (isT T d) := by
  rcases hT with rfl | rfl | rfl | rfl | rfl <;> cases d <;> simp only [tyN, isT] <;> exact kit_ty (by decide +kernel)
/-- isinstance(x, T) of data -/
theorem rIsi_of {v c : V} {d : PyData} {T : String} {Q : VK} (h : Dq K H v d) (hc : c = .ty T) (q : Q (.bl (isT T d)) H) (hT : T = "int" ∨ T = "bool" ∨ T = "tuple" ∨ T = "list" ∨ T = "str" := by simp) : rIsi K [v, c] H Q :=
  ⟨v, c, _, _, _, rfl, hc ▸ .ty T, h.ty, kit_is hT, q⟩
/-- sys.modules stands in the written part (it is a dict) -/
def Sm (K : PySem.W.Frag) : Prop := ∃ o, K.lookup sysModules = some o ∧ o.cls = .type "dict"
theorem Sm.ne {X : Cx} {pins : List (Addr × Obj)} {σ : L2.St} {H : Hp} {s : Shared} (S : Sm X.K) (I : Inv X pins σ H s) {a : Addr} (h : (∃ o, H a = some o) ∨ ∃ o, X.K.lookup a = some o ∧ o.cls ≠ .type "dict") : sysModules ≠ a := by
  obtain ⟨o, h1, h2⟩ := S
  rintro rfl
  rcases h with ⟨u, h⟩ | ⟨u, h, c⟩
  · have z := (I.bs _ _ (I.mod.kin _ _ h1)).2
    rw [z] at h; cases h
  · rw [h1] at h; cases h; exact c h2
/-! ### repr -/
theorem key_reads {P : Program} {w : World} {h : Heap} {k : Key} {v : Value} (hk : (mixKind P w).is k v = true) : Reads h v (kD k) [] := by
  rcases keyIs_shape hk with ⟨i, u, rfl, rfl⟩ | ⟨x, u, rfl, rfl⟩
  · exact .int i u
  · exact .str x u
theorem keys_read {P : Program} {w : World} {h : Heap} : ∀ {es : List DictEntry} {vs : List (Key × Value)} {kvs : List (Key × V)}, Pairs (mixKind P w) es vs → KV kvs vs → ReadsAll h (es.map (·.key)) (kvs.map fun p => kD p.1) []
  | _, _, _, .nil, .nil => .nil
  | e :: es, (_, _) :: _, (k, _) :: kvs, .cons hk _ hp, .cons r t => by
    obtain ⟨r1, _⟩ := r
    dsimp only at r1 hk
    subst r1
    have z : ReadsAll h (e.key :: es.map (·.key)) (kD k :: kvs.map fun p => kD p.1) ([] ++ []) := .cons (key_reads hk) (keys_read hp t)
    exact z
theorem vals_read {P : Program} {w : World} : ∀ {es : List DictEntry} {vs : List (Key × Value)} {kvs : List (Key × V)}, Pairs (mixKind P w) es vs → KV kvs vs → Vals (kvs.map fun p => p.2) (es.map (·.val))
  | _, _, _, .nil, .nil => .nil
  | e :: _, (_, u) :: _, (_, x) :: _, .cons _ he hp, .cons r t => .cons (by
      have z : L2.RelV x u := r.2
      have y : e.val = u := he
      show L2.RelV x e.val
      rw [y]; exact z) (vals_read hp t)
mutual
theorem Dq.reads {X : Cx} {pins : List (Addr × Obj)} {σ : L2.St} {H : Hp} {s : Shared} (S : Sm X.K) (I : Inv X pins σ H s) : ∀ {v : V} {d : PyData}, Dq X.K H v d → ∀ u, RelV v u → ∃ as, Reads s.heap u d as ∧ sysModules ∉ as
  | _, _, .non, _, r => by cases r; exact ⟨_, .none, by simp⟩
  | _, _, .bl b, _, r => by cases r; exact ⟨_, .bool b, by simp⟩
  | _, _, .int i, _, r => by obtain ⟨t, rfl⟩ := r; exact ⟨_, .int i t, by simp⟩
  | _, _, .str x, _, r => by obtain ⟨t, rfl⟩ := r; exact ⟨_, .str x t, by simp⟩
  | _, _, .lst h hs, _, r => by
    cases r
    obtain ⟨its, rv, ⟨o, n, ho, hc, _, hd⟩, _⟩ := I.list h
    obtain ⟨as, hr, hn⟩ := Dqs.reads S I hs _ rv
    have hne : sysModules ≠ _ := S.ne I (a := _) (by
      rcases h with (h | ⟨o, h⟩) | ⟨o, its, n, h1, h2, _⟩
      · exact .inl ⟨_, h⟩
      · exact .inl ⟨_, h⟩
      · exact .inr ⟨_, h1, by rw [h2]; exact fun z => absurd (Value.type.inj z) (by decide)⟩)
    exact ⟨_, Reads.list ho hc hd (by simpa using hr), by simp [hn, hne]⟩
  | _, _, .tup h hs, _, r => by
    cases r
    obtain ⟨its, rv, ⟨o, ho, hc, n, hd⟩, _⟩ := I.tuple h
    obtain ⟨as, hr, hn⟩ := Dqs.reads S I hs _ rv
    exact ⟨_, Reads.tuple ho hc hd (by simpa using hr), hn⟩
  | _, _, .dic (kvs := kvs) (ds := ds) h hs, _, r => by
    cases r
    have hne : sysModules ≠ _ := S.ne I (.inl ⟨_, h⟩)
    obtain ⟨_, _, vs, kv, o, es, ep, ho, hx, hd, _, hp, _⟩ := I.hok _ _ h
    have hk := keys_read (h := s.heap) hp kv
    obtain ⟨as, hv, hn⟩ := Dqs.reads S I hs _ (vals_read hp kv)
    have l := hs.length
    rw [List.length_map] at l
    exact ⟨_, Reads.dict (kvs := (kvs.map fun p => kD p.1).zip ds) ho hx.1 hd (by rw [List.map_fst_zip (by rw [List.length_map]; omega)]; exact hk) (by rw [List.map_snd_zip (by rw [List.length_map]; omega)]; exact hv), by simp [hne, hn]⟩
theorem Dqs.reads {X : Cx} {pins : List (Addr × Obj)} {σ : L2.St} {H : Hp} {s : Shared} (S : Sm X.K) (I : Inv X pins σ H s) : ∀ {vs : List V} {ds : List PyData}, Dqs X.K H vs ds → ∀ us, Vals vs us → ∃ as, ReadsAll s.heap us ds as ∧ sysModules ∉ as
  | _, _, .nil, _, r => by cases r; exact ⟨_, .nil, by simp⟩
  | _, _, .cons h hs, _, r => by
    cases r with
    | cons r1 r2 =>
      obtain ⟨as, q1, n1⟩ := h.reads S I _ r1
      obtain ⟨bs, q2, n2⟩ := Dqs.reads S I hs _ r2
      exact ⟨_, .cons q1 q2, by simp [n1, n2]⟩
end
/-- repr(x) of data -/
def rRepr (K : PySem.W.Frag) : List V → Hp → VK → Prop := fun xs H Q => ∃ x d, xs = [x] ∧ Dq K H x d ∧ d.showable = true ∧ d.shown.length ≤ sizeLine ∧ d.depth ≤ 60 ∧ Q (.str d.shown) H
theorem call_repr {X : Cx} (S : Sm X.K) (hg : X.A.guards = some []) (hu : X.A.units + 64 < cLine) : CallR X (.builtin "repr") (rRepr X.K) := by
  rintro pins s σ H xs us Q I r ⟨x, d, rfl, h, hs, hz, hd, q⟩
  obtain ⟨u, only, ru⟩ := vals1 r
  subst only
  obtain ⟨as, rd, hn⟩ := h.reads S I u ru
  have core : ∀ a, u = .ref a → wpAny (model X.prog X.w) X.A (call (.builtin "repr") [u]) (EP X pins σ Q) X.xe s := by
    rintro a rfl
    exact repr_of_reads' rd hs (fun _ => hn) hg (by omega) (fun _ _ e => e) (fun h' t tk hk => ⟨.str d.shown, H, I.kept hk, ⟨_, rfl⟩, q⟩) hz
  have sc : ∀ t : Str, d.shown = t → EP X pins σ Q (.str t s.toks) { s with toks := s.toks + 1 } := fun t e => ⟨.str d.shown, H, I.tok _, ⟨_, by rw [e]⟩, q⟩
  cases h with
  | non => cases ru; exact PySem.P.repr_of_none (sc _ (by simp only [PyData.shown]))
  | bl b => cases ru; exact PySem.P.repr_of_bool (sc _ (by simp only [PyData.shown]))
  | int i => obtain ⟨t, rfl⟩ := ru; exact PySem.P.repr_of_int (by simpa [PyData.showable] using hs) (sc _ (by simp only [PyData.shown]))
  | str x => obtain ⟨t, rfl⟩ := ru; exact PySem.P.repr_of_str (sc _ (by simp only [PyData.shown])) (by simpa only [PyData.shown] using hz)
  | lst h hs => cases ru; exact core _ rfl
  | tup h hs => cases ru; exact core _ rfl
  | dic h _ => cases ru; exact core _ rfl
end
end G

namespace G
open L2 PyProof.Rows PySem PySem.Spec
open Evl (Ex)
/-! ### own errors: LeftError.__init__(self, words) -/
/-- LeftError, the parent of all, at C: its __init__ is ValueError's -/
structure ParC (K : PySem.W.Frag) (mg : Str → Option Value) (C : Addr) : Prop where
  g : mg "LeftError" = some (.ref C)
  rd : ∃ mc, PySem.W.readsIn K C mc = true ∧ PySem.W.findCls K (.ref C) mc "__init__" = some (.val (.builtin "ValueError.__init__"))
  ga : some (some (.builtin "type.__getattribute__")) = PySem.W.specialIn K (.ref C) "__getattribute__"
theorem pe_parinit {X : Cx} {C : Addr} {e : Expr} {es : List Expr} {ta : TA} {p1 p2 pos : Pos} {pl : Sem Bool} (T : ParC X.K X.mg C) (hg : Gl X "LeftError") (ha : PA X (e :: es) ta)
    (hc : eval (.Call (.Attribute (.Name "LeftError" p1) "__init__" p2) (e :: es) [] pos) X.env = (do let ov ← eval (.Name "LeftError" p1) X.env; standAt p2.atName; let (f, first) ← holding [ov] (getMethod ov "__init__" pl); callWith pos f first (backTo pos (starEach (e :: es) X.env)) (backToKw pos (keywordEach [] X.env))) := by rfl)
    (one : OneByOne X e es pos := by exact ⟨rfl, rfl⟩) :
    PE X (.Call (.Attribute (.Name "LeftError" p1) "__init__" p2) (e :: es) [] pos) (tVeI X.K ta) := by
  obtain ⟨mc, rd, fi⟩ := T.rd
  refine ⟨fun pins s σ H Q I h => PySem.W.methodCall_KW (ld_glob I hg T.g (PySem.W.method_cls I.kIn T.ga.symm (PySem.W.cls_value I.kIn rd fi rfl ?_))) hc⟩
  refine PyProof.Rows.callWith_method1 (thn (ha.run pos pins _ σ H _ (I.tok _) h) ?_) one.next one.none
  rintro us s1 ⟨_, H1, I1, r1, a, D, ws, rfl, hl, T2, ea, q⟩
  cases r1 with
  | @cons _ u0 _ ur ra rw' =>
    cases ra
    have hn : ur.length ≤ sizeLine := by
      rw [← Paired.length rw', sizeLine_eq]; omega
    exact oinit_ok T2 I1 ea hn fun s' J => ⟨.non, H1, J, rfl, q⟩
/-- a class of errors at C, of a name x, with the fields fs -/
structure ErrC (K : PySem.W.Frag) (mg : Str → Option Value) (x : Str) (C : Addr) : Prop where
  g : mg x = some (.ref C)
  ox : OexC K C
  xf : XfC K C
/-- the promise of __init__(self, f) -/
def spE1 (C : Addr) (f : Str) : Sp := fun vs H Q _ => ∃ (a : Addr) (v : V), vs = [.ref a, v] ∧ H a = some (exo a C none) ∧ ∀ d, H d = none → d ≠ a → Q .non (upd (upd H d (exd d [(f, v)])) a (exo a C (some d)))
def spE2 (C : Addr) (f g : Str) : Sp := fun vs H Q _ => ∃ (a : Addr) (v w : V), vs = [.ref a, v, w] ∧ H a = some (exo a C none) ∧ ∀ d H', H d = none → d ≠ a → H' a = some (exo a C (some d)) → H' d = some (exd d [(g, w), (f, v)]) → (∀ b, b ≠ a → b ≠ d → H' b = H b) → Q .non H'
/-- the error is made: what is left of it is its dict -/
theorem ex_err {H : Hp} {a d : Addr} {o u w : HO} {fs : List (Str × V)} (ha : H a = none) (hd : H d = none) (hne : d ≠ a) : Ex H (upd (del (upd (upd (upd H a o) d u) a w) a) d (.xd fs)) := fun b z e => by
  have b1 : b ≠ a := fun q => by rw [q, ha] at e; cases e
  have b2 : b ≠ d := fun q => by rw [q, hd] at e; cases e
  rw [upd_ne b2, del_ne b1, upd_ne b1, upd_ne b2, upd_ne b1]; exact e
def upA (ta : TA) : TA := fun σ H P => ∃ P', (∀ vs H1, P' vs H1 → P vs H1) ∧ ta σ H P'
theorem PA.up {X : Cx} {es : List Expr} {ta : TA} (h : PA X es ta) : PA X es (upA ta) :=
  ⟨fun pos pins s σ H P I ⟨_, hp, z⟩ => thn (h.run pos pins s σ H _ I z) fun _ _ ⟨vs, H1, J, r, q⟩ => ⟨vs, H1, J, r, hp vs H1 q⟩⟩
def tErr1 (C : Addr) (f : Str) (ta : TA) : L2.St → Hp → XK → Prop := fun σ H Q => ta σ H fun vs H1 => ∃ v, vs = [v] ∧ ∀ d H', H1 d = none → Ex H1 H' → H' d = some (.xd [(f, v)]) → Q (.ref C) (some d) H'
def tErr2 (C : Addr) (f g : Str) (ta : TA) : L2.St → Hp → XK → Prop := fun σ H Q => ta σ H fun vs H1 => ∃ v w, vs = [v, w] ∧ ∀ d H', H1 d = none → Ex H1 H' → H' d = some (.xd [(g, w), (f, v)]) → Q (.ref C) (some d) H'
theorem mkO1 {C : Addr} {f : Str} {ta : TA} {σ : L2.St} {H : Hp} {Q : XK} (h : tErr1 C f ta σ H Q) : tMkO C (spE1 C f) [] (upA ta) σ H Q := by
  refine ⟨_, ?_, h⟩
  rintro _ H1 ⟨v, rfl, q⟩
  refine ⟨by simp, fun a ha => ⟨a, v, rfl, upd_same, fun d hd hne => ⟨rfl, d, [(f, v)], upd_same, by rw [upd_ne hne, upd_same], ?_, ?_⟩⟩⟩
  · rw [upd_ne hne] at hd; exact hd
  · rw [upd_ne hne] at hd
    exact q d _ hd (ex_err ha hd hne) upd_same
theorem mkO2 {C : Addr} {f g : Str} {ta : TA} {σ : L2.St} {H : Hp} {Q : XK} (h : tErr2 C f g ta σ H Q) : tMkO C (spE2 C f g) [] (upA ta) σ H Q := by
  refine ⟨_, ?_, h⟩
  rintro _ H1 ⟨v, w, rfl, q⟩
  refine ⟨by simp, fun a ha => ⟨a, v, w, rfl, upd_same, fun d H' hd hne e1 e2 e3 => ⟨rfl, d, _, e1, e2, ?_, ?_⟩⟩⟩
  · rw [upd_ne hne] at hd; exact hd
  · rw [upd_ne hne] at hd
    refine q d _ hd (fun b z e => ?_) upd_same
    have b1 : b ≠ a := fun q => by rw [q, ha] at e; cases e
    have b2 : b ≠ d := fun q => by rw [q, hd] at e; cases e
    rw [upd_ne b2, del_ne b1, e3 b b1 b2, upd_ne b1]; exact e
section
variable {X : Cx} {CX : CXT} {x : Str} {C fI : Addr} {k : Nat} {fd : FuncData} {e : Expr} {es : List Expr} {ta : TA} {p pos : Pos} {f g : Str}
/-- X(e): an error with one field -/
theorem pmk_err1 {ps : List Str} (T : ErrC X.K X.mg x C) (iC : PySem.W.findIn X.K (.ref C) "__init__" = some (some (.ref fI))) (tI : PySem.W.typeIn X.K (.ref fI) = some (.type "function"))
    (F : FnOk X.prog X.w X.K X.mg X.base CX0 k fI fd ps (spE1 C f)) (hr : RG (k + 1) X.A) (hb : Binds X.K fd ps []) (hg : Gl X x) (ha : PA X (e :: es) ta)
    (hdb : (x == ("__debug__" : Str)) = false := by decide) (one : OneByOne X e es pos := by exact ⟨rfl, rfl⟩) :
    PMk X (.Call (.Name x p) (e :: es) [] pos) (tErr1 C f ta) :=
  fun pins s σ H Q I h => pmk_oex T.ox iC tI F hr.r hb .nil pass0 hg T.g (PA.up ha) hdb one.next one.none pins s σ H Q I (mkO1 h)
theorem pmk_err2 {ps : List Str} (T : ErrC X.K X.mg x C) (iC : PySem.W.findIn X.K (.ref C) "__init__" = some (some (.ref fI))) (tI : PySem.W.typeIn X.K (.ref fI) = some (.type "function"))
    (F : FnOk X.prog X.w X.K X.mg X.base CX0 k fI fd ps (spE2 C f g)) (hr : RG (k + 1) X.A) (hb : Binds X.K fd ps []) (hg : Gl X x) (ha : PA X (e :: es) ta)
    (hdb : (x == ("__debug__" : Str)) = false := by decide) (one : OneByOne X e es pos := by exact ⟨rfl, rfl⟩) :
    PMk X (.Call (.Name x p) (e :: es) [] pos) (tErr2 C f g ta) :=
  fun pins s σ H Q I h => pmk_oex T.ox iC tI F hr.r hb .nil pass0 hg T.g (PA.up ha) hdb one.next one.none pins s σ H Q I (mkO2 h)
end
end G

namespace G
open L2 PyProof.Rows PySem PySem.Spec
open Evl (Ex)
/-! ### what the head tells -/
def kM (n : Nat) (g : Addr → Option Obj) : PySem.W.Frag := He.frG g (sysModules :: cStatics :: He.asD g n)
abbrev AlM : Type := He.AlD × Bool
def obsM (fa : List He.Fa) (fn : List He.DefD) (more : PySem.W.Frag → Bool) (K : PySem.W.Frag) : AlM := (He.obsD fa fn K, more K)
def SaysM (fa : List He.Fa) (fn : List He.DefD) (more : PySem.W.Frag → Bool) (K : PySem.W.Frag) : Prop := obsM fa fn more K = (He.valD fn, true)
def hookM (n : Nat) (fa : List He.Fa) (fn : List He.DefD) (more : PySem.W.Frag → Bool) : PySem.W.Hook where
  α := AlM
  obs := fun s => obsM fa fn more (kM n s.heap.get?)
  val := fun _ => (He.valD fn, true)
  says := fun _ h => ∃ K : PySem.W.Frag, K.In h ∧ SaysM fa fn more K
  of := fun _ _ e => ⟨_, He.frG_in, e⟩
  keeps := fun _ _ _ says kept => says.imp fun _ both => ⟨PySem.W.Frag.In.keeps both.1 kept, both.2⟩
def obM (n : Nat) (fa : List He.Fa) (fn : List He.DefD) (more : PySem.W.Frag → Bool) (s : PySem.W.SharedT) : AlM := obsM fa fn more (kM n (HandSHeadRun.getT s))
theorem obM_eq (n : Nat) (fa : List He.Fa) (fn : List He.DefD) (more : PySem.W.Frag → Bool) (s : PySem.W.SharedT) : obM n fa fn more s = (hookM n fa fn more).obs s.abs := by
  have e : HandSHeadRun.getT s = s.abs.heap.get? := funext (HandSHeadRun.getT_eq s)
  show obsM fa fn more (kM n (HandSHeadRun.getT s)) = obsM fa fn more (kM n s.abs.heap.get?)
  rw [e]
section
variable {fa : List He.Fa} {fn : List He.DefD} {more : PySem.W.Frag → Bool} {K : PySem.W.Frag}
theorem SaysM.d (c : SaysM fa fn more K) : He.SaysD fa fn K := (Prod.mk.inj c).1
theorem SaysM.m (c : SaysM fa fn more K) : more K = true := (Prod.mk.inj c).2
end
/-- sys.modules, as a look -/
def smB (K : PySem.W.Frag) : Bool := match K.lookup sysModules with
  | some o => o.cls == .type "dict"
  | none => false
theorem smB_ok {K : PySem.W.Frag} (h : smB K = true) : Sm K := by
  unfold smB at h
  split at h
  · rename_i o e; exact ⟨o, e, beq_iff_eq.mp h⟩
  · cases h
/-- an own class over ValueError, as a look -/
def oexB (K : PySem.W.Frag) (C : Addr) : Bool := match K.lookup C with
  | some ⟨.type "type", _, .cls own, slots⟩ => (match own.mro, slots.toList with
    | .ref C' :: bm, [_, _, _, _, some (.builtin n), _] => C' == C && n == "ValueError.__new__" && !own.hasDel && own.hasDict && PySem.HandSPX.refsVE bm
    | _, _ => false)
  | _ => false
def clsB (K : PySem.W.Frag) (C : Addr) : Bool := oexB K C && (decide (PySem.W.findIn K (.ref C) "__setattr__" = some (some (.builtin "object.__setattr__"))) && (decide (PySem.W.subIn K (.ref C) (.type "BaseException") = some true) &&
  (decide (PySem.W.typeIn K (.ref C) = some (.type "type")) && PySem.W.keepIn K (.ref C))))
theorem clsB_ok {K : PySem.W.Frag} {C : Addr} (h : clsB K C = true) : OexC K C := by
  unfold clsB at h
  simp only [decide_eq_true_eq, Bool.and_eq_true] at h
  obtain ⟨h1, h2, h3, h4, h5⟩ := h
  refine ⟨?_, h2, h3, h4, h5⟩
  unfold oexB at h1
  split at h1
  · rename_i dd own slots ho
    split at h1
    · rename_i C' bm k0 k1 k2 k3 n k5 line six
      simp only [Bool.and_eq_true, beq_iff_eq, Bool.not_eq_true'] at h1
      obtain ⟨⟨⟨⟨rfl, rfl⟩, hdel⟩, hdi⟩, ht⟩ := h1
      cases own with | mk nm bs mro ns qn hd sn sub ab col del =>
      cases slots with | mk all =>
      dsimp only at line hdel hdi
      subst line hdel hdi six
      exact ⟨nm, qn, ns, bs, bm, sn, sub, ab, col, dd, k0, k1, k2, k3, k5, ho, ht⟩
    · cases h1
  · cases h1
/-- an error class x with the fields fs -/
def errB (K : PySem.W.Frag) (p : Str × List Str) : Bool := clsB K (He.ga K p.1) && (xfB K (He.ga K p.1) && (decide (PySem.W.findIn K (.ref (He.ga K p.1)) "__init__" = some (some (.ref (He.ma K (He.ga K p.1) "__init__")))) &&
  (decide (PySem.W.typeIn K (.ref (He.ma K (He.ga K p.1) "__init__")) = some (.type "function")) && p.2.all fun f => decide (PySem.W.findIn K (.ref (He.ga K p.1)) f = some none))))
structure ErrF (K : PySem.W.Frag) (x : Str) (fs : List Str) : Prop where
  ox : OexC K (He.ga K x)
  xf : XfC K (He.ga K x)
  iC : PySem.W.findIn K (.ref (He.ga K x)) "__init__" = some (some (.ref (He.ma K (He.ga K x) "__init__")))
  tI : PySem.W.typeIn K (.ref (He.ma K (He.ga K x) "__init__")) = some (.type "function")
  no : ∀ f ∈ fs, PySem.W.findIn K (.ref (He.ga K x)) f = some none
theorem errB_ok {K : PySem.W.Frag} {x : Str} {fs : List Str} (h : errB K (x, fs) = true) : ErrF K x fs := by
  unfold errB at h
  simp only [Bool.and_eq_true, decide_eq_true_eq, List.all_eq_true] at h
  obtain ⟨h1, h2, h3, h4, h5⟩ := h
  exact ⟨clsB_ok h1, xfB_ok h2, h3, h4, h5⟩
/-- the parent -/
def parB (K : PySem.W.Frag) : Bool := PySem.W.readsIn K (He.ga K "LeftError") (.type "type") && ((match PySem.W.findCls K (.ref (He.ga K "LeftError")) (.type "type") "__init__" with
  | some (.val v) => v == .builtin "ValueError.__init__"
  | _ => false) && decide (PySem.W.specialIn K (.ref (He.ga K "LeftError")) "__getattribute__" = some (some (.builtin "type.__getattribute__"))))
theorem parB_ok {K : PySem.W.Frag} {mg : Str → Option Value} (h : parB K = true) (hg : mg "LeftError" = some (.ref (He.ga K "LeftError"))) : ParC K mg (He.ga K "LeftError") := by
  unfold parB at h
  simp only [decide_eq_true_eq, Bool.and_eq_true] at h
  obtain ⟨h1, h2, h3⟩ := h
  refine ⟨hg, ⟨.type "type", h1, ?_⟩, h3.symm⟩
  split at h2
  · rename_i v e; rw [e, beq_iff_eq.mp h2]
  · cases h2
/-! ### a global def that is called -/
structure Cal (P : Program) (w : World) (K : PySem.W.Frag) (mg : Str → Option Value) (base : Heap) (CX : CXT) (k : Nat) (x : Str) (ps : List Str) (sp : Sp) : Prop where
  ex : ∃ fd, FG P w K mg base CX k (He.ga K x) fd ps sp ∧ Binds K fd ps [] ∧ ∃ oc od osl, K.lookup (He.ga K x) = some ⟨oc, od, .func fd, osl⟩
  kp : PySem.W.keepIn K (.ref (He.ga K x)) = true
  g : mg x = some (.ref (He.ga K x))
section
variable {P : Program} {w : World} {K : PySem.W.Frag} {mg : Str → Option Value} {base : Heap} {CX : CXT}
theorem cal_of {x : Str} {params : Arguments} {body : List Stmt} {scope : Scope} {N ps : List Str} {k : Nat} {sp : Sp} (F : ∃ fd, FunD K x x params body scope [] [] (He.ga K x) fd) (hm : mg x = some (.ref (He.ga K x))) (S : FnScope N ps scope)
    (hb : ∀ (kV doc pm : Value) (an : Option Addr) (cdv ct : Value) (us : List Value), us.length = ps.length → bindArgs (PySem.W.fnOf x x params body scope .none kV doc pm an cdv ct) ⟨us, []⟩ = pure (ps.zip us))
    (few : ∀ (vs : List V) (H : Hp) (Q : VK) (E : XK), sp vs H Q E → vs.length = ps.length)
    (hbody : ∀ (f : Addr) (cdv : Value) (A : Around) (outer : List Env) (s : Shared) (H : Hp) (vs : List V) (Q : VK) (E : XK), RG k (A.deeper (envOfC x scope s.heap.objs.size f cdv)) → sp vs H Q E →
      ∃ t, PSs (cxOf CX P w K mg base N x scope f cdv A outer s H E) body t ∧ t { nx := fun _ H' => Q .non H', rt := Q } (start N vs) H) :
    Cal P w K mg base CX (k + 1) x ps sp := by
  obtain ⟨fd, F⟩ := F
  refine ⟨⟨fd, fg_of F S few (hbody _), F.bindsN hb, ?_⟩, F.kp, hm⟩
  obtain ⟨oc, od, _, _, _, _, _, _, _, osl, _, lk, _⟩ := F.ex
  exact ⟨oc, od, osl, lk⟩
end
section
variable {X : Cx} {CX : CXT} {k : Nat} {ps : List Str} {sp : Sp} {E : XK} {x : Str} {p pos : Pos} {e : Expr} {es : List Expr} {t : TA}
theorem pe_c (F : Cal X.prog X.w X.K X.mg X.base CX k x ps sp) (hr : RG k X.A) (hg : Gl X x) (hx : Passes CX X E) (ha : PA X (e :: es) t) (hdb : (x == ("__debug__" : Str)) = false := by decide)
    (one : OneByOne X e es pos := by exact ⟨rfl, rfl⟩) : PE X (.Call (.Name x p) (e :: es) [] pos) (tCall sp [] E t) := by
  obtain ⟨fd, G, b, _⟩ := F.ex
  exact pe_g G hr hg F.g F.kp b hx ha hdb one
theorem pe_c0 (F : Cal X.prog X.w X.K X.mg X.base CX k x ps sp) (hr : RG k X.A) (hg : Gl X x) (hx : Passes CX X E) (hdb : (x == ("__debug__" : Str)) = false := by decide) : PE X (.Call (.Name x p) [] [] pos) (tCall sp [] E tNil) := by
  obtain ⟨fd, G, b, _⟩ := F.ex
  exact pe_g0 G hr hg F.g F.kp b hx hdb
end
/-- the def that is called, by its text -/
theorem cal_fg {P : Program} {w : World} {K : PySem.W.Frag} {mg : Str → Option Value} {base : Heap} {CX : CXT} {k : Nat} {x : Str} {ps : List Str} {sp : Sp} {params : Arguments} {body : List Stmt} {scope : Scope} (F : Cal P w K mg base CX k x ps sp) (D : ∃ fd, FunD K x x params body scope [] [] (He.ga K x) fd) :
    ∃ fd, FunD K x x params body scope [] [] (He.ga K x) fd ∧ FG P w K mg base CX k (He.ga K x) fd ps sp := by
  obtain ⟨fd, G, _, oc, od, osl, lk⟩ := F.ex
  obtain ⟨fd', D⟩ := D
  obtain ⟨oc', od', _, _, _, _, _, _, _, osl', _, lk', _⟩ := id D.ex
  rw [lk] at lk'
  cases lk'
  exact ⟨fd, D, G⟩
theorem hu64 {k : Nat} {A : Around} (h : Room k A) : A.units + 64 < cLine := by have := h.un; omega
theorem hu65 {k : Nat} {A : Around} (h : Room k A) : A.units + 65 < cLine := by have := h.un; omega
theorem hu0 {k : Nat} {A : Around} (h : Room k A) : A.units < cLine := by have := h.un; omega
/-! ### promises by the number of arguments -/
abbrev Sp0 := Hp → VK → XK → Prop
def sp0 (R : Hp → VK → XK → Prop) : Sp := fun vs H Q E => vs = [] ∧ R H Q E
def sp1 (R : V → Hp → VK → XK → Prop) : Sp := fun vs H Q E => ∃ a, vs = [a] ∧ R a H Q E
def sp2 (R : V → V → Hp → VK → XK → Prop) : Sp := fun vs H Q E => ∃ a b, vs = [a, b] ∧ R a b H Q E
def sp3 (R : V → V → V → Hp → VK → XK → Prop) : Sp := fun vs H Q E => ∃ a b c, vs = [a, b, c] ∧ R a b c H Q E
def sp4 (R : V → V → V → V → Hp → VK → XK → Prop) : Sp := fun vs H Q E => ∃ a b c d, vs = [a, b, c, d] ∧ R a b c d H Q E
def sp5 (R : V → V → V → V → V → Hp → VK → XK → Prop) : Sp := fun vs H Q E => ∃ a b c d e, vs = [a, b, c, d, e] ∧ R a b c d e H Q E
theorem len0 {R} {vs : List V} {H : Hp} {Q : VK} {E : XK} (h : sp0 R vs H Q E) : vs.length = 0 := by obtain ⟨rfl, _⟩ := h; rfl
theorem len1 {R} {vs : List V} {H : Hp} {Q : VK} {E : XK} (h : sp1 R vs H Q E) : vs.length = 1 := by obtain ⟨_, rfl, _⟩ := h; rfl
theorem len2 {R} {vs : List V} {H : Hp} {Q : VK} {E : XK} (h : sp2 R vs H Q E) : vs.length = 2 := by obtain ⟨_, _, rfl, _⟩ := h; rfl
theorem len3 {R} {vs : List V} {H : Hp} {Q : VK} {E : XK} (h : sp3 R vs H Q E) : vs.length = 3 := by obtain ⟨_, _, _, rfl, _⟩ := h; rfl
theorem len4 {R} {vs : List V} {H : Hp} {Q : VK} {E : XK} (h : sp4 R vs H Q E) : vs.length = 4 := by obtain ⟨_, _, _, _, rfl, _⟩ := h; rfl
theorem len5 {R} {vs : List V} {H : Hp} {Q : VK} {E : XK} (h : sp5 R vs H Q E) : vs.length = 5 := by obtain ⟨_, _, _, _, _, rfl, _⟩ := h; rfl
/-! ### the end -/
/-- the law's def is called: tracked is the script at most, and only where the written part has it not -/
structure Met (P : Program) (w : World) (K : PySem.W.Frag) (h : Heap) (a : Addr) (zs : List V) (H : Hp) : Prop where
  only : Only H
  here : SqL K H a zs
  ok : HOk P w H h
  one : ∀ b, H b = none ∨ (b = a ∧ K.lookup a = none)
section
variable {P : Program} {w : World} {K : PySem.W.Frag} {mg mb : Str → Option Value} {a : Addr} {vs : List Value} {zs : List V} {s : Shared} {H : Hp}
abbrev scriptObj (vs : List Value) : Obj := { cls := .type "list", data := .seq vs.toArray }
theorem met_ex {h : Heap} (inK : K.In h) (at_a : h.get? a = some (scriptObj vs)) (r : Vals zs vs) (few : zs.length ≤ sizeLine) : ∃ H, Met P w K h a zs H := by
  rcases Option.eq_none_or_eq_some (K.lookup a) with out | ⟨u, own⟩
  · have alone : ∀ b, (upd (fun _ => none) a (.frz (scriptObj vs) (.lst zs)) : Hp) b = none ∨ b = a := fun b => by
      by_cases q : b = a
      · exact Or.inr q
      · exact Or.inl (by rw [upd_ne q])
    refine ⟨upd (fun _ => none) a (.frz (scriptObj vs) (.lst zs)), ?_, .inl (.inr ⟨_, upd_same⟩), ?_, fun b => (alone b).imp id fun q => ⟨q, out⟩⟩
    · intro b
      refine (alone b).imp id ?_
      rintro rfl
      exact ⟨_, _, upd_same⟩
    · intro b ob z
      rcases alone b with q | rfl
      · rw [q] at z; exact nomatch z
      · rw [upd_same] at z
        cases z
        exact ⟨at_a, few, vs, _, r, at_a⟩
  · have e := (inK a u own).symm.trans at_a
    cases e
    have size : vs.toArray.size ≤ sizeLine := by
      have := r.length
      rw [List.size_toArray]; omega
    exact ⟨fun _ => none, fun _ => .inl rfl, .inr ⟨_, vs.toArray, _, own, rfl, rfl, rfl, size, by simpa using r⟩, fun _ _ z => (nomatch z), fun _ => .inl rfl⟩
/-- an object that is no list in the state is not tracked -/
theorem Met.free (M : Met P w K s.heap a zs H) (at_a : s.heap.get? a = some (scriptObj vs)) {b : Addr} {o : Obj} (e : s.heap.get? b = some o) (no : b = a → o ≠ scriptObj vs) : (hidT s.heap H).get? b = some o := by
  refine hidT_get e ((M.one b).resolve_right fun ⟨q, _⟩ => no q ?_)
  subst q
  rw [e] at at_a
  exact Option.some.inj at_a
theorem Met.ns (M : Met P w K s.heap a zs H) (at_a : s.heap.get? a = some (scriptObj vs)) {b : Addr} {m : Str → Option Value} (n : s.heap.Ns b m) : (hidT s.heap H).Ns b m := by
  obtain ⟨o, es, ep, e, d, rest⟩ := n
  refine ⟨o, es, ep, M.free at_a e (fun _ q => ?_), d, rest⟩
  rw [q] at d
  exact Data.noConfusion d
theorem Met.env (M : Met P w K s.heap a zs H) (at_a : s.heap.get? a = some (scriptObj vs)) (inK : K.In s.heap) (main : s.heap.Ns mainGlobals mg) (bn : s.heap.Ns builtinsNs mb) (boot : ∀ x : Str, x ≠ "__name__" → mb x = bootBuiltins x) (free : s.heap.NoLimit) (still : s.gens = #[]) :
    K.In (hidT s.heap H) ∧ (hidT s.heap H).Ns mainGlobals mg ∧ Env0 P w K mg (hidT s.heap H) callerA [] s H := by
  have kin : K.In (hidT s.heap H) := fun b o e => by
    refine hidT_get (inK b o e) ((M.one b).resolve_right ?_)
    rintro ⟨rfl, none_⟩
    rw [none_] at e
    exact nomatch e
  have names := M.ns at_a main
  obtain ⟨mc, lim1, lim2⟩ := free
  refine ⟨kin, names, rfl, ⟨kin, names, ⟨mb, M.ns at_a bn, boot⟩, mc, M.ns at_a lim1, lim2⟩, fun _ _ e => of_hidT e, ?_, trivial, ?_, M.ok, AllBare.of_eq still⟩
  · rw [hidT_size]; exact Nat.le_refl _
  · intro b m
    exact absurd m List.not_mem_nil
end
theorem law_callG {P : Program} {w : World} {K : PySem.W.Frag} {mg mb : Str → Option Value} {k : Nat} {fa a : Addr} {fd : FuncData} {x : Str} {sp : Sp} {s : Shared} {vs : List Value} {ns : List Int}
    (inK : K.In s.heap) (main : s.heap.Ns mainGlobals mg) (bn : s.heap.Ns builtinsNs mb) (boot : ∀ x : Str, x ≠ "__name__" → mb x = bootBuiltins x) (free : s.heap.NoLimit) (still : s.gens = #[])
    (at_a : s.heap.get? a = some (scriptObj vs)) (nums : IntsAre vs ns) (few : ns.length ≤ sizeLine) (room : Room k callerA)
    (F : ∀ base : Heap, K.In base → base.Ns mainGlobals mg → FG P w K mg base CX0 k fa fd [x] sp) (binds : ∀ (s : Shared) (u : Value), BindsTo s fd ⟨[u], []⟩ [(x, u)])
    (prom : ∀ H : Hp, Only H → SqL K H a (ns.map V.int) → sp [.ref a] H (fun v _ => v = .bl true) fun _ _ _ => False) :
    codeAny (model P w) callerA (.call (.ref fa) ⟨[.ref a], []⟩) (fun r s' => (r = .ok (.ret (.bool true)) ∧ OldK s.heap s'.heap) ∧ s'.os = s.os ∧ AllBare s'.gens) s := by
  obtain ⟨H, M⟩ := met_ex (P := P) (w := w) inK at_a (vals_ints nums) (by rwa [List.length_map])
  obtain ⟨kin, names, env⟩ := M.env at_a inK main bn boot free still
  have run := (F _ kin names).run callerA [] s H ⟨[.ref a], []⟩ [.ref a] [.ref a] _ _ ⟨room, rfl⟩ env (binds s _) (Paired.cons rfl .nil) (prom H M.only M.here)
  refine codeAny_mono run ?_
  rintro (e | _ | _ | _ | u) s' z
  iterate 4 exact False.elim z
  obtain ⟨v, H', os, bare, un, ok', r, t⟩ := z
  cases (show v = V.bl true from t)
  cases (show u = Value.bool true from r)
  refine ⟨⟨rfl, OldK.of_keep fun b o e => ?_⟩, os, bare⟩
  rcases M.only b with n | ⟨uo, xs, z⟩
  · exact un.keep b o e n (fun m => absurd m List.not_mem_nil) (fun m => absurd m List.not_mem_nil)
  · have old := (M.ok b _ z).1
    rw [e] at old
    cases old
    exact (ok' b _ (un.frzs b _ _ z)).1
theorem walk_G {l : PySem.W.OpenLaw} {n k : Nat} {q : Program} {loose : List Str} {XP : (Str → Option Value) → Heap → Prop} {YP : World → Heap → Prop} {d : DefRec} {x : Str}
    (most : l.most = some n) (line : n ≤ sizeLine) (bare : d.params.defaults = []) (room : Room k callerA)
    (F : ∀ (w : World) (mg : Str → Option Value) (fa : Addr) (h : Heap), YP w h → h.Ns mainGlobals mg → mg d.name = some (.ref fa) → ∃ (K : PySem.W.Frag) (fd : FuncData) (sp : Sp),
      K.In h ∧ (∀ (s : Shared) (u : Value), BindsTo s fd ⟨[u], []⟩ [(x, u)]) ∧ (∀ (H : Hp) (a : Addr) (ns : List Int), ns.length ≤ n → Only H → SqL K H a (ns.map V.int) → sp [.ref a] H (fun v _ => v = .bl true) fun _ _ _ => False) ∧
        ∀ base : Heap, K.In base → base.Ns mainGlobals mg → FG l.prog w K mg base CX0 k fa fd [x] sp) : PySem.W.WalkO q loose XP YP l.row.toRowW d [] (fun f vs => PySem.call f vs) := by
  apply Att.attach_call most bare
  intro w s0 s1 mg mb fa o pm cd doc a vs ns G Y at_f data code name obj nums few gens
  obtain ⟨K, fd, sp, inK, binds, prom, def_⟩ := F w mg fa _ Y G.T.g name
  refine codeAny_mono (law_callG inK G.T.g G.T.b G.T.builtins G.T.nolimit gens obj nums (by omega) room def_ binds fun H only here => prom H a ns few only here) ?_
  exact fun _ _ ⟨⟨z1, z2⟩, z3⟩ => ⟨z1, z2, z3⟩
end G

namespace G
open L2 PyProof.Rows PySem PySem.Spec
open Evl (Ex)
/-! ### what is walked while the old heap stands -/
structure ItS (J : It) (H : Hp) (n : Nat) (item : Nat → V) : Prop where
  go : ∀ i H', Ex H H' → i < n → J.go i H'
  yl : ∀ i x H' H'', Ex H H' → i < n → J.yld i H' x H'' → x = item i ∧ H'' = H'
  st : ∀ H', Ex H H' → J.stop n H'
def nth (xs : List V) (i : Nat) : V := (xs[i]?).getD .non
theorem nth_at {xs : List V} {i : Nat} (h : i < xs.length) : xs[i]? = some (nth xs i) := by
  unfold nth; rw [List.getElem?_eq_getElem h]; rfl
section
variable {K : PySem.W.Frag} {H : Hp} {a : Addr} {xs : List V}
theorem its_l (h : SqL K H a xs) : ItS (Itl K a) H xs.length (nth xs) where
  go := fun i H' e hi => ⟨xs, _, Evl.ex_l e h, nth_at hi⟩
  yl := fun i x H' H'' e hi ⟨h1, h2⟩ => ⟨by have z := h2 xs (Evl.ex_l e h); rw [nth_at hi] at z; exact (Option.some.inj z).symm, h1⟩
  st := fun H' e => ⟨xs, Evl.ex_l e h, Nat.le_refl _⟩
theorem its_t (h : SqT K H a xs) : ItS (Itt K a) H xs.length (nth xs) where
  go := fun i H' e hi => ⟨xs, _, Evl.ex_t e h, nth_at hi⟩
  yl := fun i x H' H'' e hi ⟨h1, h2⟩ => ⟨by have z := h2 xs (Evl.ex_t e h); rw [nth_at hi] at z; exact (Option.some.inj z).symm, h1⟩
  st := fun H' e => ⟨xs, Evl.ex_t e h, Nat.le_refl _⟩
theorem its_r (lo : Int) (n : Nat) : ItS (Itr lo n) H n (fun i => .int (lo + i)) where
  go := fun i H' _ hi => hi
  yl := fun i x H' H'' _ _ ⟨h1, h2⟩ => ⟨h2, h1⟩
  st := fun H' _ => Nat.le_refl n
end
theorem PI.or {X : Cx} {tg l : Expr} {w1 w2 : TI} (h1 : PI X tg l w1) (h2 : PI X tg l w2) : PI X tg l (fun σ H R => w1 σ H R ∨ w2 σ H R) :=
  ⟨fun pins s σ H R I h => h.elim (h1.run pins s σ H R I) (h2.run pins s σ H R I)⟩
/-- a list or a tuple -/
theorem pi_seq {X : Cx} {tg l : Expr} {tl : TE} (h : PE X l tl) : PI X tg l (fun σ H R => iList X.K tl σ H R ∨ iTup X.K tl σ H R) := PI.or (pi_list h) (pi_tup h)
/-- what a comprehension's list holds -/
inductive F2 {α β : Type} (R : α → β → Prop) : List α → List β → Prop where
  | nil : F2 R [] []
  | cons {a : α} {b : β} {as : List α} {bs : List β} : R a b → F2 R as bs → F2 R (a :: as) (b :: bs)
theorem F2.imp {α β : Type} {R R' : α → β → Prop} (f : ∀ a b, R a b → R' a b) : ∀ {as : List α} {bs : List β}, F2 R as bs → F2 R' as bs
  | _, _, .nil => .nil
  | _, _, .cons h hs => .cons (f _ _ h) (F2.imp f hs)
theorem F2.snoc {α β : Type} {R : α → β → Prop} {a : α} {b : β} (h : R a b) : ∀ {as : List α} {bs : List β}, F2 R as bs → F2 R (as ++ [a]) (bs ++ [b])
  | _, _, .nil => .cons h .nil
  | _, _, .cons g hs => .cons g (F2.snoc h hs)
theorem F2.length {α β : Type} {R : α → β → Prop} : ∀ {as : List α} {bs : List β}, F2 R as bs → as.length = bs.length
  | _, _, .nil => rfl
  | _, _, .cons _ hs => congrArg Nat.succ (F2.length hs)
theorem F2.map_eq {α β : Type} {f : α → β} : ∀ {as : List α} {bs : List β}, F2 (fun a b => b = f a) as bs → bs = as.map f
  | _, _, .nil => rfl
  | _, _, .cons h hs => by rw [h, F2.map_eq hs]; rfl
theorem lc_gen {J : It} {H : Hp} {n : Nat} {item : Nat → V} (S : ItS J H n item) {g : TG} {tt : TT} {te : TE} {vs : List Nat} {σ : L2.St} {Q : VK} (fl : Nat → Bool) (R : Nat → Addr → V → Hp → Prop) (hn : n < sizeLine)
    (cl : ∀ i D y H' o, H D = none → R i D y H' → R i D y (upd H' D o)) (mo : ∀ i D y H' H'', Ex H' H'' → R i D y H' → R i D y H'')
    (turn : ∀ i D H', i < n → H D = none → Ex H H' → (∃ acc, H' D = some (.lst acc)) → ∀ (Ny : VK) (Nn : Hp → Prop), (∀ y H4, fl i = true → Ex H' H4 → R i D y H4 → Ny y H4) → (∀ H4, fl i = false → Ex H' H4 → Nn H4) →
      g (item i) (wipe σ vs) H' fun σ2 H2 => wipe σ2 vs = wipe σ vs ∧ tt σ2 H2 fun b H3 => if b = true then te σ2 H3 Ny else Nn H3)
    (fin : ∀ D ys H', H D = none → Ex H H' → H' D = some (.lst ys) → F2 (fun i y => R i D y H') ((List.range n).filter fl) ys → Q (.ref D) H') :
    ∀ D, H D = none → ∃ W : Nat → Nat → Hp → Prop, (∃ m, W 0 m (upd H D (.lst []))) ∧ ∀ i m H, W i m H → (J.stop i H ∧ Q (.ref D) H) ∨ (J.go i H ∧ ∃ Nx : Hp → Prop, (∀ H', Nx H' → ∃ m', m' < m ∧ W (i + 1) m' H') ∧
      ∀ x H', J.yld i H x H' → g x (wipe σ vs) H' fun σ2 H2 => wipe σ2 vs = wipe σ vs ∧ tt σ2 H2 fun b H3 => if b = true then te σ2 H3 fun y H4 => ∃ acc, H4 D = some (.lst acc) ∧ acc.length < sizeLine ∧ Nx (upd H4 D (.lst (acc ++ [y]))) else Nx H3) := by
  intro D hD
  have exD : ∀ {H' : Hp} {o : HO}, Ex H H' → Ex H (upd H' D o) := fun e => Evl.Ex.mut e hD
  refine ⟨fun i m H' => m = n - i ∧ i ≤ n ∧ Ex H H' ∧ ∃ ys, H' D = some (.lst ys) ∧ ys.length ≤ i ∧ F2 (fun i y => R i D y H') ((List.range i).filter fl) ys, ⟨n, by omega, Nat.zero_le _, Evl.Ex.new hD, [], upd_same, Nat.le_refl _, by simpa using F2.nil⟩, ?_⟩
  rintro i m H' ⟨rfl, hi, e, ys, hd, hl, f⟩
  by_cases c : i = n
  · subst c
    exact .inl ⟨S.st H' e, fin D ys H' hD e hd f⟩
  · have hi' : i < n := by omega
    refine .inr ⟨S.go i H' e hi', fun H2 => i + 1 ≤ n ∧ Ex H H2 ∧ ∃ ys, H2 D = some (.lst ys) ∧ ys.length ≤ i + 1 ∧ F2 (fun i y => R i D y H2) ((List.range (i + 1)).filter fl) ys, fun H2 ⟨h1, h2, h3⟩ => ⟨n - (i + 1), by omega, rfl, h1, h2, h3⟩, ?_⟩
    intro x H'' hy
    obtain ⟨rfl, rfl⟩ := S.yl i x H' H'' e hi' hy
    refine turn i D H'' hi' hD e ⟨ys, hd⟩ _ _ (fun y H4 ft e4 r => ?_) (fun H4 ff e4 => ?_)
    · refine ⟨ys, e4 _ _ hd, by omega, hi', exD (e.trans e4), ys ++ [y], upd_same, by rw [List.length_append, List.length_singleton]; omega, ?_⟩
      rw [List.range_succ, List.filter_append, List.filter_cons, if_pos ft, List.filter_nil]
      refine F2.snoc ?_ ?_
      · exact cl i D y H4 _ hD r
      · exact f.imp fun j z q => cl j D z H4 _ hD (mo j D z H'' H4 e4 q)
    · refine ⟨hi', e.trans e4, ys, e4 _ _ hd, by omega, ?_⟩
      rw [List.range_succ, List.filter_append, List.filter_cons, if_neg (by rw [ff]; simp), List.filter_nil, List.append_nil]
      exact f.imp fun j z q => mo j D z H'' H4 e4 q
/-- .. at a comprehension -/
theorem lc_at {wi : TI} {H : Hp} {n : Nat} {item : Nat → V} {g : TG} {tt : TT} {te : TE} {vs : List Nat} {σ : L2.St} {Q : VK} (fl : Nat → Bool) (R : Nat → Addr → V → Hp → Prop) (hn : n < sizeLine)
    (hw : ∀ P : It → Hp → Prop, (∀ J H1, Ex H H1 → ItS J H1 n item → P J H1) → wi σ H P)
    (cl : ∀ i D y H' o, H D = none → R i D y H' → R i D y (upd H' D o)) (mo : ∀ i D y H' H'', Ex H' H'' → R i D y H' → R i D y H'')
    (turn : ∀ i D H', i < n → H D = none → Ex H H' → (∃ acc, H' D = some (.lst acc)) → ∀ (Ny : VK) (Nn : Hp → Prop), (∀ y H4, fl i = true → Ex H' H4 → R i D y H4 → Ny y H4) → (∀ H4, fl i = false → Ex H' H4 → Nn H4) →
      g (item i) (wipe σ vs) H' fun σ2 H2 => wipe σ2 vs = wipe σ vs ∧ tt σ2 H2 fun b H3 => if b = true then te σ2 H3 Ny else Nn H3)
    (fin : ∀ D ys H', H D = none → Ex H H' → H' D = some (.lst ys) → F2 (fun i y => R i D y H') ((List.range n).filter fl) ys → Q (.ref D) H') :
    tLc wi g tt te vs σ H Q := by
  refine hw _ fun J H1 e1 S => ?_
  have un : ∀ {D : Addr}, H1 D = none → H D = none := fun {D} h => Evl.fresh_back e1 h
  exact lc_gen S fl R hn (fun i D y H' o h => cl i D y H' o (un h)) mo (fun i D H' hi h e => turn i D H' hi (un h) (e1.trans e)) fun D ys H' h e => fin D ys H' (un h) (e1.trans e)
/-- a comprehension by a word of the whole list -/
theorem lc_inv {wi : TI} {H B : Hp} {n : Nat} {item : Nat → V} {g : TG} {tt : TT} {te : TE} {vs : List Nat} {σ : L2.St} {Q : VK} (hw : ∀ P : It → Hp → Prop, (∀ J H1, Ex H H1 → ItS J B n item → P J H1) → wi σ H P)
    (Pv : Addr → Nat → Hp → Prop) (h0 : ∀ D H1, Ex H H1 → H1 D = none → Pv D 0 (upd H1 D (.lst []))) (he : ∀ D i H', Pv D i H' → Ex B H')
    (turn : ∀ D i H', i < n → Pv D i H' → g (item i) (wipe σ vs) H' fun σ2 H2 => wipe σ2 vs = wipe σ vs ∧ tt σ2 H2 fun b H3 => if b = true then te σ2 H3 fun y H4 => ∃ acc, H4 D = some (.lst acc) ∧ acc.length < sizeLine ∧ Pv D (i + 1) (upd H4 D (.lst (acc ++ [y]))) else Pv D (i + 1) H3)
    (fin : ∀ D H', Pv D n H' → Q (.ref D) H') : tLc wi g tt te vs σ H Q := by
  refine hw _ fun J H1 e1 S D hD => ?_
  refine ⟨fun i m H' => m = n - i ∧ i ≤ n ∧ Pv D i H', ⟨n, by omega, Nat.zero_le _, h0 D H1 e1 hD⟩, ?_⟩
  rintro i m H' ⟨rfl, hi, p⟩
  by_cases c : i = n
  · subst c
    exact .inl ⟨S.st H' (he _ _ _ p), fin D H' p⟩
  · have hi' : i < n := by omega
    refine .inr ⟨S.go i H' (he _ _ _ p) hi', Pv D (i + 1), fun H2 h => ⟨n - (i + 1), by omega, rfl, hi', h⟩, ?_⟩
    intro x H'' hy
    obtain ⟨rfl, rfl⟩ := S.yl i x H' H'' (he _ _ _ p) hi' hy
    exact turn D i H'' hi' p
/-- .. without a test -/
theorem range_all (n : Nat) : (List.range n).filter (fun _ => true) = List.range n := by simp
/-- a loop -/
theorem for_gen {J : It} {B : Hp} {n : Nat} {item : Nat → V} (S : ItS J B n item) {H : Hp} {g : TG} {tb : TS} {D : Ends} {σ : L2.St} (Pv : Nat → L2.St → Hp → Prop) (h0 : Pv 0 σ H) (he : ∀ i σ' H', Pv i σ' H' → Ex B H')
    (hs : ∀ i σ' H', i < n → Pv i σ' H' → g (item i) σ' H' fun σ2 H2 => tb { D with nx := Pv (i + 1), ct := Pv (i + 1), bk := D.nx } σ2 H2) (hd : ∀ σ' H', Pv n σ' H' → D.nx σ' H') :
    ∃ W : Nat → Nat → L2.St → Hp → Prop, (∃ m, W 0 m σ H) ∧ ∀ i m σ H, W i m σ H → (J.stop i H ∧ D.nx σ H) ∨ (J.go i H ∧ ∃ N : L2.St → Hp → Prop, (∀ σ' H', N σ' H' → ∃ m', m' < m ∧ W (i + 1) m' σ' H') ∧
      ∀ x H', J.yld i H x H' → g x σ H' fun σ2 H2 => tb { D with nx := N, ct := N, bk := D.nx } σ2 H2) := by
  refine ⟨fun i m σ' H' => m = n - i ∧ i ≤ n ∧ Pv i σ' H', ⟨n, by omega, Nat.zero_le _, h0⟩, ?_⟩
  rintro i m σ' H' ⟨rfl, hi, p⟩
  by_cases c : i = n
  · subst c
    exact .inl ⟨S.st H' (he _ _ _ p), hd _ _ p⟩
  · have hi' : i < n := by omega
    refine .inr ⟨S.go i H' (he _ _ _ p) hi', Pv (i + 1), fun σ2 H2 h => ⟨n - (i + 1), by omega, rfl, hi', h⟩, ?_⟩
    intro x H'' hy
    obtain ⟨rfl, rfl⟩ := S.yl i x H' H'' (he _ _ _ p) hi' hy
    exact hs i σ' H'' hi' p
/-- a loop at its statement: what is walked stands in B -/
theorem for_at {wi : TI} {H B : Hp} {n : Nat} {item : Nat → V} {g : TG} {tb : TS} {D : Ends} {σ : L2.St} (hw : ∀ P : It → Hp → Prop, (∀ J H1, Ex H H1 → ItS J B n item → P J H1) → wi σ H P) (Pv : Nat → L2.St → Hp → Prop) (h0 : ∀ H1, Ex H H1 → Pv 0 σ H1) (he : ∀ i σ' H', Pv i σ' H' → Ex B H')
    (hs : ∀ i σ' H', i < n → Pv i σ' H' → g (item i) σ' H' fun σ2 H2 => tb { D with nx := Pv (i + 1), ct := Pv (i + 1), bk := D.nx } σ2 H2) (hd : ∀ σ' H', Pv n σ' H' → D.nx σ' H') : tFor wi g tb D σ H :=
  hw _ fun J H1 e1 S => for_gen S Pv (h0 H1 e1) he hs hd
theorem ItS.mono {J : It} {B H : Hp} {n : Nat} {item : Nat → V} (S : ItS J B n item) (e : Ex B H) : ItS J H n item :=
  ⟨fun i H' e' => S.go i H' (e.trans e'), fun i x H' H'' e' => S.yl i x H' H'' (e.trans e'), fun H' e' => S.st H' (e.trans e')⟩
theorem seq_at {t u : TS} {D : Ends} {σ : L2.St} {H : Hp} (h : t { D with nx := u D } σ H) : tSeq t u D σ H := h
theorem asg_at {te : TE} {g : TG} {D : Ends} {σ : L2.St} {H : Hp} (h : te σ H fun v H1 => g v σ H1 D.nx) : tAsg te g D σ H := h
theorem ret_at {te : TE} {D : Ends} {σ : L2.St} {H : Hp} (h : te σ H D.rt) : tRet te D σ H := h
theorem cb_at {r : List V → Hp → VK → Prop} {te : TE} {σ : L2.St} {H : Hp} {Q : VK} (h : te σ H fun v H1 => r [v] H1 Q) : tCB r (tCons te tNil) σ H Q := h
theorem take_snoc' {α : Type} {l : List α} {i : Nat} {x : α} (h : l[i]? = some x) : l.take (i + 1) = l.take i ++ [x] := by
  rw [List.take_add_one, h]; rfl
/-! the walks -/
section
variable {K : PySem.W.Frag} {H B : Hp} {a : Addr} {xs : List V} {σ : L2.St} {i : Nat} {P : It → Hp → Prop}
theorem w_list (hs : σ[i]? = some (some (.ref a))) (h : SqL K B a xs) (h' : SqL K H a xs) (q : ∀ J H1, Ex H H1 → ItS J B xs.length (nth xs) → P J H1) : iList K (tVar i) σ H P := ⟨_, hs, a, rfl, ⟨xs, h'⟩, q _ _ (Evl.Ex.refl _) (its_l h)⟩
theorem w_tup (hs : σ[i]? = some (some (.ref a))) (h : SqT K B a xs) (h' : SqT K H a xs) (q : ∀ J H1, Ex H H1 → ItS J B xs.length (nth xs) → P J H1) : iTup K (tVar i) σ H P := ⟨_, hs, a, rfl, ⟨xs, h'⟩, q _ _ (Evl.Ex.refl _) (its_t h)⟩
theorem w_seq (hs : σ[i]? = some (some (.ref a))) (h : SqL K B a xs ∨ SqT K B a xs) (e : Ex B H) (q : ∀ J H1, Ex H H1 → ItS J B xs.length (nth xs) → P J H1) : iList K (tVar i) σ H P ∨ iTup K (tVar i) σ H P :=
  h.elim (fun h => .inl (w_list hs h (Evl.ex_l e h) q)) fun h => .inr (w_tup hs h (Evl.ex_t e h) q)
/-- .. ahead of a comprehension -/
theorem l_list (hs : σ[i]? = some (some (.ref a))) (h : SqL K H a xs) (q : ∀ J H1, Ex H H1 → ItS J H1 xs.length (nth xs) → P J H1) : iList K (tVar i) σ H P := w_list hs h h fun J H1 e S => q J H1 e (S.mono e)
theorem l_tup (hs : σ[i]? = some (some (.ref a))) (h : SqT K H a xs) (q : ∀ J H1, Ex H H1 → ItS J H1 xs.length (nth xs) → P J H1) : iTup K (tVar i) σ H P := w_tup hs h h fun J H1 e S => q J H1 e (S.mono e)
theorem l_seq (hs : σ[i]? = some (some (.ref a))) (h : SqL K H a xs ∨ SqT K H a xs) (q : ∀ J H1, Ex H H1 → ItS J H1 xs.length (nth xs) → P J H1) : iList K (tVar i) σ H P ∨ iTup K (tVar i) σ H P :=
  w_seq hs h (Evl.Ex.refl _) fun J H1 e S => q J H1 e (S.mono e)
end
/-! rules with the written part told by a letter (a comprehension's block must not show in a reading) -/
section
variable {X : Cx} {K : PySem.W.Frag}
theorem ix_listK (h : X.K = K := by rfl) : IxR X (rIxL K) := h ▸ ix_list
theorem ix_tupK (h : X.K = K := by rfl) : IxR X (rIxT K) := h ▸ ix_tup
theorem ix_seqK (h : X.K = K := by rfl) : IxR X (rIx K) := h ▸ ix_seq
theorem op_inK (h : X.K = K := by rfl) : OpR X (compareOp .In) (rIn K false) := h ▸ op_in_seq
theorem op_ninK (h : X.K = K := by rfl) : OpR X (compareOp .NotIn) (rIn K true) := h ▸ op_notIn_seq
theorem op_eqDK (hu : X.A.units + 64 < cLine) (h : X.K = K := by rfl) : OpR X (compareOp .Eq) (rEqD K) := h ▸ op_eqD hu
theorem op_neDK (hu : X.A.units + 64 < cLine) (h : X.K = K := by rfl) : OpR X (compareOp .NotEq) (rNeD K) := h ▸ op_neD hu
theorem op_ltTK (hu : X.A.units < cLine) (h : X.K = K := by rfl) : OpR X (compareOp .Lt) (rLtT K) := h ▸ op_ltT hu
theorem op_catAK (h : X.K = K := by rfl) : OpR X (binaryOp .Add) (rCatA K) := h ▸ op_catA
theorem sl_listK (h : X.K = K := by rfl) : SlR X (rSlL K) := h ▸ sl_list
theorem sl_tupK (h : X.K = K := by rfl) : SlR X (rSlT K) := h ▸ sl_tup
def rLenQ (K : PySem.W.Frag) : List V → Hp → VK → Prop := fun xs H Q => ∃ p ys, xs = [.ref p] ∧ (SqL K H p ys ∨ SqT K H p ys) ∧ Q (.int ys.length) H
theorem call_lenK (h : X.K = K := by rfl) : CallR X (.builtin "len") (rLenQ K) := by subst h; exact call_len_seq
def rListOf (K : PySem.W.Frag) : List V → Hp → VK → Prop := fun xs H Q => ∃ p ys, xs = [.ref p] ∧ (SqL K H p ys ∨ SqT K H p ys) ∧ ∀ l, H l = none → Q (.ref l) (upd H l (.lst ys))
theorem call_listK (h : X.K = K := by rfl) : CallR X (.type "list") (rListOf K) := by subst h; exact call_list_of
def rTupOf (K : PySem.W.Frag) : List V → Hp → VK → Prop := fun xs H Q => ∃ p ys, xs = [.ref p] ∧ ((SqL K H p ys ∧ ∀ l, H l = none → Q (.ref l) (upd H l (.tup ys))) ∨ (SqT K H p ys ∧ Q (.ref p) H))
theorem call_tupK (h : X.K = K := by rfl) : CallR X (.type "tuple") (rTupOf K) := by subst h; exact call_tuple_of
theorem call_isiK' (h : X.K = K := by rfl) : CallR X (.builtin "isinstance") (rIsi K) := h ▸ call_isi
theorem call_isiTK (h : X.K = K := by rfl) : CallR X (.builtin "isinstance") (rIsiT K) := h ▸ call_isiT
theorem call_reprK (S : Sm X.K) (hg : X.A.guards = some []) (hu : X.A.units + 64 < cLine) (h : X.K = K := by rfl) : CallR X (.builtin "repr") (rRepr K) := h ▸ call_repr S hg hu
theorem cr_sumK (hc : X.calm = true) (h : X.K = K := by rfl) : CallR X (.builtin "sum") (rSum K) := h ▸ cr_sum hc
theorem cr_allK (hc : X.calm = true) (h : X.K = K := by rfl) : CallR X (.builtin "all") (rAll K) := h ▸ cr_all hc
theorem cr_sortedIK (h : X.K = K := by rfl) : CallR X (.builtin "sorted") (rSortedI K) := h ▸ cr_sortedI
theorem cr_sortedPOK (h : X.K = K := by rfl) : CallR X (.builtin "sorted") (rSortedPO K) := h ▸ cr_sortedPO
theorem pa_starK {e : Expr} {es : List Expr} {te : TE} {t : TA} {p : Pos} (he : PE X e te) (hr : PA X es t) (h : X.K = K := by rfl) (hs : starEach (.Starred e p :: es) X.env = (true, eval e X.env) :: starEach es X.env := by rfl) : PA X (.Starred e p :: es) (StX.tStar K te t) := h ▸ StX.pa_star he hr hs
theorem pe_fldK {e : Expr} {te : TE} {f : Str} {pos : Pos} (he : PE X e te) (h : X.K = K := by rfl) (hb : attributeBase e f X.env (eval e X.env) = eval e X.env := by rfl) : PE X (.Attribute e f pos) (tFld K te f) := h ▸ pe_fld he hb
end
/-- all of truth values told by the places -/
theorem all_range_map (n : Nat) (f : Nat → Bool) : ((List.range n).map f).all id = decide (∀ i, i < n → f i = true) := by
  rw [Bool.eq_iff_iff]; simp
end G

namespace G
open L2 PyProof.Rows PySem PySem.Spec
open Evl (Ex)
/-! ### own classes answering in, len, == -/
theorem RG.in1 {k : Nat} {A : Around} (h : RG (k + 1) A) : RG k A.in1 := ⟨h.r.in1, h.g⟩
/-- the class at C answers the name m by the def at f -/
structure Spc (K : PySem.W.Frag) (C : Addr) (m : Str) (f : Addr) : Prop where
  s : PySem.W.findIn K (.ref C) m = some (some (.ref f))
  fn : true = PySem.W.isFn K (.ref f)
section
variable {X : Cx} {CX : CXT} {k : Nat} {f C : Addr} {fd : FuncData} {ps : List Str} {sp : Sp} {E : XK} {m : Str}
/-- run_g, anywhere below the running body -/
theorem run_gA {A : Around} {pins : List (Addr × Obj)} {σ : L2.St} {H : Hp} {s : Shared} {Q : VK} {us : List Value} {vs : List V} (F : FG X.prog X.w X.K X.mg X.base CX k f fd ps sp) (hA : A.frames = X.A.frames) (hr : RG k A) (hb : Binds X.K fd ps []) (hx : Passes CX X E)
    (I : Inv X pins σ H s) (r : Vals vs us) (h : sp vs H Q E) : wpAny (model X.prog X.w) A (call (.ref f) us) (EP X pins σ Q) X.xe s := by
  have nl : us.length = ps.length := r.length.symm.trans (F.few _ _ _ _ h)
  have bt : BindsTo s fd ⟨us, []⟩ (ps.zip us) := by
    have z := hb s us I.kIn (by rw [List.append_nil]; exact nl)
    rwa [List.append_nil] at z
  have e1 := I.env0
  have e0 : Env0 X.prog X.w X.K X.mg X.base A X.stack s H := { e1 with frames := by rw [hA]; exact e1.frames }
  refine wpAny_call (codeAny_mono (F.run A X.stack s H _ us vs Q E hr e0 bt r h) fun q s' hq => ?_)
  have y := ret_of hx I hq
  cases q with
  | error e => exact y
  | ok fl => cases fl <;> exact y
/-- an own instance, with the answer's promise at it -/
def InsAt (C a : Addr) (H : Hp) : Prop := ∃ dx fs, H a = some (.ins C dx fs)
theorem InsAt.mono {a : Addr} {H H' : Hp} (e : Ex H H') (h : InsAt C a H) : InsAt C a H' := let ⟨d, fs, z⟩ := h; ⟨d, fs, e _ _ z⟩
def rInO (C : Addr) (neg : Bool) (sp : Sp) (E : XK) : R2 := fun x y H Q => ∃ a, y = .ref a ∧ InsAt C a H ∧ sp [.ref a, x] H (fun v H' => ∃ b, v = .bl b ∧ Q (.bl (if neg then !b else b)) H') E
theorem op_inO (T : Spc X.K C "__contains__" f) (F : FG X.prog X.w X.K X.mg X.base CX k f fd ps sp) (hr : RG k X.A) (hb : Binds X.K fd ps []) (hx : Passes CX X E) : OpR X (compareOp .In) (rInO C false sp E) := by
  rintro pins s σ H x y v u Q I rx ry ⟨a, rfl, ⟨dx, fs, ha⟩, h⟩
  cases ry
  obtain ⟨_, J, _⟩ := ins_get I.hok ha
  obtain ⟨od, J, _⟩ := J.look
  obtain ⟨m, hF⟩ := I.fr
  refine PySem.W.in_K hF I.ok.mod.kin J T.s T.fn.symm (wpAny_mono (run_gA (us := [.ref a, v]) (vs := [.ref a, x]) F rfl hr hb hx I (.cons rfl (.cons rx .nil)) h) (fun r s' ⟨z, H', J', rz, b, hz, q⟩ => ?_) fun _ _ z => z)
  subst hz
  cases rz
  exact wpAny_truthy_bool ⟨.bl _, H', J', rfl, q⟩
theorem op_ninO (T : Spc X.K C "__contains__" f) (F : FG X.prog X.w X.K X.mg X.base CX k f fd ps sp) (hr : RG k X.A) (hb : Binds X.K fd ps []) (hx : Passes CX X E) : OpR X (compareOp .NotIn) (rInO C true sp E) := by
  rintro pins s σ H x y v u Q I rx ry ⟨a, rfl, ⟨dx, fs, ha⟩, h⟩
  cases ry
  obtain ⟨_, J, _⟩ := ins_get I.hok ha
  obtain ⟨od, J, _⟩ := J.look
  obtain ⟨m, hF⟩ := I.fr
  refine PySem.W.notIn_K hF I.ok.mod.kin J T.s T.fn.symm (wpAny_mono (run_gA (us := [.ref a, v]) (vs := [.ref a, x]) F rfl hr hb hx I (.cons rfl (.cons rx .nil)) h) (fun r s' ⟨z, H', J', rz, b, hz, q⟩ => ?_) fun _ _ z => z)
  subst hz
  cases rz
  exact wpAny_truthy_bool ⟨.bl _, H', J', rfl, q⟩
def rLenO (C : Addr) (sp : Sp) (E : XK) : List V → Hp → VK → Prop := fun xs H Q => ∃ a, xs = [.ref a] ∧ InsAt C a H ∧ sp [.ref a] H (fun v H' => ∃ n : Int, v = .int n ∧ (0 ≤ n ∧ n < 2 ^ 63) ∧ Q (.int n) H') E
theorem call_lenO (T : Spc X.K C "__len__" f) (F : FG X.prog X.w X.K X.mg X.base CX k f fd ps sp) (hr : RG (k + 1) X.A) (hb : Binds X.K fd ps []) (hx : Passes CX X E) : CallR X (.builtin "len") (rLenO C sp E) := by
  rintro pins s σ H xs us Q I r ⟨a, rfl, ⟨dx, fs, ha⟩, h⟩
  obtain ⟨u, only, ru⟩ := vals1 r
  subst only
  cases ru
  obtain ⟨_, J, _⟩ := ins_get I.hok ha
  obtain ⟨od, J, _⟩ := J.look
  obtain ⟨m, hF⟩ := I.fr
  refine PySem.W.len_K hF I.ok.mod.kin J T.s T.fn.symm (wpAny_mono (run_gA (us := [.ref a]) (vs := [.ref a]) F rfl hr.in1 hb hx I (.cons rfl .nil) h) (fun r s' ⟨z, H', J', rz, n, hz, hn, q⟩ => ?_) fun _ _ z => z)
  subst hz
  obtain ⟨t, rfl⟩ := rz
  exact ⟨hn, .int n, H', J'.tok _, ⟨_, rfl⟩, q⟩
end
/-! ### in, index: tuples of data -/
section
variable {X : Cx} {K : PySem.W.Frag}
def rInT (K : PySem.W.Frag) : R2 := fun x y H Q => ∃ d ds, Dp K H x d ∧ Dp K H y (.tuple ds) ∧ SeqAt.shaped d = true ∧ SeqAt.shaped (.tuple ds) = true ∧ Q (.bl (ds.any fun z => PyData.eqv z d)) H
theorem tup_parts {pins : List (Addr × Obj)} {σ : L2.St} {H : Hp} {s : Shared} {a : Addr} {ds : List PyData} (I : Inv X pins σ H s) (h : Dp X.K H (.ref a) (.tuple ds)) (c : SeqAt.shaped (.tuple ds) = true) :
    ∃ its as, s.heap.IsTuple a its.toArray ∧ ReadsAll s.heap its ds as ∧ PyData.canLayAll0 ds = true ∧ its.length ≤ sizeLine := by
  have lay : PyData.canLayAll0 ds = true := by have z := SeqAt.canLay_of_shaped c; simpa [PyData.canLay0] using z
  cases h with
  | tup hs ha =>
    have ⟨its, rv, lies, short⟩ := I.tuple hs
    have ⟨as, q⟩ := Dp.readsAll I ds _ its ha rv
    exact ⟨its, as, lies, q, lay, rv.length ▸ short⟩
theorem op_inT (hu : X.A.units + 65 < cLine) (h : X.K = K := by rfl) : OpR X (compareOp .In) (rInT K) := by
  subst h
  rintro pins s σ H x y v u Q I rx ry ⟨d, ds, hd, he, sd, se, q⟩
  obtain ⟨bs, r1⟩ := Dp.reads I d x v hd rx
  cases y with
  | ref a =>
    cases ry
    obtain ⟨its, as, pl, rs, lay, _⟩ := tup_parts I he se
    refine SeqAt.in_tupleAt (fun z => PyData.eqv (SeqAt.readOf s.heap z) d) pl (SeqAt.items_eqAt (vs := its.toArray) rs r1 lay (SeqAt.canLay_of_shaped sd) (room_in_shaped sd hu)) ⟨.bl _, H, I, rfl, ?_⟩
    rw [SeqAt.any_by_data rs lay]
    exact q
  | _ => cases he
def rIndexT (K : PySem.W.Frag) : V → List V → Hp → VK → Prop := fun x xs H Q => ∃ (a : Addr) (y : V) (d : PyData) (ds : List PyData) (j : Nat) (z : PyData), x = V.ref a ∧ xs = [y] ∧ Dp K H (V.ref a) (.tuple ds) ∧ Dp K H y d ∧
  SeqAt.shaped (.tuple ds) = true ∧ SeqAt.shaped d = true ∧ ds[j]? = some z ∧ PyData.eqv z d = true ∧ (∀ (m : Nat) (z' : PyData), m < j → ds[m]? = some z' → PyData.eqv z' d = false) ∧ Q (.int (j : Nat)) H
theorem mt_indexT (hu : X.A.units + 65 < cLine) (h : X.K = K := by rfl) : MtR X "tuple.index" (rIndexT K) := by
  subst h
  rintro pins s σ H x xs v us Q I rx rxs ⟨a, y, d, ds, j, z, rfl, rfl, hl, hy, sl, sd, hz, hzj, hno, q⟩
  cases rx
  obtain ⟨uy, rfl, ry⟩ := vals1 rxs
  have ⟨bs, r1⟩ := Dp.reads I d _ _ hy ry
  obtain ⟨its, as, ⟨⟨cls, dd, dt, sls⟩, ho, hc, n, hdt⟩, rs, lay, hlen⟩ := tup_parts I hl sl
  simp only at hc hdt
  subst hc hdt
  have mp : its.map (SeqAt.readOf s.heap) = ds := SeqAt.readsAll_map ds its as lay rs
  have le : its.length = ds.length := by rw [← mp, List.length_map]
  have rd : ∀ (m : Nat) (hm : m < its.toArray.size) (z' : PyData), ds[m]? = some z' → SeqAt.readOf s.heap its.toArray[m] = z' := by
    intro m _ z' e
    rw [← mp, List.getElem?_map, Option.map_eq_some_iff] at e
    obtain ⟨v, at_m, is⟩ := e
    rw [← is, List.getElem_toArray, (List.getElem?_eq_some_iff.mp at_m).2]
  have jd := (List.getElem?_eq_some_iff.mp hz).1
  have hj : j < its.toArray.size := by rw [List.size_toArray]; omega
  refine call_meets PySem.F.slot_tuple_index ⟨_, ho, rfl⟩ PySem.F.entry_tuple_index (PySem.F.args_tuple_index_2 _ _)
    (TI.tuple_indexAt a its.toArray n dd sls uy (fun u => PyData.eqv (SeqAt.readOf s.heap u) d) j hj ?_ ?_) ⟨ho, SeqAt.items_eqAt (vs := its.toArray) rs r1 lay (SeqAt.canLay_of_shaped sd) (room_in_shaped sd hu), ⟨.int (j : Nat), H, I.tok _, ⟨_, rfl⟩, q⟩⟩
  · exact (congrArg (PyData.eqv · d) (rd j hj z hz)).trans hzj
  · intro m hm mj
    have e : ds[m]? = some ds[m] := List.getElem?_eq_getElem (by omega)
    exact (congrArg (PyData.eqv · d) (rd m hm _ e)).trans (hno m _ mj e)
end
/-! ### tuple(..) of data; data that lies apart from a list -/
theorem tup_any {K : PySem.W.Frag} {H : Hp} {p : Addr} {ys : List V} {ds : List PyData} {Q : VK} (hx : SqL K H p ys ∨ SqT K H p ys) (hd : Dqs K H ys ds) (k : ∀ v H', Ex H H' → Dq K H' v (.tuple ds) → Q v H') : rTupOf K [.ref p] H Q :=
  ⟨p, ys, rfl, hx.elim (fun h => .inl ⟨h, fun l hl => k _ _ (Evl.Ex.new hl) (.tup (SqT.of upd_same) (hd.mono (Evl.Ex.new hl)))⟩) fun h => .inr ⟨h, k _ _ (Evl.Ex.refl _) (.tup h hd)⟩⟩
mutual
/-- no list and no dict in it -/
def tups : PyData → Bool
  | .list _ => false
  | .dict _ => false
  | .tuple ds => tupsAll ds
  | _ => true
def tupsAll : List PyData → Bool
  | [] => true
  | d :: ds => tups d && tupsAll ds
end
theorem tupsAll_iff : ∀ {ds : List PyData}, tupsAll ds = true ↔ ∀ d ∈ ds, tups d = true
  | [] => by simp [tupsAll]
  | d :: ds => by rw [tupsAll, Bool.and_eq_true, tupsAll_iff]; simp
theorem Ex.del {H H' : Hp} {D : Addr} (e : Ex H H') : Ex (L2.del H D) (L2.del H' D) := fun a o z => by
  unfold L2.del at *
  split at z
  · cases z
  · rename_i c; rw [if_neg c]; exact e _ _ z
theorem Ex.ofDel {H : Hp} {D : Addr} : Ex (L2.del H D) H := fun a o z => by
  unfold L2.del at z
  split at z
  · cases z
  · exact z
theorem del_upd {H : Hp} {D : Addr} {o : HO} : L2.del (upd H D o) D = L2.del H D := by
  funext b
  unfold L2.del
  split
  · rfl
  · rename_i c; exact upd_ne c
theorem SqT.del {K : PySem.W.Frag} {H : Hp} {D a : Addr} {xs acc : List V} (h : SqT K H a xs) (hD : H D = some (.lst acc)) : SqT K (L2.del H D) a xs := by
  refine Or.imp_left (fun here => ?_) h
  have apart : a ≠ D := fun z => by
    subst z
    exact here.elim (fun e => nomatch hD.symm.trans e) fun ⟨o, e⟩ => nomatch hD.symm.trans e
  have same := del_ne (H := H) apart
  exact here.imp same.trans fun ⟨o, e⟩ => ⟨o, same.trans e⟩
mutual
theorem Dq.del {K : PySem.W.Frag} {H : Hp} {D : Addr} {acc : List V} (hD : H D = some (.lst acc)) : ∀ {v : V} {d : PyData}, Dq K H v d → tups d = true → Dq K (L2.del H D) v d
  | _, _, .non, _ => .non
  | _, _, .bl b, _ => .bl b
  | _, _, .int i, _ => .int i
  | _, _, .str x, _ => .str x
  | _, _, .lst h hs, c => by simp [tups] at c
  | _, _, .tup h hs, c => .tup (SqT.del h hD) (Dqs.del hD hs (by simpa [tups] using c))
  | _, _, .dic h _, c => by simp [tups] at c
theorem Dqs.del {K : PySem.W.Frag} {H : Hp} {D : Addr} {acc : List V} (hD : H D = some (.lst acc)) : ∀ {v : List V} {d : List PyData}, Dqs K H v d → tupsAll d = true → Dqs K (L2.del H D) v d
  | _, _, .nil, _ => .nil
  | _, _, .cons h hs, c => by
    simp only [tupsAll, Bool.and_eq_true] at c
    exact .cons (h.del hD c.1) (Dqs.del hD hs c.2)
end
theorem f2_choose {α β γ : Type} {A : α → γ → Prop} {B : γ → β → Prop} : ∀ {as : List α} {bs : List β}, F2 (fun a b => ∃ c, A a c ∧ B c b) as bs → ∃ cs, F2 A as cs ∧ F2 B cs bs
  | _, _, .nil => ⟨[], .nil, .nil⟩
  | _, _, .cons ⟨c, h1, h2⟩ hs => let ⟨cs, q1, q2⟩ := f2_choose hs; ⟨c :: cs, .cons h1 q1, .cons h2 q2⟩
theorem f2_dq {K : PySem.W.Frag} {H : Hp} {γ : Type} {f : γ → PyData} : ∀ {cs : List γ} {vs : List V}, F2 (fun c v => Dq K H v (f c)) cs vs → Dqs K H vs (cs.map f)
  | _, _, .nil => .nil
  | _, _, .cons h hs => .cons h (f2_dq hs)
theorem f2_range {γ : Type} {A : Nat → γ → Prop} {n : Nat} {cs : List γ} (h : F2 A (List.range n) cs) : cs.length = n ∧ ∀ i c, cs[i]? = some c → A i c := by
  have l := h.length
  rw [List.length_range] at l
  refine ⟨l.symm, fun i c hc => ?_⟩
  have g : ∀ {as : List Nat} {cs : List γ}, F2 A as cs → ∀ {i : Nat} {c : γ}, cs[i]? = some c → ∃ a, as[i]? = some a ∧ A a c := by
    intro as cs h
    induction h with
    | nil => intro i c hc; simp at hc
    | cons h _ ih =>
      intro i c hc
      cases i with
      | zero => simp at hc; subst hc; exact ⟨_, rfl, h⟩
      | succ i => simpa using ih (by simpa using hc)
  obtain ⟨a, h1, h2⟩ := g h hc
  have hi : i < n := by rw [← List.length_range (n := n)]; exact (List.getElem?_eq_some_iff.mp h1).1
  rw [List.getElem?_range hi] at h1
  cases h1; exact h2
/-! data lies apart from an own instance -/
section
variable {K : PySem.W.Frag} {H : Hp} {D C dx : Addr} {fs : List (Str × V)} {o : HO}
theorem SqT.ins {a : Addr} {xs : List V} (h : SqT K H a xs) (hD : H D = some (.ins C dx fs)) : SqT K (upd H D o) a xs := by
  rcases h with (h | ⟨q, h⟩) | h
  · exact .inl (.inl (by rw [upd_ne (fun z => by rw [z, hD] at h; cases h)]; exact h))
  · exact .inl (.inr ⟨q, by rw [upd_ne (fun z => by rw [z, hD] at h; cases h)]; exact h⟩)
  · exact .inr h
theorem SqL.ins {a : Addr} {xs : List V} (h : SqL K H a xs) (hD : H D = some (.ins C dx fs)) : SqL K (upd H D o) a xs := by
  rcases h with (h | ⟨q, h⟩) | h
  · exact .inl (.inl (by rw [upd_ne (fun z => by rw [z, hD] at h; cases h)]; exact h))
  · exact .inl (.inr ⟨q, by rw [upd_ne (fun z => by rw [z, hD] at h; cases h)]; exact h⟩)
  · exact .inr h
mutual
theorem Dq.ins (hD : H D = some (.ins C dx fs)) : ∀ {v : V} {d : PyData}, Dq K H v d → Dq K (upd H D o) v d
  | _, _, .non => .non
  | _, _, .bl b => .bl b
  | _, _, .int i => .int i
  | _, _, .str x => .str x
  | _, _, .lst h hs => .lst (SqL.ins h hD) (Dqs.ins hD hs)
  | _, _, .tup h hs => .tup (SqT.ins h hD) (Dqs.ins hD hs)
  | _, _, .dic h hs => .dic (by rw [upd_ne (fun z => by rw [z, hD] at h; cases h)]; exact h) (Dqs.ins hD hs)
theorem Dqs.ins (hD : H D = some (.ins C dx fs)) : ∀ {v : List V} {d : List PyData}, Dqs K H v d → Dqs K (upd H D o) v d
  | _, _, .nil => .nil
  | _, _, .cons h hs => .cons (h.ins hD) (Dqs.ins hD hs)
end
end
theorem fld_at {K : PySem.W.Frag} {ta tv : TE} {f : Str} {D : Ends} {σ : L2.St} {H : Hp} (h : tv σ H fun y H1 => ta σ H1 fun x H2 => ∃ a C dx fs, x = .ref a ∧ H2 a = some (.ins C dx fs) ∧ Cls K C ∧ NoAttr K C f ∧ fs.length < 1000 ∧ D.nx σ (upd H2 a (.ins C dx (putF f y fs)))) : sFld K ta tv f D σ H := h
/-! ### a tuple whose methods are called: made by tuple(list), pinned as it lies -/
def FrzT (H : Hp) (v : V) : Prop := ∃ p o xs, v = .ref p ∧ H p = some (.frz o (.tup xs)) ∧ o.dict = none ∧ o.cls = .type "tuple"
theorem FrzT.mono {H H' : Hp} {v : V} (e : Ex H H') (h : FrzT H v) : FrzT H' v := let ⟨p, o, xs, a, b, c⟩ := h; ⟨p, o, xs, a, e _ _ b, c⟩
theorem FrzT.del {H : Hp} {D : Addr} {acc : List V} {v : V} (h : FrzT H v) (hD : H D = some (.lst acc)) : FrzT (L2.del H D) v :=
  let ⟨p, o, xs, a, b, c⟩ := h; ⟨p, o, xs, a, by rw [del_ne (fun z => by rw [z, hD] at b; cases b)]; exact b, c⟩
theorem FrzT.ins {H : Hp} {D C dx : Addr} {fs : List (Str × V)} {u : HO} {v : V} (h : FrzT H v) (hD : H D = some (.ins C dx fs)) : FrzT (upd H D u) v :=
  let ⟨p, o, xs, a, b, c⟩ := h; ⟨p, o, xs, a, by rw [upd_ne (fun z => by rw [z, hD] at b; cases b)]; exact b, c⟩
def rTupF (K : PySem.W.Frag) : List V → Hp → VK → Prop := fun xs H Q => ∃ p ys, xs = [.ref p] ∧ SqL K H p ys ∧ ∀ l o, H l = none → o.dict = none → o.cls = .type "tuple" → Q (.ref l) (upd H l (.frz o (.tup ys)))
section
variable {X : Cx} {K : PySem.W.Frag}
theorem call_tupF (h : X.K = K := by rfl) : CallR X (.type "tuple") (rTupF K) := by
  subst h
  rintro pins s σ H xs us Q I r ⟨p, ys, rfl, hq, q⟩
  obtain ⟨u, only, rx⟩ := vals1 r
  subst only
  cases rx
  have ⟨its, rv, pl, hz⟩ := I.list hq
  have hl := rv.length
  refine call_tuple_list pl.isList (fun h' kp => ?_) (by simp only [List.size_toArray]; omega)
  have J : Inv X pins σ H { s with heap := h' } := I.kept (t' := s.toks) kp
  have ht := IsTup.new h' its.toArray
  refine ⟨.ref h'.objs.size, upd H h'.objs.size (.frz { cls := .type "tuple", data := .seq its.toArray } (.tup ys)), J.laid (t' := s.toks) (fun b o e => Heap.get?_push_of_some _ e) (Nat.le_refl _) ?_, rfl, q _ _ (J.hok.fresh (Nat.le_refl _)) rfl rfl⟩
  exact ⟨Heap.get?_push_size _ rfl, hz, its, rv, ht⟩
def tBMT (r : V → List V → Hp → VK → Prop) (to : TE) (t : TA) : TE := fun σ H Q => to σ H fun x H1 => FrzT H1 x ∧ t σ H1 fun xs H2 => r x xs H2 Q
variable {o e : Expr} {es : List Expr} {to : TE} {t : TA} {name : Str} {apos cpos : Pos} {id : String} {r : V → List V → Hp → VK → Prop}
theorem pe_bmT (pa : PlainAttrs "tuple") (slot : Slot "tuple" name id) (hty : typeOf (.builtin id) = pure (.type "method_descriptor")) (hm : MtR X id r) (ho : PE X o to) (ha : PA X (e :: es) t) (hbase : attributeBase o name X.env (eval o X.env) = eval o X.env := by rfl) (hfew : ((backTo cpos (starEach (e :: es) X.env)).all (fun x => !x.1) && (backToKw cpos (keywordEach [] X.env)).all (fun x => x.1.isSome) && decide ((e :: es).length + ([] : List Keyword).length + (if ([] : List Keyword).isEmpty then 0 else 1) < 30)) = true := by rfl) (hline : (apos.endLine == cpos.line) = true := by rfl) (hs : starEach (e :: es) X.env = (false, eval e X.env) :: starEach es X.env := by rfl) (hplain : (backTo cpos (starEach es X.env)).any (·.1) = false := by rfl) :  PE X (.Call (.Attribute o name apos) (e :: es) [] cpos) (tBMT r to t) := by
  refine ⟨fun pins s σ H Q I h => wpAny_Call_method_late hbase hfew hline rfl (thn (ho.run pins s σ H _ I h) ?_)⟩
  rintro v s1 ⟨x, H1, I1, r1, ⟨p, ob, xs, rfl, hp, hd, hc⟩, q1⟩
  cases r1
  have g := (I1.hok _ _ hp).1
  refine ⟨"tuple", id, pa, slot, hty, ⟨ob, g, hc⟩, fun a z => by cases z; exact ⟨ob, g, hd⟩, ?_⟩
  have args := ha.run cpos pins _ σ H1 _ I1 q1
  rw [hs] at args ⊢; refine Calls.callWith_builtin (by show (false || (backTo cpos (starEach es X.env)).any (·.1)) = false; rw [hplain] <;> rfl) (Calls.evalArgs_plain ?_)
  exact thn args fun us s2 ⟨ys, H2, I2, r2, q2⟩ => hm pins s2 σ H2 (.ref p) ys (.ref p) us Q I2 rfl r2 q2
end
/-! ### own classes: isinstance, != (facts of the head) -/
def ownB (os : List Str) (K : PySem.W.Frag) (x : Str) : Bool :=
  decide (PySem.W.findIn K (.ref (He.ga K x)) "__class__" = some (some (.builtin "object.__class__"))) && (decide (PySem.W.specialIn K (.builtin "object.__class__") "__get__" = some (some (.builtin "getset_descriptor.__get__"))) &&
  (decide (PySem.W.takesIn K (.builtin "object.__class__") = some true) && (decide (PySem.W.mroIn K (He.ga K x) (.type "object") = some true) && (decide (PySem.W.findIn K (.ref (He.ga K x)) "__ne__" = some (some (.builtin "object.__ne__"))) &&
  ((["NoneType", "bool", "int", "str", "list", "tuple", "dict"].all fun T => decide (PySem.W.kitOne K (.type T) (.ref (He.ga K x)) = some false)) && os.all fun y => decide (PySem.W.kitOne K (.ref (He.ga K y)) (.ref (He.ga K x)) = some (decide (y = x))))))))
structure OwnF (os : List Str) (K : PySem.W.Frag) (x : Str) : Prop where
  ha : PySem.W.findIn K (.ref (He.ga K x)) "__class__" = some (some (.builtin "object.__class__"))
  got : some (some (.builtin "getset_descriptor.__get__")) = PySem.W.specialIn K (.builtin "object.__class__") "__get__" ∧ some true = PySem.W.takesIn K (.builtin "object.__class__")
  hm : PySem.W.mroIn K (He.ga K x) (.type "object") = some true
  ne : PySem.W.findIn K (.ref (He.ga K x)) "__ne__" = some (some (.builtin "object.__ne__"))
  ty : ∀ T ∈ ["NoneType", "bool", "int", "str", "list", "tuple", "dict"], PySem.W.kitOne K (.type T) (.ref (He.ga K x)) = some false
  ow : ∀ y ∈ os, PySem.W.kitOne K (.ref (He.ga K y)) (.ref (He.ga K x)) = some (decide (y = x))
theorem ownB_ok {os : List Str} {K : PySem.W.Frag} {x : Str} (h : ownB os K x = true) : OwnF os K x := by
  unfold ownB at h
  simp only [Bool.and_eq_true, decide_eq_true_eq, List.all_eq_true] at h
  obtain ⟨h1, h2, h3, h4, h5, h6, h7⟩ := h
  exact OwnF.mk h1 ⟨h2.symm, h3.symm⟩ h4 h5 h6 h7
theorem tyN_mem (d : PyData) : tyN d ∈ ["NoneType", "bool", "int", "str", "list", "tuple", "dict"] := by cases d <;> simp [tyN]
/-- isinstance(x, C), x data -/
theorem isi_own_d {os : List Str} {K : PySem.W.Frag} {H : Hp} {x : Str} {v : V} {d : PyData} {Q : VK} (F : OwnF os K x) (h : Dq K H v d) (q : Q (.bl false) H) : rIsi K [v, .ref (He.ga K x)] H Q :=
  ⟨v, _, _, _, _, rfl, .own _, h.ty, F.ty _ (tyN_mem d), q⟩
/-- .. x an own instance -/
theorem isi_own_o {os : List Str} {K : PySem.W.Frag} {H : Hp} {x y : Str} {a : Addr} {Q : VK} (F : OwnF os K x) (G : OwnF os K y) (cl : Cls K (He.ga K y)) (hy : y ∈ os) (h : InsAt (He.ga K y) a H) (q : Q (.bl (decide (y = x))) H) : rIsi K [.ref a, .ref (He.ga K x)] H Q :=
  let ⟨_, _, g⟩ := h
  ⟨.ref a, _, _, _, _, rfl, .own _, .base (.ins g cl G.ha G.got.1.symm G.got.2.symm G.hm), F.ow y hy, q⟩
end G

namespace G
open L2 PyProof.Rows PySem PySem.Spec
open Evl (Ex)
/-! ### == and != by an own __eq__ -/
section
variable {prog : Program} {w : World} {A : Around} {E : Value → Shared → Prop} {s : Shared} {K : PySem.W.Frag} {x C L f : Addr} {h₀ : Heap} {m : Str → Option Value} {ox : Obj} {od : Option Obj} {b tb : Value}
theorem by_no {α : Sort _} (a b : α) : (if false = true then a else b) = b := rfl
open PySem.W in
theorem ifBound_ne {Q : Option Value → Shared → Prop} (X : K.In s.heap) (I : InstAt s.heap x ox C od) (hs : findIn K (.ref C) "__ne__" = some (some (.builtin "object.__ne__")))
    (h : wpAny (model prog w) A (call (.builtin "object.__ne__") [.ref x, b]) (fun v => Q (some v)) E s) : wpAny (model prog w) A (callSpecialIfBound? (.ref x) "__ne__" [b]) Q E s := by
  unfold callSpecialIfBound? bindSpecialIfBound?
  refine wpAny_holding (wpAny_bind (wpAny_bind (wpAny_bind (I.type.here ((looks_findIn X hs).here (wpAny_bind (wpAny_askSetting (wpAny_ite ?_))))))))
  have e : bindSpecial (.builtin "object.__ne__") (.ref x) = pure (.builtin "object.__ne__", [.ref x]) := PySem.F.cmp_object.ne.bind _
  have last : wpAny (model prog w) A (call (.builtin "object.__ne__") ([.ref x] ++ [b]) >>= fun v => pure (some v)) Q E s := wpAny_bind (wpAny_mono h (fun v s' q => wpAny_pure q) fun _ _ q => q)
  split
  · refine wpAny_bind (wpAny_of_eq e (wpAny_pure ?_)); exact last
  · refine wpAny_tryCatch (wpAny_bind (wpAny_of_eq e (wpAny_pure ?_))); exact last
open PySem.W in
theorem ne_own {Q : Value → Shared → Prop} (hu : A.units + 1 < cLine) (F : Fr h₀ L s.heap m) (X₀ : K.In h₀) (I : InstAt s.heap x ox C od) (hb : Looks (model prog w) s.heap (typeOf b) tb) (hn : notFirst K C tb = true)
    (hne : findIn K (.ref C) "__ne__" = some (some (.builtin "object.__ne__"))) (hm : mroIn K C (.type "object") = some true) (hs : findIn K (.ref C) "__eq__" = some (some (.ref f))) (hf : isFn K (.ref f) = true)
    (h : wpAny (model prog w) A.in1 (call (.ref f) [.ref x, b]) (fun r s' => ∃ z, r = .bool z ∧ Q (.bool !z) s') E s) : wpAny (model prog w) A (richCompare .NotEq (.ref x) b) Q E s := by
  have X := X₀.keeps F.keep
  have run : wpAny (model prog w) A (call (.builtin "object.__ne__") [.ref x, b]) (fun r s' => ∃ z, r = .bool z ∧ Q (.bool z) s') E s := by
    have sub : Looks (model prog w) s.heap (isInstance (.ref x) (.type "object")) true := (I.type).andThen (looks_mroIn X hm)
    refine wpAny_call (codeAny_call_builtin PySem.F.cmp_object.ne.plain PySem.F.cmpEntry_ne (check_slot PySem.F.cmpKind_ne PySem.F.cmpSplit_ne sub (PySem.F.cmpArgs_ne _ _) ?_))
    rw [Builtin.«object.__ne__»]
    refine wpAny_bind (wpAny_of_eq (show slotArgs "__ne__" 1 ⟨[.ref x, b], []⟩ = pure (.ref x, [b]) from rfl) ?_)
    refine wpAny_bind (wpAny_cRoomFor hu (wpAny_bind (ifBound_K X I hs hf (wpAny_mono h (fun r s' z => ?_) fun _ _ z => z))))
    obtain ⟨z, rfl, q⟩ := z
    exact wpAny_bind (wpAny_truthy_bool (wpAny_pure ⟨_, rfl, q⟩))
  have one : wpAny (model prog w) A (tryCompare (.ref x) "__ne__" b) (fun r s' => ∃ v, r = some v ∧ Q v s') E s := by
    unfold tryCompare
    refine wpAny_bind (ifBound_ne X I hne (wpAny_mono run (fun v s' z => ?_) fun _ _ z => z))
    obtain ⟨z, rfl, q⟩ := z
    exact wpAny_pure ⟨_, rfl, q⟩
  unfold richCompare
  simp only [oneThing_ref]
  refine wpAny_holding (wpAny_bind (wpAny_cRoomFor (by omega) (wpAny_bind (I.type.here (wpAny_bind (hb.here ?_))))))
  split
  · rename_i c
    have apart : some false = subIn K tb (.ref C) := (Bool.or_eq_true_iff.mp hn).elim (fun z => by rw [beq_iff_eq.mp z] at c; simp at c) fun z => (beq_iff_eq.mp z).symm
    refine wpAny_bind ((looks_subIn X apart.symm).here ?_)
    rw [by_no]
    refine wpAny_bind (wpAny_mono one (fun r s' ⟨v, e, q⟩ => ?_) fun _ _ z => z)
    subst e; exact wpAny_pure q
  · refine wpAny_bind (m := pure false) (wpAny_pure ?_)
    rw [by_no]
    refine wpAny_bind (wpAny_mono one (fun r s' ⟨v, e, q⟩ => ?_) fun _ _ z => z)
    subst e; exact wpAny_pure q
end
theorem nf_of {K : PySem.W.Frag} {t : Value} {C : Addr} (h : PySem.W.kitOne K t (.ref C) = some false) : PySem.W.notFirst K C t = true := by
  unfold PySem.W.kitOne at h
  split at h
  · cases h
  · have e : PySem.W.kitCls K t (.ref C) = (if ((PySem.W.clsIn K C).isSome && PySem.W.typeIn K (.ref C) == some (.type "type")) = true then PySem.W.subIn K t (.ref C) else none) := rfl
    rw [e] at h
    by_cases c : ((PySem.W.clsIn K C).isSome && PySem.W.typeIn K (.ref C) == some (.type "type")) = true
    · rw [if_pos c] at h
      unfold PySem.W.notFirst; rw [h]; simp
    · rw [if_neg c] at h; cases h
theorem nf_same {K : PySem.W.Frag} {C : Addr} : PySem.W.notFirst K C (.ref C) = true := by unfold PySem.W.notFirst; simp
section
variable {X : Cx} {K : PySem.W.Frag} {CX : CXT} {k : Nat} {f C : Addr} {fd : FuncData} {ps : List Str} {sp : Sp} {E : XK}
def rCmpO (K : PySem.W.Frag) (C : Addr) (neg : Bool) (sp : Sp) (E : XK) : R2 := fun x y H Q => ∃ a t, x = .ref a ∧ InsAt C a H ∧ TyX K H y t ∧ PySem.W.notFirst K C t = true ∧ sp [.ref a, y] H (fun v H' => ∃ b, v = .bl b ∧ Q (.bl (if neg then !b else b)) H') E
theorem op_eqO (T : Spc X.K C "__eq__" f) (F : FG X.prog X.w X.K X.mg X.base CX k f fd ps sp) (hr : RG k X.A) (hb : Binds X.K fd ps []) (hx : Passes CX X E) : OpR X (compareOp .Eq) (rCmpO X.K C false sp E) := by
  rintro pins s σ H x y v u Q I rx ry ⟨a, t, rfl, ⟨dx, fs, ha⟩, ty, nf, h⟩
  cases rx
  obtain ⟨_, J, _⟩ := ins_get I.hok ha
  obtain ⟨od, J, _⟩ := J.look
  obtain ⟨m, hF⟩ := I.fr
  obtain ⟨R, kx, hR, _⟩ := kit_of I ry ty
  refine PySem.W.cmp_K (op := .Eq) (hu0 hr.r) hF I.ok.mod.kin J (kx.ty _ _ I.kIn hR) nf T.s T.fn.symm (wpAny_mono (run_gA (us := [.ref a, u]) (vs := [.ref a, y]) F rfl hr hb hx I (.cons rfl (.cons ry .nil)) h) (fun r s' ⟨z, H', J', rz, b, hz, q⟩ => ?_) fun _ _ z => z)
  subst hz
  cases rz
  exact ⟨.bl b, H', J', rfl, q⟩
theorem op_neO (T : Spc X.K C "__eq__" f) (hne : PySem.W.findIn X.K (.ref C) "__ne__" = some (some (.builtin "object.__ne__"))) (hm : PySem.W.mroIn X.K C (.type "object") = some true) (F : FG X.prog X.w X.K X.mg X.base CX k f fd ps sp) (hr : RG (k + 1) X.A) (hb : Binds X.K fd ps []) (hx : Passes CX X E) : OpR X (compareOp .NotEq) (rCmpO X.K C true sp E) := by
  rintro pins s σ H x y v u Q I rx ry ⟨a, t, rfl, ⟨dx, fs, ha⟩, ty, nf, h⟩
  cases rx
  obtain ⟨_, J, _⟩ := ins_get I.hok ha
  obtain ⟨od, J, _⟩ := J.look
  obtain ⟨m, hF⟩ := I.fr
  obtain ⟨R, kx, hR, _⟩ := kit_of I ry ty
  have un : X.A.units + 1 < cLine := by have := hr.r.un; omega
  refine ne_own un hF I.ok.mod.kin J (kx.ty _ _ I.kIn hR) nf hne hm T.s T.fn.symm (wpAny_mono (run_gA (us := [.ref a, u]) (vs := [.ref a, y]) F rfl hr.in1 hb hx I (.cons rfl (.cons ry .nil)) h) (fun r s' ⟨z, H', J', rz, b, hz, q⟩ => ?_) fun _ _ z => z)
  subst hz
  cases rz
  exact ⟨b, rfl, .bl _, H', J', rfl, q⟩
end
end G

namespace G
open L2 PyProof.Rows PySem PySem.Spec
open Evl (Ex)
/-! ### enumerate(tuple) -/
section
variable {s : Shared} {w : World} {prog : Program} {E : Value → Shared → Prop} {A : Around}
theorem enum_new {v : Value} {o : Obj} {H : Heap → Prop} (B : Begins v o H) :
    Meets (Builtin.«enumerate.__new__» ⟨[.type "enumerate", v], []⟩) (fun _ R s => H s.heap ∧
      R (.ok (.ret (.ref (s.heap.push o).objs.size))) { s with heap := (s.heap.push o).push { cls := .type "enumerate", data := .fields #[.none, .bool false, .ref s.heap.objs.size, rawInt 0, .none, .none] } }) :=
  .of_wp fun prog w A R ⟨heap, glob, held, toks, out⟩ ⟨ready, made⟩ => by
    have hsub := sub_enumerate
    have begin_ : ∀ {A' : Around} {E : Value → Shared → Prop} {Q : Value → Shared → Prop}, Q (.ref heap.objs.size) ⟨heap.push o, glob, held, toks, out⟩ → wpAny (model prog w) A' (pyIter v) Q E ⟨heap, glob, held, toks, out⟩ :=
      B.iter prog w _ _ _ _ ready
    wp_walk using begin_
    apply wpAny_stack_any
    intro below
    apply wpAny_pure
    split
    · rename_i c _ _ _ _ _
      cases (c == Value.type "enumerate") <;> (wp_walk using begin_; exact ⟨_, rfl, made⟩)
    · wp_walk using begin_; exact ⟨_, rfl, made⟩
theorem enum_call {v : Value} {o : Obj} {H : Heap → Prop} {Q : Value → Shared → Prop} (B : Begins v o H) (h1 : H s.heap)
    (h : ∀ h', IsEnum h' (s.heap.objs.size + 1) s.heap.objs.size 0 .none → h'.get? s.heap.objs.size = some o → h'.objs.size = s.heap.objs.size + 2 → (∀ b u, s.heap.get? b = some u → h'.get? b = some u) → Q (.ref (s.heap.objs.size + 1)) { s with heap := h' }) :
    wpAny (model prog w) A (call (.type "enumerate") [v]) Q E s := by
  refine callType_new F.called_enumerate (by decide) (F.typeCall_enumerate_1 _) (F.newCall_enumerate_1 _) (fun obj => F.args_object_init_2 obj _) F.entry_enumerate_new (enum_new B) ⟨h1, ?_⟩
  have z : (s.heap.push o).objs.size = s.heap.objs.size + 1 := Heap.size_push ..
  show _ ∧ _
  rw [z]
  have e0 : IsEnum ((s.heap.push o).push { cls := .type "enumerate", data := .fields #[.none, .bool false, .ref s.heap.objs.size, rawInt 0, .none, .none] }) (s.heap.objs.size + 1) s.heap.objs.size 0 .none := by
    have q := Heap.get?_push_size (s.heap.push o) (o := { cls := .type "enumerate", data := .fields #[.none, .bool false, .ref s.heap.objs.size, rawInt 0, .none, .none] }) rfl
    rwa [z] at q
  exact ⟨⟨_, e0, rfl⟩, h _ e0 (Heap.get?_push_of_some _ (Heap.get?_push_size _ B.free)) (by rw [Heap.size_push, z]) fun b u x => Heap.get?_push_of_some _ (Heap.get?_push_of_some _ x)⟩
end
/-- the tuple at a, each item in a new pair -/
def Iet (K : PySem.W.Frag) (a : Addr) : It :=
  ⟨fun i H => ∃ (xs : List V) (x : V), SqT K H a xs ∧ xs[i]? = some x, fun i H v H' => ∃ T x, v = .ref T ∧ H T = none ∧ H' = upd H T (.tup [.int (i : Nat), x]) ∧ ∀ xs, SqT K H a xs → xs[i]? = some x, fun i H => ∃ xs : List V, SqT K H a xs ∧ xs.length = i⟩
theorem apart_cls {h : Heap} {a b : Addr} {o : Obj} {c : Value} (h1 : h.get? a = some o) (h2 : ∃ u, h.get? b = some u ∧ u.cls = c) (ne : o.cls ≠ c) : a ≠ b := fun e => by
  obtain ⟨u, q, r⟩ := h2
  rw [← e, h1] at q; cases q; exact ne r
/-- where such a walk stands: e numbers what it draws from the tuple a -/
def AtEn (a e it : Addr) (i : Nat) (h : Heap) : Prop := h.IsTupleIter it a i ∧ e ≠ it ∧ ∃ old, IsEnum h e it (i : Int) old
theorem two_of {e it b : Addr} (m : b ∈ [e, it]) : b = e ∨ b = it := by simpa using m
theorem AtEn.lt {a e it : Addr} {i : Nat} {h : Heap} (z : AtEn a e it i h) {b : Addr} (m : b ∈ [e, it]) : b < h.objs.size := by
  obtain ⟨⟨o, g, _⟩, _, old, q⟩ := z
  rcases two_of m with rfl | rfl
  · exact Heap.lt_size q
  · exact Heap.lt_size g
/-- the tuple lies apart from both -/
theorem AtEn.apart {a e it : Addr} {i : Nat} {h : Heap} {xs : Array Value} (z : AtEn a e it i h) (t : h.IsTuple a xs) : a ≠ it ∧ e ∉ [it, a] := by
  obtain ⟨o, g, c, n, d⟩ := t
  obtain ⟨⟨o2, g2, c2, d2⟩, ne, old, g3⟩ := z
  refine ⟨?_, ?_⟩
  · rintro rfl
    rw [g] at g2; cases g2
    rw [d] at d2; cases d2
  · intro m
    rcases two_of m with q | q
    · exact ne q
    · rw [q] at g3
      have z := g.symm.trans g3
      cases z
      cases d
theorem turn_enumT {P : Program} {w : World} {K : PySem.W.Frag} {elts : List Expr} {kk : Nat} {tpos : Pos} (a e it : Addr) : Turn P w K (.Tuple elts kk tpos) (Iet K a) [e, it] e (AtEn a e it) := by
  have first : e ∈ [e, it] := List.mem_cons_self
  have second : it ∈ [e, it] := by simp
  constructor
  case mem => exact first
  case self => exact fun A i s Q E ⟨_, _, old, g⟩ q => wpAny_pyIter_enum g q
  case keep => exact fun i h h' ⟨z, ne, old, g⟩ k => ⟨z.at (k it second), ne, old, k e first _ g⟩
  case obj =>
    rintro i h ⟨⟨o, g, _, d⟩, _, old, g2⟩ b m
    rcases two_of m with rfl | rfl
    · exact ⟨_, g2, fun _ q => nomatch q⟩
    · exact ⟨o, g, fun _ q => by rw [d] at q; exact nomatch q⟩
  case done =>
    rintro X rfl rfl rfl calm i pins s σ H E I free z ⟨xs, sq, end_⟩
    obtain ⟨its, rel, tup, _⟩ := I.tuple sq
    have size : its.toArray.size = i := by rw [List.size_toArray, ← rel.length, end_]
    obtain ⟨apart, out⟩ := z.apart tup
    obtain ⟨here, _, old, g⟩ := z
    have D := Draws.tuple (prog := X.prog) (w := X.w) (A := X.A.in1) (I.ok.hd calm) it a apart its.toArray
    obtain ⟨f0, f1, _, f3, f4, f5⟩ := free it second
    exact wpAny_pyNext_enum_endD D g (by rw [size]; exact ⟨here, tup⟩) fun h' but => ⟨rfl, I.turned (t' := s.toks) but f0 f1 f3 f4 f5⟩
  case item =>
    rintro X rfl rfl rfl calm i pins s σ H E I free z ⟨xs, x, sq, hx⟩
    obtain ⟨its, rel, tup, _⟩ := I.tuple sq
    obtain ⟨u, hu, ru⟩ := rel.get hx
    have more : i < its.toArray.size := by
      rw [List.size_toArray, ← rel.length]
      exact (List.getElem?_eq_some_iff.mp hx).1
    obtain ⟨apart, out⟩ := z.apart tup
    have old_ : ∀ b ∈ [e, it], b < s.heap.objs.size := fun b => z.lt
    obtain ⟨here, ne, old, g⟩ := z
    have D := Draws.tuple (prog := X.prog) (w := X.w) (A := X.A.in1) (I.ok.hd calm) it a apart its.toArray
    refine wpAny_pyNext_enum_itemD D g ⟨here, tup⟩ more ne out fun y h1 tk hy out1 st1 pair size1 keep1 => ?_
    obtain rfl : y = u := by
      have q : its.toArray[i]? = some u := by simpa using hu
      exact Option.some.inj (hy.symm.trans q)
    refine ⟨_, rfl, wpAny_letOwnedTupleGo_enum (s := { s with heap := h1, toks := tk + 1 }) out1 fun h2 en2 but => ?_⟩
    have far : ∀ b, b ∈ [e, it] → b ≠ s.heap.objs.size := fun b m => Nat.ne_of_lt (old_ b m)
    have pair2 := (but.2 _ (far e first).symm).trans pair
    have whole : ∀ b o, b ∉ [e, it] → s.heap.get? b = some o → h2.get? b = some o := fun b o nm q => by
      have n1 : b ≠ e := fun q => nm (q ▸ first)
      rw [but.2 b n1]
      exact keep1 b o n1 (fun q => nm (q ▸ second)) q
    refine ⟨.ref s.heap.objs.size, upd H s.heap.objs.size (.tup [.int (i : Nat), x]), I.turnedNew (t' := tk + 1) whole free (Nat.le_refl _) ⟨?_, _, Paired.cons ⟨_, rfl⟩ (.cons ru .nil), _, pair2, rfl, _, rfl⟩, rfl, ?_, ⟨?_, ne, y, en2⟩, fun b m => ?_⟩
    · show 2 ≤ sizeLine
      rw [sizeLine_eq]; decide
    · refine ⟨_, x, rfl, I.hok.fresh (Nat.le_refl _), rfl, fun ys sq' => ?_⟩
      rw [I.tuple_inj sq' sq]; exact hx
    · exact st1.1.at fun o q => (but.2 it ne.symm).trans q
    · rw [upd_ne (far b m)]
      exact (free b m).1
def iEnumT (K : PySem.W.Frag) (ta : TA) : TI := fun σ H R => ta σ H fun vs H1 => ∃ a xs, vs = [.ref a] ∧ SqT K H1 a xs ∧ R (Iet K a) H1
theorem pi_enumT {X : Cx} {K : PySem.W.Frag} {e : Expr} {ta : TA} {p pos tpos : Pos} {elts : List Expr} {kk : Nat} (hg : Gl X "enumerate") (hm : X.mg "enumerate" = none) (ha : PA X [e] ta) (h : X.K = K := by rfl) (hs : starEach [e] X.env = [(false, eval e X.env)] := by rfl) : PI X (.Tuple elts kk tpos) (.Call (.Name "enumerate" p) [e] [] pos) (iEnumT K ta) := by
  subst h
  refine ⟨fun pins s σ H R I h => Call_ (ld_blt I hg hm boot_enumerate (PyProof.Rows.callWith_type1 (thn (ha.run pos pins s σ H _ I h) ?_) hs rfl))⟩
  rintro us s1 ⟨vs, H1, I1, r1, a, xs, rfl, hq, q⟩
  have ⟨u, one, ru⟩ := vals1 r1
  subst one
  cases ru
  obtain ⟨its, rv, pl, hz⟩ := I1.tuple hq
  refine enum_call (begins_tuple a its.toArray) pl fun h' he hit hsz hk => wpAny_pyIter_enum he ?_
  have J : Inv X pins σ H1 { s1 with heap := h' } := I1.kept (t' := s1.toks) hk
  refine ⟨s1.heap.objs.size + 1, [s1.heap.objs.size + 1, s1.heap.objs.size], _, _, H1, rfl, J, turn_enumT a (s1.heap.objs.size + 1) s1.heap.objs.size, ⟨⟨_, hit, rfl, rfl⟩, Nat.succ_ne_self _, .none, he⟩, fun b hb => ?_, q⟩
  have le : s1.heap.objs.size ≤ b := by
    have two : b = s1.heap.objs.size + 1 ∨ b = s1.heap.objs.size := by simpa using hb
    exact two.elim (fun z => z ▸ Nat.le_succ _) fun z => Nat.le_of_eq z.symm
  exact I1.fpOk le (I1.hok.fresh le)
/-- what is walked, each item told by Y -/
structure ItY (J : It) (B : Hp) (n : Nat) (Y : Nat → Hp → V → Hp → Prop) : Prop where
  go : ∀ i H', Ex B H' → i < n → J.go i H'
  yl : ∀ i x H' H'', Ex B H' → i < n → J.yld i H' x H'' → Y i H' x H''
  st : ∀ H', Ex B H' → J.stop n H'
theorem lc_invY {wi : TI} {H B : Hp} {n : Nat} {Y : Nat → Hp → V → Hp → Prop} {g : TG} {tt : TT} {te : TE} {vs : List Nat} {σ : L2.St} {Q : VK} (hw : ∀ P : It → Hp → Prop, (∀ J H1, Ex H H1 → ItY J B n Y → P J H1) → wi σ H P)
    (Pv : Addr → Nat → Hp → Prop) (h0 : ∀ D H1, Ex H H1 → H1 D = none → Pv D 0 (upd H1 D (.lst []))) (he : ∀ D i H', Pv D i H' → Ex B H')
    (turn : ∀ D i x H' H'', i < n → Pv D i H' → Y i H' x H'' → g x (wipe σ vs) H'' fun σ2 H2 => wipe σ2 vs = wipe σ vs ∧ tt σ2 H2 fun b H3 => if b = true then te σ2 H3 fun y H4 => ∃ acc, H4 D = some (.lst acc) ∧ acc.length < sizeLine ∧ Pv D (i + 1) (upd H4 D (.lst (acc ++ [y]))) else Pv D (i + 1) H3)
    (fin : ∀ D H', Pv D n H' → Q (.ref D) H') : tLc wi g tt te vs σ H Q := by
  refine hw _ fun J H1 e1 S D hD => ?_
  refine ⟨fun i m H' => m = n - i ∧ i ≤ n ∧ Pv D i H', ⟨n, by omega, Nat.zero_le _, h0 D H1 e1 hD⟩, ?_⟩
  rintro i m H' ⟨rfl, hi, p⟩
  by_cases c : i = n
  · subst c
    exact .inl ⟨S.st H' (he _ _ _ p), fin D H' p⟩
  · have hi' : i < n := by omega
    exact .inr ⟨S.go i H' (he _ _ _ p) hi', Pv D (i + 1), fun H2 h => ⟨n - (i + 1), by omega, rfl, hi', h⟩, fun x H'' hy => turn D i x H' H'' hi' p (S.yl i x H' H'' (he _ _ _ p) hi' hy)⟩
theorem ity_enum {K : PySem.W.Frag} {H : Hp} {a : Addr} {xs : List V} (h : SqT K H a xs) : ItY (Iet K a) H xs.length (fun i H' v H'' => ∃ T, v = .ref T ∧ H' T = none ∧ H'' = upd H' T (.tup [.int (i : Nat), nth xs i])) where
  go := fun i H' e hi => ⟨xs, _, Evl.ex_t e h, nth_at hi⟩
  yl := fun i x H' H'' e hi ⟨T, y, h1, h2, h3, h4⟩ => by
    have z := h4 xs (Evl.ex_t e h)
    rw [nth_at hi] at z; cases z
    exact ⟨T, h1, h2, h3⟩
  st := fun H' e => ⟨xs, Evl.ex_t e h, rfl⟩
theorem filter_nth (l : List Nat) (p : Nat → Bool) : ((List.range l.length).filter fun t => p (l[t]?.getD 0)).map (fun t => l[t]?.getD 0) = l.filter p := by
  have e : (List.range l.length).map (fun t => l[t]?.getD 0) = l := by
    refine List.ext_getElem? fun i => ?_
    rw [List.getElem?_map]
    by_cases c : i < l.length
    · rw [List.getElem?_range c, List.getElem?_eq_getElem c, Option.map_some, List.getElem?_eq_getElem c, Option.getD_some]
    · have out : ¬ i < (List.range l.length).length := by rwa [List.length_range]
      rw [List.getElem?_eq_none (Nat.le_of_not_lt c), List.getElem?_eq_none (Nat.le_of_not_lt out), Option.map_none]
  conv => rhs; rw [← e]
  rw [List.filter_map]; rfl
theorem pg_tupK {X : Cx} {K : PySem.W.Frag} {es : List Expr} {k : Nat} {t : TGs} {n : Nat} {pos : Pos} (hc : X.calm = true) (h : PGs X es t) (e : X.K = K := by rfl) (hn : (assignEach es X.env).length = n := by rfl) (hst : (assignEach es X.env).findIdx? (·.1) = none := by rfl) : PG X (.Tuple es k pos) (gTup K n t) := e ▸ pg_tup hc h hn hst
end G

namespace G
open L2 PyProof.Rows PySem PySem.Spec
open Evl (Ex)
/-! ### {x for a in as for x in xs}: a set of ints, two clauses without tests -/
abbrev sc2 (elt t0 i0 t1 i1 : Expr) (scope : Scope) (pos : Pos) : Expr := .SetComp elt [⟨t0, i0, [], 0⟩, ⟨t1, i1, [], 0⟩] scope pos
section
variable {prog : Program} {w : World} {A : Around} {R : Result → Shared → Prop} {s : Shared} {elt t0 i0 t1 i1 : Expr} {scope : Scope} {pos : Pos} {it acc : Value} {env : Env}
theorem sc2_turn0 : compTurn (sc2 elt t0 i0 t1 i1 scope pos) 0 it acc env = (do
    standAt i0.pos
    match ← pyNext it with
    | none => pure (.done .next)
    | some v => do
      letOwnedTupleGo t0 it v
      assign t0 env v
      let mut ok := true
      for c in ([] : List Expr) do
        if ok then
          ok ← isTrue c env (eval c env)
      if ok then do
        let x ← eval i1 env
        standAt i1.pos; let x ← foldedSetIterable i1 env x; let _ ← runOwn (.compStart (sc2 elt t0 i0 t1 i1 scope pos) 1 (← holding [x] (pyIter x)) acc env) env
      again (.compLoop (sc2 elt t0 i0 t1 i1 scope pos) 0 it acc env)) := by rfl
theorem sc2_turn1 : compTurn (sc2 elt t0 i0 t1 i1 scope pos) 1 it acc env = (do
    standAt i1.pos
    match ← pyNext it with
    | none => pure (.done .next)
    | some v => do
      letOwnedTupleGo t1 it v
      assign t1 env v
      let mut ok := true
      for c in ([] : List Expr) do
        if ok then
          ok ← isTrue c env (eval c env)
      if ok then (do let v ← eval elt env; standAt elt.pos; let _ ← call (.builtin "set.add") [acc, v])
      again (.compLoop (sc2 elt t0 i0 t1 i1 scope pos) 1 it acc env)) := by rfl
/-- one clause's loop: what each turn must show -/
def Clause (prog : Program) (w : World) (A : Around) (tg : Expr) (it : Value) (env : Env) (stop : Shared → Prop) (body : Shared → Prop) (s : Shared) : Prop :=
  wpAny (model prog w) A (pyNext it) (fun r s1 => match r with
    | none => stop s1
    | some v => wpAny (model prog w) A (letOwnedTupleGo tg it v) (fun _ s2 => wpAny (model prog w) A (assign tg env v) (fun _ s3 => body s3) (fun _ _ => False) s2) (fun _ _ => False) s1) (fun _ _ => False) s
theorem sc2_loop1 (I : Nat → Shared → Prop) (turn : ∀ n s, I n s → Clause prog w A t1 it env (fun s1 => R (.ok .next) s1)
      (fun s3 => wpAny (model prog w) A (eval elt env) (fun x s4 => wpAny (model prog w) A (call (.builtin "set.add") [acc, x]) (fun _ s5 => ∃ m, m < n ∧ I m s5) (fun _ _ => False) s4) (fun _ _ => False) s3) s) (n : Nat) (h : I n s) :
    codeAny (model prog w) A (.compLoop (sc2 elt t0 i0 t1 i1 scope pos) 1 it acc env) R s := by
  refine codeAny_loop rfl I (fun m t now => ?_) n h
  show wpAny _ A ((compTurn (sc2 elt t0 i0 t1 i1 scope pos) 1 it acc env).onRaise (fun x => do noteFrame x env; theTreesLotGoes x)) _ _ t
  refine wpAny_noted ?_
  rw [sc2_turn1]
  refine wpAny_bind (wpAny_standAt (wpAny_bind (thnF (turn m t now) fun r s1 h1 => ?_)))
  cases r with
  | none => exact wpAny_pure h1
  | some v =>
    refine wpAny_bind (thnF h1 fun _ s2 h2 => wpAny_bind (thnF h2 fun _ s3 h3 => ?_))
    refine wpAny_bind (m := pure true) (wpAny_pure ?_)
    rw [if_pos rfl]
    exact wpAny_bind (wpAny_bind (thnF h3 fun x s4 h4 => wpAny_bind (wpAny_standAt (wpAny_bind (thnF h4 fun _ s5 h5 => wpAny_pure (wpAny_pure ⟨rfl, h5⟩))))))
theorem sc2_loop0 (hs : ∀ x, foldedSetIterable i1 env x = pure x) (I : Nat → Shared → Prop) (turn : ∀ n s, I n s → Clause prog w A t0 it env (fun s1 => R (.ok .next) s1)
      (fun s3 => wpAny (model prog w) A (eval i1 env) (fun x s4 => wpAny (model prog w) A (pyIter x) (fun it1 s5 =>
        codeAny (model prog w) A (.compStart (sc2 elt t0 i0 t1 i1 scope pos) 1 it1 acc env) (fun r s' => (∃ f, r = .ok f) ∧ ∃ m, m < n ∧ I m s') s5) (fun _ _ => False) s4) (fun _ _ => False) s3) s) (n : Nat) (h : I n s) :
    codeAny (model prog w) A (.compLoop (sc2 elt t0 i0 t1 i1 scope pos) 0 it acc env) R s := by
  refine codeAny_loop rfl I (fun m t now => ?_) n h
  show wpAny _ A ((compTurn (sc2 elt t0 i0 t1 i1 scope pos) 0 it acc env).onRaise (fun x => do noteFrame x env; theTreesLotGoes x)) _ _ t
  refine wpAny_noted ?_
  rw [sc2_turn0]
  refine wpAny_bind (wpAny_standAt (wpAny_bind (thnF (turn m t now) fun r s1 h1 => ?_)))
  cases r with
  | none => exact wpAny_pure h1
  | some v =>
    refine wpAny_bind (thnF h1 fun _ s2 h2 => wpAny_bind (thnF h2 fun _ s3 h3 => ?_))
    refine wpAny_bind (m := pure true) (wpAny_pure ?_)
    rw [if_pos rfl]
    refine wpAny_bind (thnF h3 fun x s4 h4 => ?_)
    refine wpAny_bind (wpAny_standAt (wpAny_bind (wpAny_of_eq (hs x) (wpAny_bind (wpAny_holding (thnF h4 fun it1 s5 h5 => ?_))))))
    refine wpAny_bind (wpAny_runOwn (A.mark_none.symm ▸ codeAny_mono h5 fun r s' ⟨⟨f, hr⟩, hm⟩ => ?_))
    subst hr
    first | exact wpAny_pure (wpAny_pure ⟨rfl, hm⟩) | exact wpAny_pure ⟨rfl, hm⟩ | exact wpAny_bind (wpAny_pure (wpAny_pure ⟨rfl, hm⟩))
theorem sc2_start (h0 : codeAny (model prog w) A (.compLoop (sc2 elt t0 i0 t1 i1 scope pos) 1 it acc env) R s)
    (h : wpAny (model prog w) A (pyIter it) (fun it' s' => codeAny (model prog w) A (.compLoop (sc2 elt t0 i0 t1 i1 scope pos) 1 it' acc env) R s') (fun _ _ => False) s) :
    codeAny (model prog w) A (.compStart (sc2 elt t0 i0 t1 i1 scope pos) 1 it acc env) R s := by
  refine codeAny_of_tree ?_
  show wpAny _ _ ((compStart (sc2 elt t0 i0 t1 i1 scope pos) 1 it acc env).onRaise (fun x => do noteFrame x env; standAt theWindowsPlace)) _ _ s
  refine wpAny_notedAt ?_
  unfold compStart
  refine (show wpAny (model prog w) A (ask >>= _) _ _ s from wpAny_bind (wpAny_askSetting (wpAny_ite ?_)))
  split
  · first | exact wpAny_bind (wpAny_pure (wpAny_pure (And.intro rfl h0))) | exact wpAny_pure (And.intro rfl h0)
  · refine wpAny_bind (wpAny_rule (show wpAny _ _ (standAt i1.pos >>= _) _ _ s from ?_))
    exact wpAny_bind (wpAny_standAt (wpAny_bind (thnF h fun it' s' h' => wpAny_pure (And.intro rfl h'))))
end
/-- the reading: D is the new set -/
def tSc2 (w : World) (wi : TI) (g : TG) (wi1 : TI) (g1 : TG) (te : TE) (vs vs1 : List Nat) : TE := fun σ H Q => wi σ H fun J H1 => ∀ D, H1 D = none → ∃ W : Nat → Nat → Hp → Prop, (∃ m, W 0 m (upd H1 D (SetO w D (fun _ => false) 0))) ∧ ∀ i m H, W i m H →
  (J.stop i H ∧ Q (.ref D) H) ∨ (J.go i H ∧ ∃ Nx : Hp → Prop, (∀ H', Nx H' → ∃ m', m' < m ∧ W (i + 1) m' H') ∧ ∀ x H', J.yld i H x H' → g x (wipe σ vs) H' fun σ2 H2 => wipe σ2 vs = wipe σ vs ∧
    wi1 σ2 H2 fun J1 H4 => ∃ W1 : Nat → Nat → Hp → Prop, (∃ m, W1 0 m H4) ∧ ∀ j k H, W1 j k H →
      (J1.stop j H ∧ Nx H) ∨ (J1.go j H ∧ ∃ Ny : Hp → Prop, (∀ H', Ny H' → ∃ k', k' < k ∧ W1 (j + 1) k' H') ∧ ∀ x H', J1.yld j H x H' → g1 x (wipe σ2 vs1) H' fun σ3 H5 => wipe σ3 vs1 = wipe σ2 vs1 ∧
        te σ3 H5 fun y H7 => ∃ (c : Int) (S : Int → Bool) (n : Nat), y = .int c ∧ H7 D = some (SetO w D S n) ∧ n + 1 < scanBound ∧ Ny (upd H7 D (SetO w D (fun j => S j || decide (j = c)) (if S c = true then n else n + 1)))))
section
variable {X : Cx}
/-- what lay pinned when a turn began lies there still -/
theorem pins_keep {Y : Cx} {fp : List Addr} {pins : List (Addr × Obj)} {σ : L2.St} {H : Hp} {s : Shared} {h : Heap} (I : Inv Y (pins ++ pinsAt fp h) σ H s) {b : Addr} (m : b ∈ fp) {o : Obj} (e : h.get? b = some o) : s.heap.get? b = some o ∧ H b = none :=
  have z := I.pin (b, o) (List.mem_append_right _ (List.mem_append_right _ (mem_pinsAt m e)))
  And.intro z.1 z.2.1
/-- one turn of a clause, in a block that lets nothing out -/
theorem clause_turn {Y : Cx} {J : It} {fp : List Addr} {it : Addr} {tn : Nat → Heap → Prop} {tg : Expr} {g : TG} {i : Nat} {pins : List (Addr × Obj)} {s : Shared} {σ : L2.St} {H : Hp} {R : L2.St → Hp → Prop} {stop body : Shared → Prop}
    (T : Turn Y.prog Y.w Y.K tg J fp it tn) (calm : Y.calm = true) (quiet : ∀ e s', ¬ Y.xe e s') (pg : PG Y tg g) (I : Inv Y pins σ H s) (apart : ∀ b ∈ fp, FpOk Y pins H b) (here : tn i s.heap)
    (way : (J.stop i H ∧ ∀ s1, Inv Y pins σ H s1 → stop s1) ∨ (J.go i H ∧ ∀ x H', J.yld i H x H' → g x σ H' R))
    (next : ∀ (h : Heap) (σ3 : L2.St) (H3 : Hp) (s3 : Shared), Inv Y (pins ++ pinsAt fp h) σ3 H3 s3 → tn (i + 1) h → R σ3 H3 → body s3) :
    Clause Y.prog Y.w Y.A tg (.ref it) Y.env stop body s := by
  unfold Clause
  rcases way with ⟨at_end, q⟩ | ⟨more, q⟩
  · refine thnF (T.done Y rfl rfl rfl calm i pins s σ H (fun _ _ => False) I apart here at_end) ?_
    rintro _ s1 ⟨rfl, I1⟩
    exact q s1 I1
  · refine thnF (T.item Y rfl rfl rfl calm i pins s σ H (fun _ _ => False) I apart here more) ?_
    rintro _ s1 ⟨u, rfl, z⟩
    refine thnF z ?_
    rintro _ s2 ⟨x, H2, I2, rel, y, there, free⟩
    have P := Inv.pinned I2 (fun b m => ⟨free b m, (apart b m).2⟩) (T.obj _ _ there)
    refine wpAny_mono (pg.run _ s2 _ H2 x u R P rel (q x H2 y)) ?_ (fun e s' z => quiet e s' z)
    rintro _ s3 ⟨σ3, H3, I3, r⟩
    exact next s2.heap σ3 H3 s3 I3 there r
theorem wipe_out {σ : L2.St} {i : Nat} : ∀ {vs : List Nat}, i ∉ vs → (wipe σ vs)[i]? = σ[i]?
  | [], _ => rfl
  | v :: vs, h => by
    unfold wipe
    rw [List.getElem?_set_ne (fun e => h (by simp [e])), wipe_out fun m => h (List.mem_cons_of_mem _ m)]
/-- from a block back to the body that holds it -/
theorem block_left {pins : List (Addr × Obj)} {σ σ' : L2.St} {H H' : Hp} {s s' : Shared} {scope : Scope} {cl : List (Str × Addr)} {C : Addr} {fp : List Addr} (I : Inv X pins σ H s) (far : ∀ b ∈ fp, FpOk X pins H b) (new : s.heap.objs.size ≤ C)
    (J : Inv (X.blk s H scope (compEnvC scope cl C X.env) fp) [] σ' H' s') : ∃ m, s'.heap.Ns C m ∧ ∀ h, Heap.SameBut C s'.heap h → Inv X pins σ H' { s' with heap := h } := by
  have back : Inv X pins σ H' s' := by
    refine I.call' (ch := fp) J.os J.base J.hok J.bare fun b m => ?_
    obtain ⟨_, f1, _, f3, f4, f5⟩ := far b m
    exact ⟨f3, f1, f4, f5⟩
  obtain ⟨_, f1, _, f3, f4, f5⟩ := I.fpOk (b := C) (H' := H') new J.free
  obtain ⟨m, names, _⟩ := J.loc
  exact ⟨m, names, fun h but => back.turned (t' := s'.toks) (fun b o n e => (but.2 b n).trans e) J.free f1 f3 f4 f5⟩
theorem pe_sc2 {elt t0 i0 t1 i1 : Expr} {scope : Scope} {own : List (Str × Nat)} {vs1 : List Nat} {pos : Pos} {wi wi1 : TI} {g g1 : TG} {te : TE} (calm : X.calm = true) (nd : X.N.Nodup) (walk0 : PI X t0 i0 wi) (ok : BlkOk X.N X.env.scope scope own) (sub : ∀ i ∈ vs1, i ∈ own.map (·.2))
    (goal0 : ∀ (s : Shared) (H : Hp) (C : Addr) (cl : List (Str × Addr)) (fp : List Addr), PG (X.blk s H scope (compEnvC scope cl C X.env) fp) t0 g)
    (walk1 : ∀ (s : Shared) (H : Hp) (C : Addr) (cl : List (Str × Addr)) (fp : List Addr), PI (X.blk s H scope (compEnvC scope cl C X.env) fp) t1 i1 wi1)
    (goal1 : ∀ (s : Shared) (H : Hp) (C : Addr) (cl : List (Str × Addr)) (fp : List Addr), PG (X.blk s H scope (compEnvC scope cl C X.env) fp) t1 g1)
    (item : ∀ (s : Shared) (H : Hp) (C : Addr) (cl : List (Str × Addr)) (fp : List Addr), PE (X.blk s H scope (compEnvC scope cl C X.env) fp) elt te)
    (plain0 : ∀ x, foldedSetIterable i0 X.env x = pure x := by intro _; rfl) (plain1 : ∀ env x, foldedSetIterable i1 env x = pure x := by intro _ _; rfl) :
    PE X (sc2 elt t0 i0 t1 i1 scope pos) (tSc2 X.w wi g wi1 g1 te (own.map (·.2)) vs1) := by
  constructor
  intro pins s σ H Q I want
  have clo : ∀ y ∈ scope.names, y.2 = .free → ∃ c, X.env.cells.lookup y.1 = some c := by
    intro y m e
    exact I.ok.has _ (ok.free y m e)
  show wpAny _ _ (comprehension _ scope X.env _ _ _ _ none) _ _ s
  refine wpAny_comprehension_free (use := none) rfl plain0 (closure_ok clo) ok.kind (fun y m e => (ok.uniq y m).trans (congrArg some e)) ?_
  refine thn (walk0.run pins s σ H _ I want) ?_
  intro xv s1 z1
  refine thn z1 ?_
  rintro _ s2 ⟨it, fp, tn, J, H2, rfl, I2, T, here, far, want2⟩
  refine PpSet.newSet_ok (newEnv_comp ?_)
  obtain ⟨D, eD⟩ : ∃ D, D = s2.heap.objs.size := ⟨_, rfl⟩
  obtain ⟨h3, e3⟩ : ∃ h3, h3 = s2.heap.push { cls := .type "set", dict := none, data := .set #[] 0 (.fresh 0 0 (!X.w.params.followText "set-order")) } := ⟨_, rfl⟩
  rw [← eD, ← e3]
  have freeD : H2 D = none := I2.hok.fresh (Nat.le_of_eq eD.symm)
  obtain ⟨W, ⟨m0, w0⟩, turns⟩ := want2 D freeD
  have kept : ∀ b o, s2.heap.get? b = some o → h3.get? b = some o := fun b o e => by
    rw [e3]; exact Heap.get?_push_of_some _ e
  have J3 : Inv X pins σ (upd H2 D (SetO X.w D (fun _ => false) 0)) { s2 with heap := h3 } := by
    refine I2.laid (t' := s2.toks) kept (Nat.le_of_eq eD.symm) (setO_new ?_)
    rw [eD, e3]; exact setR_fresh X.w
  have size3 : s2.heap.objs.size < h3.objs.size := by rw [e3, Heap.size_push]; exact Nat.lt_succ_self _
  have older : ∀ b ∈ fp, b < s2.heap.objs.size := fun b m => by
    obtain ⟨o, e, _⟩ := T.obj _ _ here b m
    exact Heap.lt_size e
  have far3 : ∀ b ∈ fp, FpOk X pins (upd H2 D (SetO X.w D (fun _ => false) 0)) b := fun b m => by
    have ne : b ≠ D := by rw [eD]; exact Nat.ne_of_lt (older b m)
    exact ⟨by rw [upd_ne ne]; exact (far b m).1, (far b m).2⟩
  have here3 : tn 0 h3 := T.keep _ _ _ here fun b _ => kept b
  generalize upd H2 D (SetO X.w D (fun _ => false) 0) = H3 at w0 J3 far3
  have B0 := block_start J3 ok nd fun b m => ⟨far3 b m, Nat.lt_trans (older b m) size3⟩
  have here4 : tn 0 (pushCells (h3.push { cls := .type "dict", data := .dict #[] }) scope.names) := T.keep _ _ _ here3 fun b _ o e => pushCells_keeps _ _ _ _ (Heap.get?_push_of_some _ e)
  generalize cellsFrom (h3.objs.size + 1) scope.names (cloFrom X.env.cells scope.names []) = cl at B0 ⊢
  have PG0 := goal0 { s2 with heap := h3 } H3 h3.objs.size cl fp
  have PI1 := walk1 { s2 with heap := h3 } H3 h3.objs.size cl fp
  have PG1 := goal1 { s2 with heap := h3 } H3 h3.objs.size cl fp
  have PE1 := item { s2 with heap := h3 } H3 h3.objs.size cl fp
  have leave : ∀ {σ' H' s'}, Inv (X.blk { s2 with heap := h3 } H3 scope (compEnvC scope cl h3.objs.size X.env) fp) [] σ' H' s' → Q (.ref D) H' → compPost (model X.prog X.w) X.A X.xe none (EP X pins σ Q) (.ref D) h3.objs.size (.ok .next) s' := fun {σ' H' s'} Z q => by
    obtain ⟨m, names, rest⟩ := block_left J3 far3 (Nat.le_refl _) Z
    exact ⟨m, names, fun h but => ⟨.ref D, H', rest h but, rfl, q⟩⟩
  generalize eY : X.blk { s2 with heap := h3 } H3 scope (compEnvC scope cl h3.objs.size X.env) fp = Y at B0 PG0 PI1 PG1 PE1 leave
  have yp : Y.prog = X.prog := by rw [← eY]
  have yw : Y.w = X.w := by rw [← eY]
  have yK : Y.K = X.K := by rw [← eY]
  have yA : Y.A = X.A := by rw [← eY]
  have ye : Y.env = compEnvC scope cl h3.objs.size X.env := by rw [← eY]
  have yc : Y.calm = true := by rw [← eY]; exact calm
  have quiet : ∀ e s', ¬ Y.xe e s' := by rw [← eY]; exact fun _ _ z => z
  have apart : ∀ {σ' H' s'}, Inv Y [] σ' H' s' → (∀ b ∈ fp, H' b = none) → ∀ b ∈ fp, FpOk Y [] H' b := fun {σ' H' s'} Z free b m => by
    subst eY
    exact ⟨free b m, (Z.ok.exf b m).1, Z.ok.exfs b m, .inl m, fun x c e => (Z.ok.exf b m).2 x c e, fun p hp => absurd hp List.not_mem_nil⟩
  clear eY
  show codeAny _ _ (.compStart (sc2 elt t0 i0 t1 i1 scope pos) 0 (.ref it) (.ref D) (compEnvC scope cl h3.objs.size X.env)) _ _
  rw [← yp, ← yw, ← yA] at leave ⊢
  rw [← ye]
  rw [← yp, ← yw, ← yK] at T
  -- the first clause's loop
  have loop0 : codeAny (model Y.prog Y.w) Y.A (.compLoop (sc2 elt t0 i0 t1 i1 scope pos) 0 (.ref it) (.ref D) Y.env) (compPost (model Y.prog Y.w) Y.A X.xe none (EP X pins σ Q) (.ref D) h3.objs.size)
      { s2 with heap := pushCells (h3.push { cls := .type "dict", data := .dict #[] }) scope.names } := by
    refine sc2_loop0 (plain1 _) (fun n s' => ∃ i H', Inv Y [] (wipe σ (own.map (·.2))) H' s' ∧ tn i s'.heap ∧ (∀ b ∈ fp, H' b = none) ∧ W i n H') ?_ m0 ⟨0, H3, B0, here4, fun b m => (far3 b m).1, w0⟩
    rintro n s5 ⟨i, H5, I5, here5, free5, w5⟩
    rcases turns i n H5 w5 with ⟨at_end, q⟩ | ⟨more, Nx, back, step⟩
    · exact clause_turn T yc quiet PG0 (R := fun _ _ => False) I5 (apart I5 free5) here5 (.inl ⟨at_end, fun s6 I6 => leave I6 q⟩) fun _ _ _ _ _ _ z => z.elim
    refine clause_turn T yc quiet PG0 I5 (apart I5 free5) here5 (.inr ⟨more, step⟩) ?_
    rintro h7 σ8 H8 s8 I8 here7 ⟨same, inner⟩
    have long : (wipe σ (own.map (·.2))).length = (wipe σ8 vs1).length := by rw [← same, wipe_length, wipe_length]
    -- the second clause's iterator
    refine wpAny_mono (PI1.run _ s8 σ8 H8 _ I8 inner) ?_ (fun e s' z => quiet e s' z)
    intro xv1 s9 z9
    refine wpAny_mono z9 ?_ (fun e s' z => quiet e s' z)
    rintro _ s10 ⟨it1, fp1, tn1, J1, H10, rfl, I10, T1, here10, far10, W1, ⟨m1, w1⟩, turns1⟩
    have loop1 : codeAny (model Y.prog Y.w) Y.A (.compLoop (sc2 elt t0 i0 t1 i1 scope pos) 1 (.ref it1) (.ref D) Y.env) (fun r s' => (∃ f, r = .ok f) ∧ ∃ m, m < n ∧ ∃ i H', Inv Y [] (wipe σ (own.map (·.2))) H' s' ∧ tn i s'.heap ∧ (∀ b ∈ fp, H' b = none) ∧ W i m H') s10 := by
      refine sc2_loop1 (fun k s' => ∃ j H', Inv Y ([] ++ pinsAt fp h7) (wipe σ8 vs1) H' s' ∧ tn1 j s'.heap ∧ (∀ b ∈ fp1, H' b = none) ∧ W1 j k H') ?_ m1
        ⟨0, H10, I10.weak (wipe_length _ _) (fun j v e => (wipe_some e).1), here10, fun b m => (far10 b m).1, w1⟩
      rintro k s11 ⟨j, H11, I11, here11, free11, w11⟩
      have apart1 : ∀ b ∈ fp1, FpOk Y ([] ++ pinsAt fp h7) H11 b := fun b m => ⟨free11 b m, (far10 b m).2⟩
      rcases turns1 j k H11 w11 with ⟨at_end, nx⟩ | ⟨more1, Ny, back1, step1⟩
      · refine clause_turn T1 yc quiet PG1 (R := fun _ _ => False) I11 apart1 here11 (.inl ⟨at_end, fun s12 I12 => ⟨⟨_, rfl⟩, ?_⟩⟩) fun _ _ _ _ _ _ z => z.elim
        obtain ⟨m', less, w'⟩ := back H11 nx
        refine ⟨m', less, i + 1, H11, (I12.unpinned (pins := [])).weak long fun x v e => ?_, T.keep _ _ _ here7 fun b m o e => (pins_keep I12 m e).1, fun b m => ?_, w'⟩
        · rw [← same] at e
          obtain ⟨e1, out⟩ := wipe_some e
          rw [wipe_out fun m => out (sub x m)]; exact e1
        · obtain ⟨o, e, _⟩ := T.obj _ _ here7 b m
          exact (pins_keep I12 m e).2
      · refine clause_turn T1 yc quiet PG1 I11 apart1 here11 (.inr ⟨more1, step1⟩) ?_
        rintro h13 σ13 H13 s13 I13 here13 ⟨same1, elem⟩
        refine wpAny_mono (PE1.run _ s13 σ13 H13 _ I13 elem) ?_ (fun e s' z => quiet e s' z)
        rintro u s14 ⟨_, H14, I14, rel, c, S, n', rfl, hD, room, ny⟩
        have add := mt_sadd _ s14 σ13 H14 (.ref D) [.int c] (.ref D) [u] (fun _ H' => Ny H') I14 rfl (Paired.cons rel .nil) ⟨D, c, S, n', rfl, rfl, by rw [yw]; exact hD, room, by rw [yw]; exact ny⟩
        refine wpAny_mono add ?_ (fun e s' z => quiet e s' z)
        rintro _ s15 ⟨_, H15, I15, _, ny'⟩
        obtain ⟨k', less, w'⟩ := back1 H15 ny'
        refine ⟨k', less, j + 1, H15, I15.unpinned.weak (by rw [← same1, wipe_length]) fun x v e => ?_, T1.keep _ _ _ here13 fun b m o e => (pins_keep I15 m e).1, fun b m => ?_, w'⟩
        · rw [← same1] at e
          exact (wipe_some e).1
        · obtain ⟨o, e, _⟩ := T1.obj _ _ here13 b m
          exact (pins_keep I15 m e).2
    exact sc2_start loop1 (T1.self Y.A 0 _ _ _ here10 loop1)
  exact PpSet.codeAny_compStart_set loop0 (T.self Y.A 0 _ _ _ here4 loop0)
end
/-- the second clause's loop in such a reading -/
def Inner (w : World) (D : Addr) (J1 : It) (H4 : Hp) (Nx : Hp → Prop) (g1 : TG) (te : TE) (σ2 : L2.St) (vs1 : List Nat) : Prop := ∃ W1 : Nat → Nat → Hp → Prop, (∃ m, W1 0 m H4) ∧ ∀ j k H, W1 j k H →
  (J1.stop j H ∧ Nx H) ∨ (J1.go j H ∧ ∃ Ny : Hp → Prop, (∀ H', Ny H' → ∃ k', k' < k ∧ W1 (j + 1) k' H') ∧ ∀ x H', J1.yld j H x H' → g1 x (wipe σ2 vs1) H' fun σ3 H5 => wipe σ3 vs1 = wipe σ2 vs1 ∧
    te σ3 H5 fun y H7 => ∃ (c : Int) (S : Int → Bool) (n : Nat), y = .int c ∧ H7 D = some (SetO w D S n) ∧ n + 1 < scanBound ∧ Ny (upd H7 D (SetO w D (fun j => S j || decide (j = c)) (if S c = true then n else n + 1))))
theorem inner_of {w : World} {D : Addr} {J1 : It} {H4 B1 : Hp} {Nx : Hp → Prop} {g1 : TG} {te : TE} {σ2 : L2.St} {vs1 : List Nat} {n1 : Nat} {item1 : Nat → V} (S : ItS J1 B1 n1 item1) (Pw : Nat → Hp → Prop) (h0 : Pw 0 H4) (he : ∀ j H', Pw j H' → Ex B1 H') (fin : ∀ H', Pw n1 H' → Nx H')
    (turn : ∀ j H', j < n1 → Pw j H' → g1 (item1 j) (wipe σ2 vs1) H' fun σ3 H5 => wipe σ3 vs1 = wipe σ2 vs1 ∧ te σ3 H5 fun y H7 => ∃ (c : Int) (S : Int → Bool) (k : Nat), y = .int c ∧ H7 D = some (SetO w D S k) ∧ k + 1 < scanBound ∧ Pw (j + 1) (upd H7 D (SetO w D (fun j => S j || decide (j = c)) (if S c = true then k else k + 1)))) : Inner w D J1 H4 Nx g1 te σ2 vs1 := by
  refine ⟨fun i m H' => m = n1 - i ∧ i ≤ n1 ∧ Pw i H', ⟨n1, by omega, Nat.zero_le _, h0⟩, ?_⟩
  rintro i m H' ⟨rfl, hi, p⟩
  by_cases c : i = n1
  · subst c
    exact .inl ⟨S.st H' (he _ _ p), fin H' p⟩
  · have hi' : i < n1 := by omega
    refine .inr ⟨S.go i H' (he _ _ p) hi', Pw (i + 1), fun H2 h => ⟨n1 - (i + 1), by omega, rfl, hi', h⟩, fun x H'' hy => ?_⟩
    obtain ⟨rfl, rfl⟩ := S.yl i x H' H'' (he _ _ p) hi' hy
    exact turn i H'' hi' p
theorem sc2_inv {w : World} {wi : TI} {H B : Hp} {n : Nat} {item : Nat → V} {g : TG} {wi1 : TI} {g1 : TG} {te : TE} {vs vs1 : List Nat} {σ : L2.St} {Q : VK} (hw : ∀ P : It → Hp → Prop, (∀ J H1, Ex H H1 → ItS J B n item → P J H1) → wi σ H P)
    (Pv : Addr → Nat → Hp → Prop) (h0 : ∀ D H1, Ex H H1 → H1 D = none → Pv D 0 (upd H1 D (SetO w D (fun _ => false) 0))) (he : ∀ D i H', Pv D i H' → Ex B H')
    (turn : ∀ D i H', i < n → Pv D i H' → g (item i) (wipe σ vs) H' fun σ2 H2 => wipe σ2 vs = wipe σ vs ∧ wi1 σ2 H2 fun J1 H4 => Inner w D J1 H4 (Pv D (i + 1)) g1 te σ2 vs1)
    (fin : ∀ D H', Pv D n H' → Q (.ref D) H') : tSc2 w wi g wi1 g1 te vs vs1 σ H Q := by
  refine hw _ fun J H1 e1 S D hD => ?_
  refine ⟨fun i m H' => m = n - i ∧ i ≤ n ∧ Pv D i H', ⟨n, by omega, Nat.zero_le _, h0 D H1 e1 hD⟩, ?_⟩
  rintro i m H' ⟨rfl, hi, p⟩
  by_cases c : i = n
  · subst c
    exact .inl ⟨S.st H' (he _ _ _ p), fin D H' p⟩
  · have hi' : i < n := by omega
    refine .inr ⟨S.go i H' (he _ _ _ p) hi', Pv D (i + 1), fun H2 h => ⟨n - (i + 1), by omega, rfl, hi', h⟩, fun x H'' hy => ?_⟩
    obtain ⟨rfl, rfl⟩ := S.yl i x H' H'' (he _ _ _ p) hi' hy
    exact turn D i H'' hi' p
theorem pi_tupK {X : Cx} {K : PySem.W.Frag} {tg l : Expr} {tl : TE} (h : PE X l tl) (e : X.K = K := by rfl) : PI X tg l (iTup K tl) := e ▸ pi_tup h
/-- ints in ascending order, told by what they hold -/
theorem sorted_is {n : Nat} {ns : List Int} {p : Nat → Bool} (h1 : ns.Pairwise (· < ·)) (h2 : ∀ k : Int, k ∈ ns ↔ ∃ x : Nat, k = (x : Int) ∧ x < n ∧ p x = true) : ns = ((List.range n).filter p).map fun x : Nat => (x : Int) := by
  have asc : (((List.range n).filter p).map fun x : Nat => (x : Int)).Pairwise (· < ·) := by
    rw [List.pairwise_map]
    exact (List.pairwise_lt_range.filter _).imp fun h => by omega
  have mem : ∀ k, k ∈ (((List.range n).filter p).map fun x : Nat => (x : Int)) ↔ k ∈ ns := fun k => by
    rw [h2]; simp only [List.mem_map, List.mem_filter, List.mem_range]
    constructor
    · rintro ⟨x, ⟨a, b⟩, rfl⟩; exact ⟨x, rfl, a, b⟩
    · rintro ⟨x, rfl, a, b⟩; exact ⟨x, ⟨a, b⟩, rfl⟩
  have nd : ∀ {l : List Int}, l.Pairwise (· < ·) → l.Nodup := fun h => h.imp fun z => by omega
  have pm := (List.perm_ext_iff_of_nodup (nd h1) (nd asc)).mpr fun k => (mem k).symm
  exact pm.eq_of_pairwise (fun a b _ _ h h' => by omega) h1 asc
end G

namespace G
open L2 PyProof.Rows PySem PySem.Spec
open Evl (Ex)
/-- the list of a range from nought -/
theorem rgV_nat (n : Nat) : rgV 0 (n : Int) = (List.range n).map fun k : Nat => V.int (k : Int) := by
  unfold rgV
  rw [show ((n : Int) - 0).toNat = n by omega]
  exact List.map_congr_left fun k _ => by rw [Int.zero_add]
theorem asg_split {te : TE} {g : TG} {D : Ends} {σ : L2.St} {H : Hp} (S : V → Hp → Prop) (hr : ∀ v H1, S v H1 → g v σ H1 D.nx) (h : ∀ R : VK, (∀ v H1, S v H1 → R v H1) → te σ H R) : tAsg te g D σ H := h _ hr
end G

namespace G
open L2 PyProof.Rows PySem PySem.Spec
open Evl (Ex)
/-! ### try with several named clauses (one name), nothing let out -/
abbrev Hd : Type := Value × (Addr → Value → Option Addr → TS)
/-- behind a clause its name is gone -/
def Ends.gone (D : Ends) (i : Nat) : Ends := { nx := fun σ H => D.nx (σ.set i none) H, rt := D.rt, bk := fun σ H => D.bk (σ.set i none) H, ct := fun σ H => D.ct (σ.set i none) H }
def wNamed (K : PySem.W.Frag) (i : Nat) (D : Ends) : List Hd → WX
  | [] => fun _ _ _ _ => False
  | h :: r => fun cls d σ H => ∃ b, PySem.W.exmOne K cls h.1 = some b ∧ (b = true → ∀ a, H a = none → h.2 a cls d (Ends.gone D i) (σ.set i (some (.ref a))) H) ∧ (b = false → wNamed K i D r cls d σ H)
inductive HdsAs (X : Cx) (n : Str) : List ExceptHandler → List Hd → Prop
  | nil : HdsAs X n [] []
  | cons {x : Str} {c : Value} {ts : Addr → Value → Option Addr → TS} {b₀ : Stmt} {suite : List Stmt} {np pos' : Pos} {hds : List ExceptHandler} {l : List Hd} (hc : Names X x c)
      (hsu : ∀ (a : Addr) (oe : Obj) (cls : Value) (d : Option Addr) (pn : List (Addr × Obj)), Zc cls d oe → (∃ vs, oe.data = .fields vs) → PSs (X.suite a ((a, oe) :: pn)) (b₀ :: suite) (ts a cls d)) (r : HdsAs X n hds l) :
      HdsAs X n (.ExceptHandler (some (.Name x np)) (some n) (b₀ :: suite) pos' :: hds) ((c, ts) :: l)
/-- an error has come down at the try: the state h, in which it still flies -/
structure Caught (X : Cx) (pins : List (Addr × Obj)) (σ : L2.St) (H : Hp) (B : Heap) (a : Addr) (cls : Value) (d : Option Addr) (s : Shared) (h : Heap) : Prop where
  fl : HandSPX.FlyingZ B (X.env :: X.outer) a (Zc cls d) h
  inv : Inv X pins σ H { s with heap := h }
section
variable {X : Cx} {n : Str} {i : Nat} {pins : List (Addr × Obj)} {σ : L2.St} {H : Hp} {B h : Heap} {a : Addr} {cls : Value} {d : Option Addr} {s : Shared}
/-- the suite's context holds there -/
theorem Caught.suite (C : Caught X pins σ H B a cls d s h) (hf : X.env.frame = some X.env.locals) (na : H a = none) :
    ∃ oe, h.get? a = some oe ∧ Zc cls d oe ∧ (∃ vs, oe.data = .fields vs) ∧ Inv (X.suite a ((a, oe) :: (X.pn ++ pins))) [] σ H { s with heap := h } := by
  obtain ⟨oe, vs, at_a, z, rec_⟩ := C.fl.there
  have out : ∀ e ∈ X.env :: X.outer, e.frame ≠ some a := fun e m q => by
    obtain ⟨_, o, g, no⟩ := C.fl.2.2.1.mem (List.mem_filterMap.mpr ⟨e, m, q⟩)
    rw [at_a] at g
    cases g
    exact no vs rec_
  have away : a ∉ X.fs := fun m => by
    obtain ⟨e, m', q⟩ := List.mem_filterMap.mp m
    exact out e (List.mem_cons_of_mem _ m') q
  have mine : a ≠ X.env.locals := by
    rintro rfl
    exact out X.env List.mem_cons_self hf
  exact ⟨oe, at_a, z, ⟨vs, rec_⟩, C.inv.suite at_a rec_ na mine away⟩
/-- behind a suite its name is unbound -/
theorem suite_end {q : Addr × Obj} {D : Ends} {pos : Pos} {fl : Flow} {s' : Shared} (good : X.Ok) (nd : X.N.Nodup) (slot : X.N[i]? = some n) (loc : X.env.kindOf n = some .local)
    (z : SP (X.suite a (q :: (X.pn ++ pins))) [] (Ends.gone D i) fl s') : wpAny (model X.prog X.w) X.A (do bindName X.env n .none; unbindBehindTheSuite X.env n pos) (fun _ s7 => SP X pins D fl s7) X.xe s' := by
  cases fl with
  | ret u => obtain ⟨v, _, _, J, r, t⟩ := z; exact gone_ok (J.unsuite good) nd slot loc fun _ J' => ⟨v, _, _, J', r, t⟩
  | next => obtain ⟨_, _, J, t⟩ := z; exact gone_ok (J.unsuite good) nd slot loc fun _ J' => ⟨_, _, J', t⟩
  | brk => obtain ⟨_, _, J, t⟩ := z; exact gone_ok (J.unsuite good) nd slot loc fun _ J' => ⟨_, _, J', t⟩
  | cont => obtain ⟨_, _, J, t⟩ := z; exact gone_ok (J.unsuite good) nd slot loc fun _ J' => ⟨_, _, J', t⟩
/-- the clauses, one after the other -/
theorem clauses_run {hds : List ExceptHandler} {l : List Hd} {D : Ends} (hf : X.env.frame = some X.env.locals) (nd : X.N.Nodup) (slot : X.N[i]? = some n) (loc : X.env.kindOf n = some .local) (na : H a = none) (C : Caught X pins σ H B a cls d s h)
    (again : ∀ h', HandSPX.FlyingZ B (X.env :: X.outer) a (Zc cls d) h' → h.UpToSlots h' → Caught X pins σ H B a cls d s h') (hh : HdsAs X n hds l) :
    wNamed X.K i D l cls d σ H → wpAny (model X.prog X.w) X.A (handleBy (.ref a) X.env hds) (SP X pins D) X.xe { s with heap := h } := by
  induction hh with
  | nil => exact fun w => w.elim
  | @cons x c ts b₀ suite np pos' hds l names body rest ih =>
    rintro ⟨b, match_, yes, no⟩
    obtain ⟨oe, at_a, z, _, S⟩ := C.suite hf na
    refine wpAny_handleBy_cons (codeAny_handlers_test ?_) nofun
    have type_ : PySem.W.Looks (model X.prog X.w) h (typeOf (.ref a)) cls := fun _ _ _ _ k q => wpAny_typeOf_ref (k _ _ at_a) (by rw [z.1]; exact q)
    have asks := PySem.W.exm_one (M := model X.prog X.w) C.inv.kIn type_ match_
    have cls_ : ∀ {Q : Value → Shared → Prop} {E : Value → Shared → Prop}, Q c { s with heap := h } → wpAny (model X.prog X.w) (X.A.mark (some (.ref a))) (eval (.Name x np) X.env) Q E { s with heap := h } := fun {Q E} q => by
      obtain ⟨gl, dbg, own | ⟨none_, boot, nm⟩⟩ := names
      · exact ld_glob S gl own q dbg
      · exact ld_blt S gl none_ boot q nm dbg
    refine cls_ (asks.here ?_)
    cases b with
    | false => exact ih (no rfl)
    | true =>
      refine codeAny_handlers_suite_as (HandSPX.lands_againZ C.fl fun h' fl' up' => ?_)
      obtain ⟨oe', _, z', rec', S'⟩ := (again h' fl' up').suite hf na
      refine store_ok (X := X.suite a ((a, oe') :: (X.pn ++ pins))) (v := .ref a) S' nd slot (Or.inl loc) rfl (fun s5 S5 => ?_) (.inr loc)
      exact wpAny_mono ((body a oe' cls d (X.pn ++ pins) z' rec').run [] s5 _ H _ S5 (yes rfl a na)) (fun fl s6 t => suite_end C.inv.ok nd slot loc t) fun _ _ t => False.elim t
end
section
variable {X : Cx} {n : Str} {i : Nat} {body : List Stmt} {h₀ : ExceptHandler} {hds : List ExceptHandler} {l : List Hd} {pos : Pos} {tb : WX → TS}
theorem ps_tryAs (hs : X.stack = X.env :: X.outer) (hf : X.env.frame = some X.env.locals) (nd : X.N.Nodup) (slot : X.N[i]? = some n) (loc : X.env.kindOf n = some .local)
    (run : ∀ (W : WX) (pn : List (Addr × Obj)) (xe : Value → Shared → Prop), Takes (X.tr pn xe) W → PassesOwn (model X.prog X.w) X.A X.env xe → PSs (X.tr pn xe) body (tb W))
    (hh : HdsAs X n (h₀ :: hds) l) : PS X (.Try body (h₀ :: hds) [] [] pos) (fun D σ H => tb (wNamed X.K i D l) D σ H) := by
  constructor
  intro pins s σ H D I want
  have good := I.ok
  have frames : X.A.frames = some (X.env :: X.outer) := good.frames.trans (congrArg some hs)
  have catches : Takes (X.tr (X.pn ++ pins) fun e s1 => wpAny (model X.prog X.w) X.A (noteFrame e X.env) (fun _ s2 => wpAny (model X.prog X.w) X.A (setFlight e none) (fun _ s3 =>
      wpAny (model X.prog X.w) X.A (handleBy e X.env (h₀ :: hds)) (SP X pins D) X.xe s3) X.xe s2) X.xe s1) (wNamed X.K i D l) := by
    rintro _ s' ⟨a, B, s0, pins', σ', H', cls, d, rfl, J, ground, up, sky, na, os, bare, w⟩
    have J' : Inv X pins σ' H' s0 := J.ofTry good
    have sky' : Sky B (X.env :: X.outer) a (Zc cls d) X.env.locals s'.heap := hs ▸ sky
    refine Sky.land Zc.steady frames hf sky' fun h3 fl3 up3 => ?_
    have made : ∀ h, HandSPX.FlyingZ B (X.env :: X.outer) a (Zc cls d) h → s'.heap.UpToSlots h → Caught X pins σ' H' B a cls d s' h := fun h fl up' => ⟨fl, J'.landed ground fl.1 (up.trans up') os bare⟩
    exact clauses_run hf nd slot loc na (made h3 fl3 up3) (fun h fl up' => made h fl (up3.trans up')) hh w
  refine wpAny_Try_except (wpAny_mono ((run _ _ _ catches PassesOwn.looking).run [] s σ H D (I.toTry _) want) (fun fl s1 z => ?_) fun _ _ z => z)
  cases fl with
  | ret u => obtain ⟨v, _, _, J, r⟩ := z; exact ⟨v, _, _, J.ofTry good, r⟩
  | next => obtain ⟨_, _, J, r⟩ := z; exact wpAny_execs_nil ⟨_, _, J.ofTry good, r⟩
  | brk => obtain ⟨_, _, J, r⟩ := z; exact ⟨_, _, J.ofTry good, r⟩
  | cont => obtain ⟨_, _, J, r⟩ := z; exact ⟨_, _, J.ofTry good, r⟩
end
/-! ### calls in a try's body: what is let out is told where the call stands -/
section
variable {X : Cx} {W : WX} {k : Nat} {f C : Addr} {fd : FuncData} {ps ks : List Str} {sp : Sp} {x : Str} {p pos : Pos} {e : Expr} {es : List Expr} {kws : List Keyword} {t tk : TA}
/-- what W wishes, at the slots σ -/
def atS (W : WX) (σ : L2.St) : XK := fun cls d H => W cls d σ H
theorem run_gS {pins : List (Addr × Obj)} {σ : L2.St} {H : Hp} {s : Shared} {Q : VK} {us : List Value} {vs : List V} (F : FG X.prog X.w X.K X.mg X.base (L2.CX X.prog X.w) k f fd ps sp) (hr : RG k X.A) (hb : Binds X.K fd ps []) (hx : Takes X W)
    (I : Inv X pins σ H s) (r : Vals vs us) (h : sp vs H Q (atS W σ)) : wpAny (model X.prog X.w) X.A (call (.ref f) us) (EP X pins σ Q) X.xe s := by
  have nl : us.length = ps.length := r.length.symm.trans (F.few _ _ _ _ h)
  have bt : BindsTo s fd ⟨us, []⟩ (ps.zip us) := by
    have z := hb s us I.kIn (by rw [List.append_nil]; exact nl)
    rwa [List.append_nil] at z
  refine wpAny_call (codeAny_mono (F.run X.A X.stack s H _ us vs Q _ hr I.env0 bt r h) fun q s' hq => ?_)
  cases q with
  | error e => exact hx e s' (XE.of_call I (fun cls d H' h => h) hq)
  | ok fl => cases fl with
    | ret u => exact I.after hq
    | next => exact hq
    | brk => exact hq
    | cont => exact hq
theorem run_gkS {n : Nat} {g : List Value → List Value → List Value} {gV : List V → List V → List V} {pins : List (Addr × Obj)} {σ : L2.St} {H : Hp} {s : Shared} {Q : VK} {us ws : List Value} {vs zs : List V} (F : FG X.prog X.w X.K X.mg X.base (L2.CX X.prog X.w) k f fd ps sp) (hr : RG k X.A)
    (hb : KBn X.K fd ps n ks g gV) (hx : Takes X W) (I : Inv X pins σ H s) (r : Vals vs us) (rz : Vals zs ws) (l1 : vs.length = n) (l2 : zs.length = ks.length) (h : sp (gV vs zs) H Q (atS W σ)) :
    wpAny (model X.prog X.w) X.A (call (.ref f) us (ks.zip ws)) (EP X pins σ Q) X.xe s := by
  refine wpAny_call (codeAny_mono (F.run X.A X.stack s H _ (g us ws) _ Q _ hr I.env0 (hb.to s us ws I.kIn (r.length.symm.trans l1) (rz.length.symm.trans l2)) (hb.rel r rz) h) fun q s' hq => ?_)
  cases q with
  | error e => exact hx e s' (XE.of_call I (fun cls d H' h => h) hq)
  | ok fl => cases fl with
    | ret u => exact I.after hq
    | next => exact hq
    | brk => exact hq
    | cont => exact hq
theorem run_gmkS {n : Nat} {g : List Value → List Value → List Value} {gV : List V → List V → List V} {pins : List (Addr × Obj)} {σ : L2.St} {H : Hp} {s : Shared} {Q : VK} {us ws : List Value} {vs zs : List V} (M : Mk X.K C f) (F : FG X.prog X.w X.K X.mg X.base (L2.CX X.prog X.w) k f fd ps sp) (hr : RG (k + 1) X.A)
    (hb : KBn X.K fd ps (n + 1) ks g gV) (hx : Takes X W) (I : Inv X pins σ H s) (r : Vals vs us) (rz : Vals zs ws) (l1 : vs.length = n) (l2 : zs.length = ks.length)
    (want : ∀ a d : Addr, H a = none → H d = none → d ≠ a → sp (gV (.ref a :: vs) zs) (upd (upd H d (.own a)) a (.ins C d [])) (fun v H' => v = .non ∧ Q (.ref a) H') (atS W σ)) :
    wpAny (model X.prog X.w) X.A (call (.ref C) us (ks.zip ws)) (EP X pins σ Q) X.xe s :=
  run_new M F hr hb (fun _ _ s2 e J z => hx e s2 (XE.of_call J (fun _ _ _ w => w) z)) I r rz l1 l2 want
def tCallW (sp : Sp) (W : WX) (t : TA) : TE := fun σ H Q => t σ H fun vs H1 => sp vs H1 Q (atS W σ)
def tGKW (n m : Nat) (sp : Sp) (gV : List V → List V → List V) (W : WX) (t tk : TA) : TE := fun σ H Q => t σ H fun vs H1 => tk σ H1 fun zs H2 => vs.length = n ∧ zs.length = m ∧ sp (gV vs zs) H2 Q (atS W σ)
def tGMW (C : Addr) (n m : Nat) (sp : Sp) (gV : List V → List V → List V) (W : WX) (t tk : TA) : TE := fun σ H Q => t σ H fun vs H1 => tk σ H1 fun zs H2 => vs.length = n ∧ zs.length = m ∧ ∀ x dx, H2 x = none → H2 dx = none → dx ≠ x →
  sp (gV (.ref x :: vs) zs) (upd (upd H2 dx (.own x)) x (.ins C dx [])) (fun v H3 => v = .non ∧ Q (.ref x) H3) (atS W σ)
theorem pe_cW (F : Cal X.prog X.w X.K X.mg X.base (L2.CX X.prog X.w) k x ps sp) (hr : RG k X.A) (hg : Gl X x) (hx : Takes X W) (ha : PA X (e :: es) t) (hdb : (x == ("__debug__" : Str)) = false := by decide)
    (one : OneByOne X e es pos := by exact ⟨rfl, rfl⟩) : PE X (.Call (.Name x p) (e :: es) [] pos) (tCallW sp W t) := by
  obtain ⟨fd, G, b, _⟩ := F.ex
  exact ⟨fun pins s σ H Q I h => wpAny_Call_Name_kw (ld_glob I hg F.g (PySem.W.callWith_K (h₀ := X.base) I.ok.mod.kin F.kp (thn (ha.run pos pins s σ H _ I h) fun us s1 ⟨vs, H1, I1, r, q⟩ => ⟨I1.kIn, run_gS G hr b hx I1 r q⟩) one.next one.none) hdb)⟩
theorem pe_gkW {g : List Value → List Value → List Value} {gV : List V → List V → List V} (F : FG X.prog X.w X.K X.mg X.base (L2.CX X.prog X.w) k f fd ps sp) (hr : RG k X.A) (hg : Gl X x) (hm : X.mg x = some (.ref f)) (hk : PySem.W.keepIn X.K (.ref f) = true) (hb : KBn X.K fd ps 0 ks g gV) (hx : Takes X W)
    (hkw : PK X kws tk) (nk : NamedOnly X kws pos ks := by exact ⟨rfl, rfl, rfl⟩)
    (hdb : (x == ("__debug__" : Str)) = false := by decide) :
    PE X (.Call (.Name x p) [] kws pos) (tGKW 0 ks.length sp gV W tNil tk) := by
  refine ⟨fun pins s σ H Q I h => wpAny_Call_Name_kw (ld_glob I hg hm (PySem.W.callWith_KW0 (h₀ := X.base) I.ok.mod.kin hk nk.each (thn (hkw.run pos pins s σ H _ I h) ?_) nk.flat) hdb)⟩
  rintro ws s2 ⟨zs, H2, I2, rz, l1, l2, q2⟩
  refine ⟨I2.kIn, ?_⟩
  rw [nk.keys]
  exact run_gkS (us := []) (vs := []) F hr hb hx I2 .nil rz rfl l2 q2
theorem pe_gmk0W {g : List Value → List Value → List Value} {gV : List V → List V → List V} (M : Mk X.K C f) (F : FG X.prog X.w X.K X.mg X.base (L2.CX X.prog X.w) k f fd ps sp) (hr : RG (k + 1) X.A) (hg : Gl X x) (hm : X.mg x = some (.ref C)) (hb : KBn X.K fd ps 1 ks g gV) (hx : Takes X W) (hkw : PK X kws tk)
    (nk : NamedOnly X kws pos ks := by exact ⟨rfl, rfl, rfl⟩) (hdb : (x == ("__debug__" : Str)) = false := by decide) :
    PE X (.Call (.Name x p) [] kws pos) (tGMW C 0 ks.length sp gV W tNil tk) := by
  refine ⟨fun pins s σ H Q I h => wpAny_Call_Name_kw (ld_glob I hg hm (PySem.W.callWith_KW0 (h₀ := X.base) I.ok.mod.kin M.kp nk.each (thn (hkw.run pos pins s σ H _ I h) ?_) nk.flat) hdb)⟩
  rintro ws s2 ⟨zs, H2, I2, rz, l1, l2, q2⟩
  refine ⟨I2.kIn, ?_⟩
  rw [nk.keys]
  exact run_gmkS (us := []) (vs := []) M F hr hb hx I2 .nil rz rfl l2 q2
theorem pe_gmkW (M : Mk X.K C f) (F : FG X.prog X.w X.K X.mg X.base (L2.CX X.prog X.w) k f fd ps sp) (hr : RG (k + 1) X.A) (hg : Gl X x) (hm : X.mg x = some (.ref C)) {n : Nat} {g : List Value → List Value → List Value} {gV : List V → List V → List V} (hb : KBn X.K fd ps (n + 1) [] g gV) (hx : Takes X W) (ha : PA X (e :: es) t)
    (hdb : (x == ("__debug__" : Str)) = false := by decide) (one : OneByOne X e es pos := by exact ⟨rfl, rfl⟩) :
    PE X (.Call (.Name x p) (e :: es) [] pos) (tGMW C n 0 sp gV W t tNil) := by
  refine ⟨fun pins s σ H Q I h => wpAny_Call_Name_kw (ld_glob I hg hm (PySem.W.callWith_K (h₀ := X.base) I.ok.mod.kin M.kp (thn (ha.run pos pins s σ H _ I h) ?_) one.next one.none) hdb)⟩
  rintro us s1 ⟨vs, H1, I1, r, l1, l2, q⟩
  refine ⟨I1.kIn, ?_⟩
  exact run_gmkS (ks := []) (ws := []) (zs := []) M F hr hb hx I1 r .nil l1 rfl q
/-- the items at given places -/
def sel {α : Type} (is : List Nat) (ws : List α) : List α := is.filterMap fun i => ws[i]?
theorem vals_sel {zs : List V} {ws : List Value} (r : Vals zs ws) : ∀ is : List Nat, Vals (sel is zs) (sel is ws)
  | [] => .nil
  | i :: is => by
    have ih := vals_sel r is
    unfold sel at ih ⊢
    rw [List.filterMap_cons, List.filterMap_cons]
    cases e : zs[i]? with
    | none =>
      have l := r.length
      have : ws[i]? = none := by
        rw [List.getElem?_eq_none_iff] at e ⊢; omega
      rw [this]; exact ih
    | some z =>
      obtain ⟨u, hu, rv⟩ := r.get e
      rw [hu]; exact .cons rv ih
theorem vals_nil_app {us : List Value} {vs zs : List V} {ws : List Value} (r : Vals vs us) (r2 : Vals zs ws) : Vals (vs ++ zs) (us ++ ws) := by
  induction r with
  | nil => exact r2
  | cons h _ ih => exact .cons h ih
theorem kb_sel {K : PySem.W.Frag} {x : Str} {params : Arguments} {body : List Stmt} {scope : Scope} {f : Addr} {fd : FuncData} {ps : List Str} (F : FunD K x x params body scope [] [] f fd) (ks : List Str) (is : List Nat)
    (hb : ∀ (kV doc pm : Value) (an : Option Addr) (cdv ct : Value) (us ws : List Value), us.length = 0 → ws.length = ks.length → bindArgs (PySem.W.fnOf x x params body scope .none kV doc pm an cdv ct) ⟨us, ks.zip ws⟩ = pure (ps.zip (us ++ sel is ws))) :
    KBn K fd ps 0 ks (fun us ws => us ++ sel is ws) (fun vs zs => vs ++ sel is zs) := kb_of F 0 ks (fun us ws => us ++ sel is ws) (fun r r' => vals_nil_app r (vals_sel r' is)) hb
/-- f(k = v, ..) of a named def, in a try's body -/
theorem pe_ckW {params : Arguments} {body : List Stmt} {scope : Scope} (is : List Nat) (F : Cal X.prog X.w X.K X.mg X.base (L2.CX X.prog X.w) k x ps sp) (D : ∃ fd, FunD X.K x x params body scope [] [] (He.ga X.K x) fd)
    (hb : ∀ (kV doc pm : Value) (an : Option Addr) (cdv ct : Value) (us ws : List Value), us.length = 0 → ws.length = ks.length → bindArgs (PySem.W.fnOf x x params body scope .none kV doc pm an cdv ct) ⟨us, ks.zip ws⟩ = pure (ps.zip (us ++ sel is ws))) (hr : RG k X.A) (hg : Gl X x) (hx : Takes X W) (hkw : PK X kws tk)
    (nk : NamedOnly X kws pos ks := by exact ⟨rfl, rfl, rfl⟩)
    (hdb : (x == ("__debug__" : Str)) = false := by decide) :
    PE X (.Call (.Name x p) [] kws pos) (tGKW 0 ks.length sp (fun us ws => us ++ sel is ws) W tNil tk) := by
  obtain ⟨fd, D, G⟩ := cal_fg F D
  exact pe_gkW G hr hg F.g F.kp (kb_sel D ks is hb) hx hkw nk hdb
/-- the same, of a def that lets nothing out -/
theorem pe_ck {CX : CXT} {E : XK} {params : Arguments} {body : List Stmt} {scope : Scope} (is : List Nat) (F : Cal X.prog X.w X.K X.mg X.base CX k x ps sp) (D : ∃ fd, FunD X.K x x params body scope [] [] (He.ga X.K x) fd)
    (hb : ∀ (kV doc pm : Value) (an : Option Addr) (cdv ct : Value) (us ws : List Value), us.length = 0 → ws.length = ks.length → bindArgs (PySem.W.fnOf x x params body scope .none kV doc pm an cdv ct) ⟨us, ks.zip ws⟩ = pure (ps.zip (us ++ sel is ws))) (hr : RG k X.A) (hg : Gl X x) (hx : Passes CX X E) (hkw : PK X kws tk)
    (nk : NamedOnly X kws pos ks := by exact ⟨rfl, rfl, rfl⟩)
    (hdb : (x == ("__debug__" : Str)) = false := by decide) :
    PE X (.Call (.Name x p) [] kws pos) (tGK 0 ks.length sp (fun us ws => us ++ sel is ws) E tNil tk) := by
  obtain ⟨fd, D, G⟩ := cal_fg F D
  exact pe_gk0 G hr hg F.g F.kp (kb_sel D ks is hb) hx hkw nk hdb
end
end G

namespace G
open L2 PyProof.Rows PySem PySem.Spec

/-! ### (x,) * 0 -/
theorem tuple_mul0 (l : Addr) (items : Array Value) (n : Nat) (dd : Option Addr) (sl : Array (Option Value)) (u : Tok) (c1 : items.isEmpty = false) :
    Meets (Builtin.«tuple.__mul__» ⟨[.ref l, .int 0 u], []⟩) (fun _ R s => s.heap.get? l = some { cls := .type "tuple", dict := dd, data := .seq items n, slots := sl } ∧
      R (.ok (.ret (Value.ref s.heap.objs.size))) { s with heap := s.heap.push { cls := Value.type "tuple", data := Data.seq #[] }, toks := s.toks }) :=
  .of_wp fun _ _ _ R ⟨heap, glob, held, toks, out⟩ ⟨lies, done⟩ => by
    have f1 := AutoSeq1.idx_int
    wp_walk using AutoSeq1.wpAny_loadPart' lies
    exact ⟨_, rfl, done⟩
def rRep0 (K : PySem.W.Frag) : R2 := fun x y H Q => ∃ l xs, x = .ref l ∧ y = .int 0 ∧ SqT K H l xs ∧ xs ≠ [] ∧ ∀ p, H p = none → Q (.ref p) (upd H p (.tup []))
theorem op_rep0 {X : Cx} {K : PySem.W.Frag} (h : X.K = K := by rfl) : OpR X (binaryOp .Mult) (rRep0 K) := by
  subst h
  rintro pins s σ H x y v u Q I rx ry ⟨l, xs, rfl, rfl, hT, ne, q⟩
  cases rx
  obtain ⟨t, rfl⟩ := ry
  obtain ⟨its, r, ⟨⟨cls, dd, dt, sl⟩, ho, hc, n, hd⟩, hs⟩ := I.tuple hT
  simp only at hc hd
  subst hc hd
  have some_ : its.toArray.isEmpty = false := by
    cases its with
    | nil => exact absurd (List.eq_nil_of_length_eq_zero r.length) ne
    | cons a b => rfl
  refine wpAny_binaryOp_repeat_ref (T := "tuple") (U := "int") (by decide) ⟨_, ho, rfl⟩ (fun s' => typeIs_int s' 0 t) noFill_tuple_mul F.fills_int_mul F.slot_int_rmul repeat_tuple F.slot_int_index.lookup
    (call_meets F.slot_int_rmul (typeIs_int s 0 t) F.entry_int_rmul (F.args_int_rmul_2 _ _) (int_rmul_tuple 0 t l its.toArray n dd sl) ⟨ho, rfl, ⟨_, ho, rfl⟩, call_meets F.slot_tuple_mul ⟨_, ho, rfl⟩ F.entry_tuple_mul (F.args_tuple_mul_2 _ _) (tuple_mul0 l its.toArray n dd sl t some_) ⟨ho, ?_⟩⟩)
  exact ⟨.ref s.heap.objs.size, _, I.laid (t' := s.toks) (o := .tup []) (fun b ob q => Heap.get?_push_of_some _ q) (Nat.le_refl _) ⟨Nat.zero_le _, [], .nil, IsTup.new _ _⟩, rfl, q _ (I.hok.fresh (Nat.le_refl _))⟩
end G

namespace G
open L2 PyProof.Rows PySem PySem.Spec
open Evl (Ex)
/-! ### data that has a short text -/
/-- d's leaves are short, its weight is w at most, its depth p at most -/
structure Small (w p : Nat) (d : PyData) : Prop where
  lf : d.leavesShort 32 = true
  sh : d.showable = true
  dp : d.depth ≤ p
  wt : d.weight ≤ w
theorem Small.mono {w p w' p' : Nat} {d : PyData} (h : Small w p d) (hw : w ≤ w') (hp : p ≤ p') : Small w' p' d := ⟨h.lf, h.sh, Nat.le_trans h.dp hp, Nat.le_trans h.wt hw⟩
theorem Small.shown {w p : Nat} {d : PyData} (h : Small w p d) (hw : w ≤ 400000) : d.shown.length ≤ sizeLine := by
  have z := PyData.shown_le 32 (by decide) d h.lf
  have := h.wt
  rw [sizeLine_eq]; omega
def SmallAll (w p : Nat) (ds : List PyData) : Prop := ∀ d ∈ ds, Small w p d
theorem small_all {w p : Nat} : ∀ {ds : List PyData}, SmallAll w p ds → PyData.leavesShortAll 32 ds = true ∧ PyData.showableAll ds = true ∧ PyData.depthAll ds ≤ p ∧ PyData.weightAll ds ≤ ds.length * (w + 1)
  | [], _ => ⟨rfl, rfl, by simp [PyData.depthAll], by simp [PyData.weightAll]⟩
  | d :: ds, h => by
    obtain ⟨h1, h2, h3, h4⟩ := small_all (ds := ds) fun x m => h x (List.mem_cons_of_mem _ m)
    have s := h d List.mem_cons_self
    refine ⟨?_, ?_, ?_, ?_⟩
    · simp only [PyData.leavesShortAll, s.lf, h1, Bool.and_self]
    · simp only [PyData.showableAll, s.sh, h2, Bool.and_self]
    · have := s.dp; simp only [PyData.depthAll]; omega
    · have := s.wt
      simp only [PyData.weightAll, List.length_cons, Nat.add_mul]; omega
theorem Small.list {w p : Nat} {ds : List PyData} (h : SmallAll w p ds) : Small (ds.length * (w + 1)) (p + 1) (.list ds) := by
  obtain ⟨h1, h2, h3, h4⟩ := small_all h
  exact ⟨by simpa [PyData.leavesShort] using h1, by simpa [PyData.showable] using h2, by simp only [PyData.depth]; omega, by simpa [PyData.weight] using h4⟩
theorem Small.tuple {w p : Nat} {ds : List PyData} (h : SmallAll w p ds) : Small (ds.length * (w + 1)) (p + 1) (.tuple ds) := by
  obtain ⟨h1, h2, h3, h4⟩ := small_all h
  exact ⟨by simpa [PyData.leavesShort] using h1, by simpa [PyData.showable] using h2, by simp only [PyData.depth]; omega, by simpa [PyData.weight] using h4⟩
def smallB (w p : Nat) (d : PyData) : Bool := d.leavesShort 32 && (d.showable && (decide (d.depth ≤ p) && decide (d.weight ≤ w)))
theorem smallB_ok {w p : Nat} {d : PyData} (h : smallB w p d = true) : Small w p d := by
  unfold smallB at h
  simp only [decide_eq_true_eq, Bool.and_eq_true] at h
  exact ⟨h.1, h.2.1, h.2.2.1, h.2.2.2⟩
theorem small_nats : (List.range 128).all (fun k => smallB 8 1 (.int (k : Int))) = true := by decide +kernel
theorem Small.nat {k : Nat} (h : k < 128) : Small 8 1 (.int (k : Int)) := smallB_ok (List.all_eq_true.mp small_nats k (List.mem_range.mpr h))
theorem rRepr_of {K : PySem.W.Frag} {H : Hp} {x : V} {d : PyData} {Q : VK} {w p : Nat} (h : Dq K H x d) (s : Small w p d) (hw : w ≤ 400000) (hp : p ≤ 60) (q : Q (.str d.shown) H) : rRepr K [x] H Q :=
  ⟨x, d, rfl, h, s.sh, s.shown hw, Nat.le_trans s.dp hp, q⟩
end G

namespace G
open L2 PyProof.Rows PySem PySem.Spec
open Evl (Ex)
/-! ### lists of anything: == [], != [], a list against itself -/
section
variable {X : Cx} {K : PySem.W.Frag}
def rNil (K : PySem.W.Frag) (f : Bool → Bool) : R2 := fun x y H Q => ∃ a xs b, x = .ref a ∧ y = .ref b ∧ SqL K H a xs ∧ SqL K H b [] ∧ Q (.bl (f xs.isEmpty)) H
theorem nil_parts {pins : List (Addr × Obj)} {σ : L2.St} {H : Hp} {s : Shared} {a b : Addr} {xs : List V} (I : Inv X pins σ H s) (h1 : SqL X.K H a xs) (h2 : SqL X.K H b []) :
    ∃ us, s.heap.IsList a us ∧ s.heap.IsList b #[] ∧ us.size = xs.length := by
  obtain ⟨us, r, p, _⟩ := I.list h1
  obtain ⟨ws, r2, p2, _⟩ := I.list h2
  cases r2
  exact ⟨us.toArray, p.isList, p2.isList, by rw [List.size_toArray, ← r.length]⟩
theorem op_eqNil (room : X.A.units < cLine) (h : X.K = K := by rfl) : OpR X (compareOp .Eq) (rNil K fun z => z) := by
  subst h
  rintro pins s σ H _ _ v u Q I rx ry ⟨a, xs, b, rfl, rfl, h1, h2, q⟩
  cases rx
  cases ry
  obtain ⟨us, p1, p2, sz⟩ := nil_parts I h1 h2
  cases xs with
  | nil =>
    refine SeqAt.eq_listAt (e := fun _ => true) p1 p2 (by rw [sz]; rfl) room (fun j z1 z2 => absurd z2 (Nat.not_lt_zero _)) ⟨.bl true, H, I, ?_, q⟩
    rw [sz]; rfl
  | cons x xs => exact SeqAt.eq_list_lengthsAt p1 p2 (by rw [bne_iff_ne, sz]; exact Nat.succ_ne_zero _) room ⟨.bl false, H, I, rfl, q⟩
theorem op_neNil (room : X.A.units < cLine) (h : X.K = K := by rfl) : OpR X (compareOp .NotEq) (rNil K fun z => !z) := by
  subst h
  rintro pins s σ H _ _ v u Q I rx ry ⟨a, xs, b, rfl, rfl, h1, h2, q⟩
  cases rx
  cases ry
  obtain ⟨us, p1, p2, sz⟩ := nil_parts I h1 h2
  cases xs with
  | nil =>
    refine SeqAt.RcNeAt.lists (e := fun _ => true) p1 p2 (by rw [sz]; rfl) room (fun j z1 z2 => absurd z2 (Nat.not_lt_zero _)) _ _ _ _ ⟨.bl false, H, I, ?_, q⟩
    rw [sz]; rfl
  | cons x xs => exact SeqAt.RcNeAt.lists_lengths p1 p2 (by rw [bne_iff_ne, sz]; exact Nat.succ_ne_zero _) room _ _ _ _ ⟨.bl true, H, I, rfl, q⟩
def rSelf (K : PySem.W.Frag) : R2 := fun x y H Q => ∃ a xs, x = .ref a ∧ y = .ref a ∧ SqL K H a xs ∧ Q (.bl false) H
theorem op_neSelf (room : X.A.units < cLine) (h : X.K = K := by rfl) : OpR X (compareOp .NotEq) (rSelf K) := by
  subst h
  rintro pins s σ H _ _ v u Q I rx ry ⟨a, xs, rfl, rfl, h1, q⟩
  cases rx
  cases ry
  obtain ⟨us, _, p, _⟩ := I.list h1
  refine SeqAt.RcNeAt.lists (e := fun _ => true) p.isList p.isList rfl room (fun j z1 z2 => SeqAt.EqAt.same _) _ _ _ _ ⟨.bl false, H, I, ?_, q⟩
  have z : (List.range us.toArray.size).all (fun _ => true) = true := by simp
  rw [z]; rfl
end
theorem f2_get {α β : Type} {R : α → β → Prop} : ∀ {as : List α} {bs : List β} {i : Nat} {a : α}, F2 R as bs → as[i]? = some a → ∃ b, bs[i]? = some b ∧ R a b
  | _, _, _, _, .nil, seen => by simp at seen
  | _, _, 0, _, .cons h _, e => by simp at e; subst e; exact ⟨_, rfl, h⟩
  | _, _, i + 1, _, .cons _ hs, e => by
    obtain ⟨b, h1, h2⟩ := f2_get (i := i) hs (by simpa using e)
    exact ⟨b, by simpa using h1, h2⟩
end G

namespace HT
open PyProof.Rows PySem.Spec PySem
section
variable {s : Shared} {w : World} {prog : Program} {E : Value → Shared → Prop} {A : Around}
/-- t[lo:hi] that is all of t: t itself -/
theorem slice_whole {t sl : Addr} {items : Array Value} {vl vu : Value} {lo hi : Option Int} {Q : Value → Shared → Prop} (tup : IsTup s.heap t items) (cut : s.heap.IsSliceOf sl vl vu .none) (pl : IsPart vl lo) (pu : IsPart vu hi) (from_ : sIx items.size 0 lo = 0) (to_ : sIx items.size items.size hi = items.size)
    (q : Q (.ref t) s) : wpAny (model prog w) A (getItem (.ref t) (.ref sl)) Q E s := by
  have kind : s.TypeIs (.ref sl) "slice" := by
    obtain ⟨o, ho, hc, _⟩ := cut
    exact ⟨o, ho, hc⟩
  unfold getItem
  have kind_t := tup.typeIs
  refine wpAny_holding (wpAny_bind (wpAny_sequenceKey kind_t (by decide) (wpAny_bind (wpAny_callSpecial?_slot (name := Str.ofString "__getitem__") kind_t slot_tuple_getitem (wpAny_call_entry slot_tuple_getitem kind_t entry_tuple_getitem ?_ (args_tuple_getitem _ _))))))
  show wpAny (model prog w) _ (Builtin.Tuple.tupleItemsOf (.ref t) >>= _) _ _ s
  refine wpAny_bind (tupleItemsOf_ tup (wpAny_bind (wpAny_typeOf kind ?_)))
  rw [if_pos (show (Value.type "slice" == Value.type "slice") = true by decide)]
  refine wpAny_bind (sliceApplied_gen cut pl pu ?_)
  rw [from_, to_]
  have yes : ((((0 : Nat) : Int) == 0 && (1 : Int) == 1 && (items.size - 0) == items.size) = true) := by simp
  show wpAny _ _ (if ((((0 : Nat) : Int) == 0 && (1 : Int) == 1 && (items.size - 0) == items.size) = true) then _ else _) _ _ s
  rw [if_pos yes]
  unfold Builtin.Tuple.tupleIsExact
  refine wpAny_bind (wpAny_bind (wpAny_typeOf tup.typeIs (wpAny_pure ?_)))
  rw [if_pos (show (Value.type "tuple" == Value.type "tuple") = true by decide)]
  exact wpAny_bind (wpAny_rule (by
    first
    | exact wpAny_pure ⟨_, rfl, wpAny_pure q⟩
    | exact wpAny_bind (wpAny_pure (wpAny_pure ⟨_, rfl, wpAny_pure q⟩))
    | exact wpAny_pure (wpAny_pure ⟨_, rfl, wpAny_pure q⟩)))
end
end HT
namespace G
open L2 PyProof.Rows PySem PySem.Spec
open Evl (Ex)
section
variable {X : Cx} {K : PySem.W.Frag}
/-- a[lo:hi] of a list or a tuple: its items from then on -/
def rSlAny (K : PySem.W.Frag) : V → Option Int → Option Int → Hp → VK → Prop := fun x lo hi H Q => ∃ a xs, x = .ref a ∧ ((SqL K H a xs ∧ ∀ p H', Ex H H' → SqL K H' p (cutV xs lo hi) → Q (.ref p) H') ∨ (SqT K H a xs ∧ ∀ p H', Ex H H' → SqT K H' p (cutV xs lo hi) → Q (.ref p) H'))
theorem sl_any (h : X.K = K := by rfl) : SlR X (rSlAny K) := by
  subst h
  rintro pins s σ H _ v vl vu lo hi sl Q I rx hs pl pu ⟨a, xs, rfl, ⟨sq, q⟩ | ⟨sq, q⟩⟩
  · exact sl_list pins s σ H _ v vl vu lo hi sl Q I rx hs pl pu ⟨a, xs, rfl, sq, fun p hp => q p _ (Evl.Ex.new hp) (SqL.of upd_same)⟩
  by_cases c : HT.sIx xs.length 0 lo = 0 ∧ HT.sIx xs.length xs.length hi = xs.length
  · cases rx
    obtain ⟨its, r, tup, _⟩ := I.tuple sq
    have len : its.toArray.size = xs.length := by rw [List.size_toArray, r.length]
    have all : cutV xs lo hi = xs := by
      unfold cutV
      rw [c.1, c.2, List.drop_zero, Nat.sub_zero, List.take_length]
    refine ⟨"tuple", _, PyProof.Rows.slot_tuple_getitem.lookup, tup.typeIs, HT.slice_whole tup hs pl pu (by rw [len]; exact c.1) (by rw [len]; exact c.2) ⟨.ref a, H, I, rfl, q a H (Evl.Ex.refl _) (by rw [all]; exact sq)⟩⟩
  · exact sl_tup pins s σ H _ v vl vu lo hi sl Q I rx hs pl pu ⟨a, xs, rfl, sq, c, fun p hp => q p _ (Evl.Ex.new hp) (SqT.of upd_same)⟩
theorem pi_listK {tg l : Expr} {tl : TE} (h : PE X l tl) (e : X.K = K := by rfl) : PI X tg l (iList K tl) := e ▸ pi_list h
end
end G

namespace G
open L2 PyProof.Rows PySem PySem.Spec
open Evl (Ex)
/-! ### the signs of a text, walked -/
def sgn (z : Str) (i : Nat) : V := .str ⟨#[(z.cps[i]?).getD 0]⟩
theorem its_s (z : Str) (H : Hp) : ItS (Its z) H z.cps.size (sgn z) where
  go := fun _ _ _ hi => hi
  yl := fun i x H' H'' _ _ ⟨same, c, at_i, is⟩ => ⟨by rw [is, sgn, at_i]; rfl, same⟩
  st := fun _ _ => Nat.le_refl _
/-! ### a tuple's display, pinned as it lies -/
def tTupF (t : TA) : TE := fun σ H Q => t σ H fun xs H1 => xs.length ≤ sizeLine ∧ ∀ p o, H1 p = none → o.dict = none → o.cls = .type "tuple" → Q (.ref p) (upd H1 p (.frz o (.tup xs)))
section
variable {X : Cx} {K : PySem.W.Frag}
theorem pe_tupF {es : List Expr} {t : TA} {x1 : Nat} {pos : Pos} (parts : PA X es t) : PE X (.Tuple es x1 pos) (tTupF t) := by
  constructor
  intro pins s σ H Q I want
  refine wpAny_Tuple_spliced (thn (parts.run pos pins s σ H _ I want) ?_)
  rintro us s1 ⟨xs, H1, I1, r, few, q⟩
  refine ⟨r.length ▸ few, ?_⟩
  have fresh := I1.hok.fresh (Nat.le_refl s1.heap.objs.size)
  have lies := IsTup.new s1.heap us.toArray
  refine ⟨.ref s1.heap.objs.size, upd H1 s1.heap.objs.size (.frz { cls := .type "tuple", data := .seq us.toArray } (.tup xs)), I1.laid (t' := s1.toks) (fun b o e => Heap.get?_push_of_some _ e) (Nat.le_refl _) ?_, rfl, q _ _ fresh rfl rfl⟩
  exact ⟨Heap.get?_push_size _ rfl, few, us, r, lies⟩
/-! ### t.count(k), t a tuple of ints -/
def rCntT (K : PySem.W.Frag) : V → List V → Hp → VK → Prop := fun x xs H Q => ∃ (p : Addr) (ns : List Int) (k : Int), x = .ref p ∧ xs = [.int k] ∧ SqT K H p (ns.map V.int) ∧ Q (.int (ns.count k : Nat)) H
theorem mt_tcount (h : X.K = K := by rfl) : MtR X "tuple.count" (rCntT K) := by
  subst h
  rintro pins s σ H _ _ v us Q I rx rxs ⟨p, ns, k, rfl, rfl, sq, q⟩
  cases rx
  obtain ⟨u, one, t, is⟩ := vals1 rxs
  subst one
  subst is
  have ⟨its, rv, ⟨o, at_p, cls, n, data⟩, _⟩ := I.tuple sq
  obtain ⟨cl, dd, dt, sl⟩ := o
  subst cls
  subst data
  have nums := ints_of_vals rv
  refine call_meets PySem.F.slot_tuple_count ⟨_, at_p, rfl⟩ PySem.F.entry_tuple_count (PySem.F.args_tuple_count_2 _ _) (SeqAt.tuple_countAt p its.toArray n dd sl (.int k t) (eqk k)) ⟨at_p, fun y hy => (eqk_gives nums y (by simpa using hy)).at _ _, ?_⟩
  have many : its.countP (eqk k) = ns.count k := eqk_count nums
  exact ⟨.int (ns.count k : Nat), H, I.tok _, ⟨s.toks, by rw [← many]⟩, q⟩
end
/-! ### first, *words = a list -/
def gStar (K : PySem.W.Frag) (t : TGs) : TG := fun v σ H Q => ∃ a x xs, v = .ref a ∧ SqL K H a (x :: xs) ∧ xs.length < 16000 ∧ ∀ l, H l = none → t [x, .ref l] σ (upd H l (.lst xs)) Q
section
variable {X : Cx} {e : Expr} {es : List Expr} {t : TG} {u : TGs} {k : Nat} {pos sp : Pos}
theorem pgs_starLast (h : PG X e t) (hs : (assignEach [.Starred e sp] X.env).map (·.2) = [assign e X.env] := by rfl) : PGs X [.Starred e sp] (gCons t gNil) := by
  constructor
  rintro pins s σ H vs us Q I r ⟨v, vr, rfl, want⟩
  cases r with
  | cons r rr =>
    rw [hs]
    exact assignInOrder_cons (thn (h.run pins s σ H _ _ _ I r want) fun _ s1 ⟨σ1, H1, I1, q1⟩ => pgs_nil.run pins s1 σ1 H1 _ _ Q I1 rr q1)
theorem pg_star {u : TGs} (calm : X.calm = true) (h : PGs X es u) (two : (assignEach es X.env).length = 2 := by rfl) (second : (assignEach es X.env).findIdx? (·.1) = some 1 := by rfl) : PG X (.Tuple es k pos) (gStar X.K u) := by
  constructor
  rintro pins s σ H _ v Q I r ⟨a, x, xs, rfl, sq, few, want⟩
  cases r
  obtain ⟨its, rv, lies, short⟩ := I.list sq
  cases rv with
  | @cons _ v0 _ vr rx rs =>
  have free := I.ok.hd calm
  have isl := lies.isList
  have below : a < s.heap.objs.size := let ⟨o, at_a, _⟩ := isl; Heap.lt_size at_a
  have apart := Nat.ne_of_lt below
  rw [assign_Tuple]
  apply wpAny_bind
  apply wpAny_standAt
  unfold unpack
  rw [two, second]
  apply wpAny_bind
  apply wpAny_holding
  unfold unpackItems notIterableAtAll
  refine wpAny_bind (wpAny_bind (wpAny_specialOf isl.typeIs slot_list_iter.lookup (wpAny_pure ?_)))
  rw [by_no]
  refine wpAny_bind (wpAny_holding (wpAny_pyIter_list isl (wpAny_bind (wpAny_holding (PySem.W.kun_draw apart 1 0 _ _ ⟨_, Heap.get?_push_size _ rfl, rfl, rfl⟩ (isl.push _) (by simp) fun h1 it1 same1 => ?_)))))
  have isl1 := (isl.push _).extBut same1.extBut apart
  obtain ⟨_, at_it, _⟩ := id it1
  obtain ⟨_, at_l, _⟩ := id isl1
  have len : vr.length = xs.length := rs.length.symm
  show wpAny _ _ (if [v0].length < 1 then _ else _) _ _ _
  rw [if_neg (show ¬ [v0].length < 1 from Nat.lt_irrefl 1)]
  refine wpAny_bind (wpAny_holding (PySem.W.kun_collect (s := { s with heap := h1 }) (T := "list_iterator") (.inr (.inr (.inl rfl))) (Walks.list (A := X.A.in1) free _ a apart (v0 :: vr).toArray) (fun _ _ st => st.1.typeIs) (k := 1) (by simp) ⟨it1, isl1⟩ (Heap.lt_size at_it) (Heap.lt_size at_l)
    (fun h2 tk keep => ?_) (by rw [List.size_toArray, List.length_cons, sizeLine_eq]; omega)))
  show wpAny _ _ (if vr.length < 0 then _ else _) _ _ _
  rw [if_neg (Nat.not_lt_zero _)]
  show wpAny _ _ (newList (vr.take vr.length) >>= fun d => pure ([v0] ++ [d] ++ vr.drop vr.length)) _ _ _
  rw [List.take_length, List.drop_length]
  have kept : ∀ b o, s.heap.get? b = some o → h2.get? b = some o := fun b o z =>
    have nb : b ≠ s.heap.objs.size := Nat.ne_of_lt (Heap.lt_size z)
    keep b o nb (same1.extBut b o nb (Heap.get?_push_of_some _ z))
  have J : Inv X pins σ H { s with heap := h2, toks := tk } := I.kept kept
  refine wpAny_bind (wpAny_newList (wpAny_pure ?_))
  refine h.run pins _ σ _ [x, .ref h2.objs.size] _ Q (J.laid (a := h2.objs.size) (o := .lst xs) (t' := tk) (fun b o z => Heap.get?_push_of_some _ z) (Nat.le_refl _) ?_) (.cons rx (.cons rfl .nil)) (want _ (J.hok.fresh (Nat.le_refl _)))
  exact ⟨by rw [sizeLine_eq]; omega, vr, 0, rs, Heap.get?_push_size _ rfl⟩
end
end G

namespace G
open L2 PyProof.Rows PySem PySem.Spec
open Evl (Ex)
section
variable {X : Cx} {K : PySem.W.Frag}
/-- sep.join(a list or a tuple of texts), the written part told by a letter -/
def rJoin (K : PySem.W.Frag) : V → List V → Hp → VK → Prop := fun x xs H Q => ∃ a p, ∃ ys : List Str, x = .str a ∧ xs = [.ref p] ∧ (SqL K H p (ys.map V.str) ∨ SqT K H p (ys.map V.str)) ∧ (ys.map (·.length)).sum + ys.length * a.length ≤ 16777216 ∧ Q (.str (Txt.join a ys)) H
theorem mt_joinK (h : X.K = K := by rfl) : MtR X "str.join" (rJoin K) := by subst h; exact mt_join
theorem pe_joinK {o e : Expr} {to te : TE} {apos pos : Pos} (ho : PE X o to) (he : PE X e te) (h : X.K = K := by rfl) (hs : starEach [e] X.env = [(false, eval e X.env)] := by rfl) (hbase : attributeBase o "join" X.env (eval o X.env) = eval o X.env := by rfl) (hline : (apos.endLine == pos.line) = true := by rfl) :
    PE X (.Call (.Attribute o "join" apos) [e] [] pos) (tM1 (rJoin K) to te) := pe_m1 PySem.F.slot_str_join PySem.F.type_str_join (mt_joinK h) ho he hs hbase hline
theorem pg_starK {es : List Expr} {u : TGs} {k : Nat} {pos : Pos} (calm : X.calm = true) (g : PGs X es u) (h : X.K = K := by rfl) (two : (assignEach es X.env).length = 2 := by rfl) (second : (assignEach es X.env).findIdx? (·.1) = some 1 := by rfl) : PG X (.Tuple es k pos) (gStar K u) := h ▸ pg_star calm g two second
end
/-! ### walks of a text -/
section
variable {H B : Hp} {σ : L2.St} {i : Nat} {P : It → Hp → Prop} {z : Str}
theorem l_str (hs : σ[i]? = some (some (.str z))) (q : ∀ J H1, Ex H H1 → ItS J H1 z.cps.size (sgn z) → P J H1) : iStr (tVar i) σ H P := ⟨_, hs, z, rfl, q _ _ (Evl.Ex.refl _) (its_s z H)⟩
end
end G

namespace G
open L2 PyProof.Rows PySem PySem.Spec
/-- a short text, some times over -/
def rMulS : R2 := fun x y H Q => ∃ (z : Str) (n : Int), x = .str z ∧ y = .int n ∧ 2 ≤ n ∧ n ≤ 1000 ∧ 1 ≤ z.length ∧ z.length ≤ 1000 ∧ Q (.str ⟨(List.replicate n.toNat z.cps).foldl (· ++ ·) #[]⟩) H
theorem op_mul_str {X : Cx} : OpR X (binaryOp .Mult) rMulS := by
  rintro pins s σ H _ _ v u Q I rx ry ⟨z, n, rfl, rfl, n2, n3, z1, z2, q⟩
  obtain ⟨t, is⟩ := rx
  subst is
  obtain ⟨t', is⟩ := ry
  subst is
  have many : (1000 : Int) ≤ (2 ^ 63 - 1) / n := (Int.le_ediv_iff_mul_le (by omega)).mpr (by omega)
  have one : (n == 1 || z.length == 0) = false := by
    rw [Bool.or_eq_false_iff, beq_eq_false_iff_ne, beq_eq_false_iff_ne]; omega
  have size : z.length * n.toNat ≤ 1000 * 1000 := Nat.mul_le_mul z2 (by omega)
  refine P.mul_str (by rw [Bool.or_eq_false_iff, decide_eq_false_iff_not, decide_eq_false_iff_not]; omega) (fun _ _ => by omega) (fun _ _ => ?_) ?_
  · exact decide_eq_false (by rw [sizeLine_eq]; omega)
  · rw [if_neg (show ¬ n < 1 by omega), if_neg (by rw [one]; exact Bool.false_ne_true)]
    refine ⟨?_, ⟨.str _, H, I.tok _, ⟨_, rfl⟩, q⟩⟩
    show ((List.replicate n.toNat z.cps).foldl (· ++ ·) #[]).size ≤ sizeLine
    rw [size_reps]
    have len : z.cps.size = z.length := rfl
    have turn : n.toNat * z.cps.size = z.length * n.toNat := by rw [len, Nat.mul_comm]
    rw [turn, sizeLine_eq, Array.size_empty]
    omega
end G

namespace G
open L2 PyProof.Rows PySem PySem.Spec
open Evl (Ex)
/-! ### a try whose one clause takes three classes and whose suite raises -/
/-- the heap may grow below a flight -/
theorem flying_grows {B h h' : Heap} {l : List Env} {a : Addr} {Z : Obj → Prop} (f : HandSPX.FlyingZ B l a Z h) (k : ∀ b o, h.get? b = some o → h'.get? b = some o) : HandSPX.FlyingZ B l a Z h' := by
  obtain ⟨st, no, fun_, oe, vs, T, oT, ts, he, hz, hd, h1, hn, ne, hT, dT, h3⟩ := f
  exact ⟨fun b o z => k b o (st b o z), no, fun_.of_keeps (fun b o z _ => ⟨o, k b o z, rfl⟩), oe, vs, T, oT, ts, k _ _ he, hz, hd, h1, hn, ne, k _ _ hT, dT, h3⟩
section
variable {X : Cx} {x : Str} {c : Value} {np : Pos} {pins pn : List (Addr × Obj)} {a : Addr} {σ : L2.St} {H : Hp} {s : Shared}
/-- a class's name, while an error is handled -/
theorem name_in_test {Q : Value → Shared → Prop} {E : Value → Shared → Prop} (n : Names X x c) (S : Inv (X.suite a pn) pins σ H s) (q : Q c s) : wpAny (model X.prog X.w) (X.A.mark (some (.ref a))) (eval (.Name x np) X.env) Q E s := by
  obtain ⟨gl, dbg, own | ⟨none_, boot, nm⟩⟩ := n
  · exact ld_glob S gl own q dbg
  · exact ld_blt S gl none_ boot q nm dbg
end
/-- what such a clause takes; nothing else may come -/
def wAny3 (K : PySem.W.Frag) (c1 c2 c3 : Value) (ts : Addr → Value → Option Addr → TS) (D : Ends) : WX := fun cls d σ H => PySem.W.exmAny K cls [c1, c2, c3] = some true ∧ ∀ a, H a = none → ts a cls d D σ H
section
variable {X : Cx} {x1 x2 x3 : Str} {c1 c2 c3 : Value} {body suite : List Stmt} {b₀ : Stmt} {p1 p2 p3 tp pos pos' : Pos} {kk : Nat} {tb : WX → TS} {ts : Addr → Value → Option Addr → TS} {Wout : WX}
theorem ps_tryAny3 (hs : X.stack = X.env :: X.outer) (hf : X.env.frame = some X.env.locals) (n1 : Names X x1 c1) (n2 : Names X x2 c2) (n3 : Names X x3 c3)
    (out : ∀ hd : Option Value, PassesOwnAt (model X.prog X.w) (X.A.mark hd) X.A X.env X.xe) (tk : L2.Takes X Wout)
    (run : ∀ (W : WX) (pn : List (Addr × Obj)) (xe : Value → Shared → Prop), L2N.Takes (X.tr pn xe) W → PassesOwn (model X.prog X.w) X.A X.env xe → PSs (X.tr pn xe) body (tb W))
    (hsu : ∀ (a : Addr) (oe : Obj) (cls : Value) (d : Option Addr) (pn : List (Addr × Obj)), L2.Takes (L2H.suiteX X a ((a, oe) :: pn)) Wout → L2H.HotC (L2H.suiteX X a ((a, oe) :: pn)) → PSs (L2H.suiteX X a ((a, oe) :: pn)) (b₀ :: suite) (ts a cls d)) :
    PS X (.Try body [.ExceptHandler (some (.Tuple [.Name x1 p1, .Name x2 p2, .Name x3 p3] kk tp)) none (b₀ :: suite) pos'] [] [] pos) (fun D σ H => tb (wAny3 X.K c1 c2 c3 ts D) D σ H) := by
  constructor
  intro pins s σ H D I want
  have good := I.ok
  have frames : X.A.frames = some (X.env :: X.outer) := good.frames.trans (congrArg some hs)
  have catches : L2N.Takes (X.tr (X.pn ++ pins) fun e s1 => wpAny (model X.prog X.w) X.A (noteFrame e X.env) (fun _ s2 => wpAny (model X.prog X.w) X.A (setFlight e none) (fun _ s3 =>
      wpAny (model X.prog X.w) X.A (handleBy e X.env [.ExceptHandler (some (.Tuple [.Name x1 p1, .Name x2 p2, .Name x3 p3] kk tp)) none (b₀ :: suite) pos']) (SP X pins D) X.xe s3) X.xe s2) X.xe s1) (wAny3 X.K c1 c2 c3 ts D) := by
    rintro _ s' ⟨a, B, s0, pins', σ', H', cls, d, rfl, J, ground, up, sky, na, os, bare, match_, yes⟩
    have J' : Inv X pins σ' H' s0 := J.ofTry good
    have sky' : Sky B (X.env :: X.outer) a (L2N.Zn cls d) X.env.locals s'.heap := hs ▸ sky
    refine L2N.Sky.land L2N.Zn.steady frames hf sky' fun h3 fl3 up3 => ?_
    have made : ∀ h, HandSPX.FlyingZ B (X.env :: X.outer) a (Zc cls d) h → s'.heap.UpToSlots h → Caught X pins σ' H' B a cls d s' h := fun h fl up' => ⟨fl, J'.landed ground fl.1 (up.trans up') os bare⟩
    obtain ⟨oe, at_a, z, _, S⟩ := (made h3 (L2H.flyingZ_imp (fun _ z => z.zc) fl3) up3).suite hf na
    refine wpAny_handleBy_cons (codeAny_handlers_test ?_) nofun
    have type_ : PySem.W.Looks (model X.prog X.w) h3 (typeOf (.ref a)) cls := fun _ _ _ _ k q => wpAny_typeOf_ref (k _ _ at_a) (by rw [z.1]; exact q)
    have inK : X.K.In h3 := S.kIn
    refine wpAny_Tuple (wpAny_items_cons (name_in_test n1 S (wpAny_items_cons (name_in_test n2 S (wpAny_items_cons (name_in_test n3 S (wpAny_items_nil ⟨by size_fits, ?_⟩)))))))
    have more : ∀ b o, h3.get? b = some o → (h3.push { cls := .type "tuple", data := .seq [c1, c2, c3].toArray }).get? b = some o := fun _ _ z => Heap.get?_push_of_some _ z
    have asks := PySem.W.exm_tup3 (M := model X.prog X.w) (inK.keeps more) (type_.keeps more) (Heap.get?_push_size h3 rfl) match_
    refine asks.here ?_
    have fl4 := flying_grows fl3 more
    have up4 : s'.heap.UpToSlots (h3.push { cls := .type "tuple", data := .seq [c1, c2, c3].toArray }) := up3.trans (Heap.UpToSlots.of_keeps more)
    generalize h3.push { cls := .type "tuple", data := .seq [c1, c2, c3].toArray } = h4 at fl4 up4 ⊢
    refine codeAny_handlers_suite (HandSPX.lands_againZ fl4 fun h5 fl5 up5 => ?_)
    have C5 := made h5 (L2H.flyingZ_imp (fun _ z => z.zc) fl5) (up4.trans up5)
    obtain ⟨oe5, at5, _, ⟨vs5, rec5⟩, S5⟩ := C5.suite hf na
    obtain ⟨oe6, vs6, at6, zn, rec6⟩ := fl5.there
    cases Option.some.inj (at5.symm.trans at6)
    have hot : L2H.HotC (L2H.suiteX X a ((a, oe5) :: (X.pn ++ pins))) := ⟨(a, oe5), ⟨rfl, vs5, rec5, zn.2.2 vs5 rec5⟩, List.mem_cons_self⟩
    have tkS : L2.Takes (L2H.suiteX X a ((a, oe5) :: (X.pn ++ pins))) Wout := by
      rintro u t ⟨a', B', t0, pn', σ'', H'', cls', d', e, inv, r⟩
      exact tk u t ⟨a', B', t0, pins, σ'', H'', cls', d', e, L2H.unsuiteX inv good, r⟩
    refine wpAny_mono ((hsu a oe5 cls d (X.pn ++ pins) tkS hot).run [] _ _ _ _ (L2H.suiteX_of S5) (yes a na)) (fun fl t z => ?_) (out (some (.ref a)))
    cases fl with
    | ret u => obtain ⟨v, _, _, T, r⟩ := z; exact ⟨v, _, _, L2H.unsuiteX T good, r⟩
    | next => obtain ⟨_, _, T, r⟩ := z; exact ⟨_, _, L2H.unsuiteX T good, r⟩
    | brk => obtain ⟨_, _, T, r⟩ := z; exact ⟨_, _, L2H.unsuiteX T good, r⟩
    | cont => obtain ⟨_, _, T, r⟩ := z; exact ⟨_, _, L2H.unsuiteX T good, r⟩
  refine wpAny_Try_except (wpAny_mono ((run _ _ _ catches PassesOwn.looking).run [] s σ H D (I.toTry _) want) (fun fl s1 z => ?_) fun _ _ z => z)
  cases fl with
  | ret u => obtain ⟨v, _, _, J, r⟩ := z; exact ⟨v, _, _, J.ofTry good, r⟩
  | next => obtain ⟨_, _, J, r⟩ := z; exact wpAny_execs_nil ⟨_, _, J.ofTry good, r⟩
  | brk => obtain ⟨_, _, J, r⟩ := z; exact ⟨_, _, J.ofTry good, r⟩
  | cont => obtain ⟨_, _, J, r⟩ := z; exact ⟨_, _, J.ofTry good, r⟩
end
end G

namespace G
open L2 PyProof.Rows PySem PySem.Spec
open Evl (Ex)
/-! ### own errors that have no context; promises that let out only such ones -/
section
variable {X : Cx} {x : Str} {C fI : Addr} {k : Nat} {fd : FuncData} {e : Expr} {es : List Expr} {ta : TA} {p pos : Pos} {f : Str} {ps : List Str}
/-- the end of an own error's making, its context none -/
theorem born {pins : List (Addr × Obj)} {σ : L2.St} {H1 H2 : Hp} {Q : XK} {s1 s2 : Shared} {hp2 : Heap} {a d : Addr} {fs : List (Str × V)} (r : Raises X (.ref C)) (I1 : Inv X pins σ H1 s1) (new : s1.heap.objs.size ≤ a)
    (k : ∀ b o, s1.heap.get? b = some o → hp2.get? b = some o) (un : Un (frs X.stack) [] (upd H1 a (exo a C none)) H2 hp2 s2.heap) (ok : HOk X.prog X.w H2 s2.heap) (os : s2.os = s1.os) (bare : AllBare s2.gens)
    (ea : H2 a = some (exo a C (some d))) (ed : H2 d = some (exd d fs)) (nd : H1 d = none) (q : Q (.ref C) (some d) (upd (del H2 a) d (.xd fs))) : L2N.MkP X pins σ Q (.ref a) s2 := by
  obtain ⟨h1, g1, d1, t1, os1⟩ := (s1)
  obtain ⟨h2, g2, d2, t2, os2⟩ := s2
  have ⟨t0, G, J, sub, gone, obj, na⟩ := mk_end0 (d2 := d2) (t2 := t2) I1 new k un ok os bare ea ed nd
  exact ⟨a, _, #[.ref t0, .none, .none, .none, .bool false, .none], ⟨G, g2, d2, t2, os2⟩, _, .ref C, some d, rfl, J, sub, gone, obj, ⟨rfl, rfl, fun vs z => by cases z; rfl⟩, rfl, rfl, na, rfl, bare, r, q⟩
theorem pmkN_err1 (T : ErrC X.K X.mg x C) (iC : PySem.W.findIn X.K (.ref C) "__init__" = some (some (.ref fI))) (tI : PySem.W.typeIn X.K (.ref fI) = some (.type "function"))
    (init : FnOk X.prog X.w X.K X.mg X.base CX0 k fI fd ps (spE1 C f)) (hr : RG (k + 1) X.A) (hb : Binds X.K fd ps []) (hg : Gl X x) (ha : PA X (e :: es) ta)
    (hdb : (x == ("__debug__" : Str)) = false := by decide) (one : OneByOne X e es pos := by exact ⟨rfl, rfl⟩) :
    L2N.PMk X (.Call (.Name x p) (e :: es) [] pos) (tErr1 C f ta) := by
  intro pins s σ H Q I want
  obtain ⟨_, _, _, _, bm, _, _, _, _, _, _, _, _, _, _, cls_, refs⟩ := T.ox.cls
  refine wpAny_Call_Name_kw (ld_glob I hg T.g (PySem.W.callWith_K (h₀ := X.base) I.ok.mod.kin T.ox.kC (thn (ha.run pos pins s σ H _ I want) ?_) one.next one.none) hdb)
  rintro us s1 ⟨_, H1, I1, r1, v, rfl, q1⟩
  refine ⟨I1.kIn, ?_⟩
  show wpAny _ _ (call (.ref C) (us)) _ _ _
  obtain ⟨u, rfl⟩ : ∃ u, us = [u] := by
    cases r1 with
    | cons _ t => cases t; exact ⟨_, rfl⟩
  let self : Addr := s1.heap.objs.size + 1
  let hp2 : Heap := (s1.heap.push (PySem.W.kdv_tup [u])).push (PySem.HandSPX.excO C s1.heap.objs.size)
  have above : s1.heap.objs.size ≤ self := Nat.le_succ _
  have grown : ∀ b o, s1.heap.get? b = some o → hp2.get? b = some o := fun b o z => Heap.get?_push_of_some _ (Heap.get?_push_of_some _ z)
  have lies : hp2.get? self = some (PySem.HandSPX.excO C s1.heap.objs.size) := by
    have z := Heap.get?_push_size (s1.heap.push (PySem.W.kdv_tup [u])) (o := PySem.HandSPX.excO C s1.heap.objs.size) rfl
    rwa [Heap.size_push] at z
  have I2 : Inv X pins σ (upd H1 self (exo self C none)) { s1 with heap := hp2 } := I1.laid (t' := s1.toks) grown above (exo_ok lies)
  have prom : spE1 C f [.ref self, v] (upd H1 self (exo self C none)) (fun w H2 => w = .non ∧ ∃ d fs, H2 self = some (exo self C (some d)) ∧ H2 d = some (exd d fs) ∧ H1 d = none ∧ Q (.ref C) (some d) (upd (del H2 self) d (.xd fs))) fun _ _ _ => False := by
    refine ⟨self, v, rfl, upd_same, fun d hd hne => ?_⟩
    have nd : H1 d = none := (upd_ne hne).symm.trans hd
    refine ⟨rfl, d, [(f, v)], upd_same, by rw [upd_ne hne, upd_same], nd, ?_⟩
    exact q1 d _ nd (ex_err (I1.hok.fresh above) nd hne) upd_same
  have args_ : Vals [.ref self, v] [.ref self, u] := .cons rfl r1
  have binds := hb { s1 with heap := hp2 } [.ref self, u] I2.kIn (by rw [← init.len _ _ _ _ prom]; rfl)
  rw [List.append_nil] at binds
  have body := init.run (X.A.under (.builtin "type.__call__" ⟨[.ref C, u], []⟩)) X.stack _ _ ⟨[.ref self, u], []⟩ _ _ _ (fun _ _ _ => False) (hr.r.make C [u] []) (I2.env0.make C [u] []) binds args_ prom
  refine wpAny_call (PySem.HandSPX.call_own F.excBase_ValueError (fun Y => PySem.HandSPX.refsVE_contains Y bm refs) (I1.kIn _ _ cls_) (PySem.W.looks_findIn I1.kIn iC) (fun self => PySem.W.bind_fn I1.kIn self tI) (by show 1 ≤ sizeLine; decide) (codeAny_mono body ?_))
  rintro (er | _ | _ | _ | u') s' z
  · exact False.elim z
  iterate 3 exact False.elim z
  obtain ⟨w, H2, os, bare, un, ok, rv, ew, d, fs, ea, ed, nd, q⟩ := z
  cases ew
  exact ⟨rv, born (raises_own T.ox.exC T.ox.tyC) I1 above grown un ok os bare ea ed nd q⟩
end
/-! ### from such a promise to the wider one -/
theorem cx_wider {P : Program} {w : World} {outer : List Env} {H : Hp} {s s' : Shared} {E : XK} {u : Value} (c : L2N.CX P w outer H s E u s') : L2.CX P w outer H s E u s' := by
  obtain ⟨a, B, H', cls, d, e, fl, r⟩ := c
  exact ⟨a, B, H', cls, d, e, L2H.flyingZ_imp (fun _ z => z.zc) fl, r⟩
theorem FG.wider {P : Program} {w : World} {K : PySem.W.Frag} {mg : Str → Option Value} {base : Heap} {k : Nat} {f : Addr} {fd : FuncData} {ps : List Str} {sp : Sp} (F : FG P w K mg base (L2N.CX P w) k f fd ps sp) : FG P w K mg base (L2.CX P w) k f fd ps sp :=
  ⟨F.few, fun A outer s H args us vs Q E r0 e0 b v h => codeAny_mono (F.run A outer s H args us vs Q E r0 e0 b v h) fun r s' z => by
    cases r with
    | error e => exact cx_wider z
    | ok fl => cases fl <;> exact z⟩
end G

namespace G
open L2 PyProof.Rows PySem PySem.Spec
open Evl (Ex)
/-! ### own errors made while another one is handled -/
section
variable {X : Cx} {x : Str} {C fI : Addr} {k : Nat} {fd : FuncData} {e : Expr} {es : List Expr} {ta : TA} {p pos : Pos} {f : Str} {ps : List Str}
theorem pmk5_err1 (T : ErrC X.K X.mg x C) (iC : PySem.W.findIn X.K (.ref C) "__init__" = some (some (.ref fI))) (tI : PySem.W.typeIn X.K (.ref fI) = some (.type "function"))
    (init : L2H.FnH X.prog X.w X.K X.mg X.base CX0 k fI fd ps (spE1 C f)) (hr : L2H.RoomH (k + 1) X.A) (hot : L2H.HotC X) (hb : Binds X.K fd ps []) (hg : Gl X x) (ha : PA X (e :: es) ta)
    (hdb : (x == ("__debug__" : Str)) = false := by decide) (one : OneByOne X e es pos := by exact ⟨rfl, rfl⟩) :
    L2H.PMk5 X (.Call (.Name x p) (e :: es) [] pos) (tErr1 C f ta) :=
  fun pins s σ H Q I h => L2H.pmk5_oexH T.ox iC tI init hr hot hb pass0 hg T.g (PA.up ha) hdb one.next one.none pins s σ H Q I (mkO1 h)
end
/-- a def's promise there, by its body -/
theorem okH {CX : CXT} {P : Program} {w : World} {K : PySem.W.Frag} {mg : Str → Option Value} {base : Heap} {k : Nat} {f : Addr} {x qual : Str} {params : Arguments} {body : List Stmt} {scope : Scope} {fd : FuncData} {N ps : List Str} {sp : Sp} (F : FunD K x qual params body scope [] [] f fd) (S : FnScope N ps scope)
    (few : ∀ (vs : List V) (H : Hp) (Q : VK) (E : XK), sp vs H Q E → vs.length = ps.length)
    (run : ∀ (cdv : Value) (A : Around) (outer : List Env) (s : Shared) (H : Hp) (vs : List V) (Q : VK) (E : XK) (p : Addr × Obj), sp vs H Q E →
      ∃ t, PSs (L2H.cxH CX P w K mg base N qual scope f cdv A outer s H E p) body t ∧ t { nx := fun _ H' => Q .non H', rt := Q } (L2.start N vs) H) : L2H.FnH P w K mg base CX (k + 1) f fd ps sp := by
  obtain ⟨_, _, _, _, _, _, _, cdv, _, _, is, stands, code, _⟩ := F.ex
  subst is
  exact L2H.fn_ofH stands code S few fun A outer s H vs Q E p _ _ h => run cdv A outer s H vs Q E p h
/-! ### calls that let out what is told at the slots -/
/-- what a callee lets out, told at the slots, is taken -/
def Lets (CX : CXT) (X : Cx) (Z : L2.St → XK) : Prop := ∀ (pins : List (Addr × Obj)) (σ : L2.St) (H : Hp) (s : Shared) (e : Value) (s' : Shared), Inv X pins σ H s → CX X.stack H s (Z σ) e s' → X.xe e s'
theorem lets_N {X : Cx} {W : WX} (tk : L2N.Takes X W) : Lets (L2N.CX X.prog X.w) X (atS W) := fun _ σ _ _ e s' I c => tk e s' (L2N.XE.of_call I (fun _ _ _ h => h) c)
theorem lets_X {X : Cx} {W : WX} (tk : Takes X W) : Lets (L2.CX X.prog X.w) X (atS W) := fun _ σ _ _ e s' I c => tk e s' (XE.of_call I (fun _ _ _ h => h) c)
theorem lets_E {X : Cx} {CX : CXT} {E : XK} (hx : Passes CX X E) : Lets CX X fun _ => E := fun pins σ H s e s' I c => hx pins σ H s e s' I c
/-- e, es by position and kws by their names ks -/
structure NamedToo (X : Cx) (e : Expr) (es : List Expr) (kws : List Keyword) (pos : Pos) (ks : List Str) : Prop where
  each : ((backToKw pos (keywordEach kws X.env)).all fun k => k.1.isSome) = true
  keys : ((backToKw pos (keywordEach kws X.env)).filterMap fun k => k.1) = ks
  next : starEach (e :: es) X.env = (false, eval e X.env) :: starEach es X.env
  flat : (((backTo pos (starEach (e :: es) X.env)).any fun a => a.1) || ((backToKw pos (keywordEach kws X.env)).any fun k => k.1.isNone)) = false
section
variable {X : Cx} {CX : CXT} {Z : L2.St → XK} {k n : Nat} {f C : Addr} {fd : FuncData} {ps ks : List Str} {sp : Sp} {x : Str} {p pos : Pos} {e : Expr} {es : List Expr} {kws : List Keyword} {t tk : TA}
def tGMZ (C : Addr) (n m : Nat) (sp : Sp) (gV : List V → List V → List V) (Z : L2.St → XK) (t tk : TA) : TE := fun σ H Q => t σ H fun vs H1 => tk σ H1 fun zs H2 => vs.length = n ∧ zs.length = m ∧ ∀ x dx, H2 x = none → H2 dx = none → dx ≠ x →
  sp (gV (.ref x :: vs) zs) (upd (upd H2 dx (.own x)) x (.ins C dx [])) (fun v H3 => v = .non ∧ Q (.ref x) H3) (Z σ)
/-- C(e, .., k = v, ..) -/
theorem pe_gmkZ {g : List Value → List Value → List Value} {gV : List V → List V → List V} (M : Mk X.K C f) (F : FG X.prog X.w X.K X.mg X.base CX k f fd ps sp) (hr : RG (k + 1) X.A) (hg : Gl X x) (hm : X.mg x = some (.ref C)) (hb : KBn X.K fd ps (n + 1) ks g gV) (out : Lets CX X Z)
    (ha : PA X (e :: es) t) (hkw : PK X kws tk) (nk : NamedToo X e es kws pos ks := by exact ⟨rfl, rfl, rfl, rfl⟩) (hdb : (x == ("__debug__" : Str)) = false := by decide) :
    PE X (.Call (.Name x p) (e :: es) kws pos) (tGMZ C n ks.length sp gV Z t tk) := by
  refine ⟨fun pins s σ H Q I h => wpAny_Call_Name_kw (ld_glob I hg hm (PySem.W.callWith_KW (h₀ := X.base) I.ok.mod.kin M.kp nk.each (thn (ha.run pos pins s σ H _ I h) ?_) nk.flat nk.next) hdb)⟩
  rintro us s1 ⟨vs, H1, I1, r, q⟩
  refine thn (hkw.run pos pins s1 σ H1 _ I1 q) ?_
  rintro ws s2 ⟨zs, H2, I2, rz, l1, l2, q2⟩
  refine ⟨I2.kIn, ?_⟩
  rw [nk.keys]
  exact run_new M F hr hb (fun H' s3 s4 e J z => out pins σ H' s3 e s4 J z) I2 r rz l1 l2 q2
def tCallZ (sp : Sp) (Z : L2.St → XK) (t : TA) : TE := fun σ H Q => t σ H fun vs H1 => sp vs H1 Q (Z σ)
/-- f(e, ..) -/
theorem pe_cZ (F : Cal X.prog X.w X.K X.mg X.base CX k x ps sp) (hr : RG k X.A) (hg : Gl X x) (out : Lets CX X Z) (ha : PA X (e :: es) t) (hdb : (x == ("__debug__" : Str)) = false := by decide)
    (one : OneByOne X e es pos := by exact ⟨rfl, rfl⟩) : PE X (.Call (.Name x p) (e :: es) [] pos) (tCallZ sp Z t) := by
  obtain ⟨fd, G, b, _⟩ := F.ex
  refine ⟨fun pins s σ H Q I h => wpAny_Call_Name_kw (ld_glob I hg F.g (PySem.W.callWith_K (h₀ := X.base) I.ok.mod.kin F.kp (thn (ha.run pos pins s σ H _ I h) ?_) one.next one.none) hdb)⟩
  rintro us s1 ⟨vs, H1, I1, r, q⟩
  refine ⟨I1.kIn, ?_⟩
  have nl : us.length = ps.length := r.length.symm.trans (G.few _ _ _ _ q)
  have bt := b s1 us I1.kIn (by rw [List.append_nil]; exact nl)
  rw [List.append_nil] at bt
  refine wpAny_call (codeAny_mono (G.run X.A X.stack s1 H1 _ us vs Q _ hr I1.env0 bt r q) ?_)
  rintro (er | _ | _ | _ | u) s' z
  · exact out pins σ H1 s1 er s' I1 z
  iterate 3 exact False.elim z
  exact I1.after z
end
theorem Cal.wider {P : Program} {w : World} {K : PySem.W.Frag} {mg : Str → Option Value} {base : Heap} {k : Nat} {x : Str} {ps : List Str} {sp : Sp} (c : Cal P w K mg base (L2N.CX P w) k x ps sp) : Cal P w K mg base (L2.CX P w) k x ps sp :=
  ⟨let ⟨fd, F, r⟩ := c.ex; ⟨fd, F.wider, r⟩, c.kp, c.g⟩
/-! ### zip of two tuples, the written part told by a letter -/
def iZipK (K : PySem.W.Frag) (ta : TA) : TI := fun σ H R => ta σ H fun vs H1 => ∃ a b xs ys, vs = [.ref a, .ref b] ∧ SqT K H1 a xs ∧ SqT K H1 b ys ∧ R (RZ.ItzT K a b) H1
theorem pi_zipK {X : Cx} {K : PySem.W.Frag} {e e2 : Expr} {ta : TA} {p pos tpos : Pos} {elts : List Expr} {kk : Nat} (hg : Gl X "zip") (hm : X.mg "zip" = none) (ha : PA X [e, e2] ta) (h : X.K = K := by rfl)
    (hs : (starEach [e, e2] X.env) = (false, eval e X.env) :: starEach [e2] X.env := by rfl) (hpl : (backTo pos (starEach [e2] X.env)).any (·.1) = false := by rfl) :
    PI X (.Tuple elts kk tpos) (.Call (.Name "zip" p) [e, e2] [] pos) (iZipK K ta) := by
  subst h
  have z := RZ.pi_zipA (elts := elts) (kk := kk) (tpos := tpos) (p := p) hg hm (PA.up ha) hs hpl
  refine ⟨fun pins s σ H R I q => z.run pins s σ H R I ⟨_, ?_, q⟩⟩
  rintro vs H1 ⟨a, b, xs, ys, e, h1, h2, r⟩
  exact ⟨a, b, xs, ys, e, .inr ⟨h1, h2, r⟩⟩
theorem ity_zip {K : PySem.W.Frag} {H : Hp} {a b : Addr} {xs ys : List V} (h : SqT K H a xs) (g : SqT K H b ys) (len : xs.length = ys.length) : ItY (RZ.ItzT K a b) H xs.length (fun i H' v H'' => ∃ T, v = .ref T ∧ H' T = none ∧ H'' = upd H' T (.tup [nth xs i, nth ys i])) where
  go := fun i H' e hi => ⟨xs, ys, _, _, Evl.ex_t e h, Evl.ex_t e g, nth_at hi, nth_at (len ▸ hi)⟩
  yl := fun i x H' H'' e hi ⟨T, y, z, h1, h2, h3, h4, h5⟩ => by
    have q1 := h4 xs (Evl.ex_t e h)
    have q2 := h5 ys (Evl.ex_t e g)
    rw [nth_at hi] at q1; cases q1
    rw [nth_at (len ▸ hi)] at q2; cases q2
    exact ⟨T, h1, h2, h3⟩
  st := fun H' e => ⟨xs, ys, Evl.ex_t e h, Evl.ex_t e g, .inl (Nat.le_refl _)⟩
end G

namespace G
open L2 PyProof.Rows PySem PySem.Spec
open Evl (Ex)
/-! ### a tuple times a number -/
theorem tuple_mul1 (l : Addr) (items : Array Value) (n : Nat) (dd : Option Addr) (sl : Array (Option Value)) (u : Tok) :
    Meets (Builtin.«tuple.__mul__» ⟨[.ref l, .int 1 u], []⟩) (fun _ R s => s.heap.get? l = some { cls := .type "tuple", dict := dd, data := .seq items n, slots := sl } ∧ R (.ok (.ret (.ref l))) s) :=
  .of_wp fun _ _ _ R ⟨heap, glob, held, toks, out⟩ ⟨lies, done⟩ => by
    have f1 := AutoSeq1.idx_int
    wp_walk using AutoSeq1.wpAny_loadPart' lies
    repeat (first
      | (refine wpAny_ite_true (decide_eq_true (by simp)) ?_; wp_walk using AutoSeq1.wpAny_loadPart' lies)
      | (refine wpAny_ite_true (by simp) ?_; wp_walk using AutoSeq1.wpAny_loadPart' lies))
    exact ⟨_, rfl, done⟩
def rRep1 (K : PySem.W.Frag) : R2 := fun x y H Q => ∃ l xs, x = .ref l ∧ y = .int 1 ∧ SqT K H l xs ∧ Q (.ref l) H
theorem op_rep1 {X : Cx} {K : PySem.W.Frag} (h : X.K = K := by rfl) : OpR X (binaryOp .Mult) (rRep1 K) := by
  subst h
  rintro pins s σ H x y v u Q I rx ry ⟨l, xs, rfl, rfl, hT, q⟩
  cases rx
  obtain ⟨t, rfl⟩ := ry
  obtain ⟨its, r, ⟨⟨cls, dd, dt, sl⟩, ho, hc, n, hd⟩, hs⟩ := I.tuple hT
  simp only at hc hd
  subst hc hd
  refine wpAny_binaryOp_repeat_ref (T := "tuple") (U := "int") (by decide) ⟨_, ho, rfl⟩ (fun s' => typeIs_int s' 1 t) noFill_tuple_mul F.fills_int_mul F.slot_int_rmul repeat_tuple F.slot_int_index.lookup
    (call_meets F.slot_int_rmul (typeIs_int s 1 t) F.entry_int_rmul (F.args_int_rmul_2 _ _) (int_rmul_tuple 1 t l its.toArray n dd sl) ⟨ho, rfl, ⟨_, ho, rfl⟩, call_meets F.slot_tuple_mul ⟨_, ho, rfl⟩ F.entry_tuple_mul (F.args_tuple_mul_2 _ _) (tuple_mul1 l its.toArray n dd sl t) ⟨ho, ?_⟩⟩)
  exact ⟨.ref l, H, I, rfl, q⟩
/-- xs * n -/
def rRepN (K : PySem.W.Frag) : R2 := fun x y H Q => ∃ (l : Addr) (n : Nat) (xs : List V), x = .ref l ∧ y = .int (n : Int) ∧ SqT K H l xs ∧ xs ≠ [] ∧ n ≤ 1000 ∧ xs.length ≤ 1000 ∧ ∀ p H', Ex H H' → SqT K H' p (List.replicate n xs).flatten → Q (.ref p) H'
theorem op_repN {X : Cx} {K : PySem.W.Frag} (h : X.K = K := by rfl) : OpR X (binaryOp .Mult) (rRepN K) := by
  subst h
  rintro pins s σ H x y v u Q I rx ry ⟨l, n, xs, rfl, rfl, hT, ne, n9, x9, q⟩
  match n with
  | 0 => exact op_rep0 (X := X) rfl pins s σ H _ _ v u Q I rx ry ⟨l, xs, rfl, rfl, hT, ne, fun p hp => q p _ (Evl.Ex.new hp) (SqT.of upd_same)⟩
  | 1 => exact op_rep1 (X := X) rfl pins s σ H _ _ v u Q I rx ry ⟨l, xs, rfl, rfl, hT, q l H (Evl.Ex.refl _) (by simpa using hT)⟩
  | k + 2 => exact op_repT pins s σ H _ _ v u Q I rx ry ⟨l, ((k + 2 : Nat) : Int), xs, rfl, rfl, hT, ne, by omega, by omega, x9, fun p hp => q p _ (Evl.Ex.new hp) (SqT.of upd_same)⟩
end G

namespace G
open L2 PyProof.Rows PySem PySem.Spec
open Evl (Ex)
/-! ### isinstance of a caught error that has a dict -/
section
variable {prog : Program} {w : World} {A : Around} {E : Value → Shared → Prop} {s : Shared} {K : PySem.W.Frag} {x D : Addr} {ox od : Obj}
open PySem.W PySem.Calls in
theorem cls_of_exc {Q : Option Value → Shared → Prop} (C : L2.ExcC K D) (inK : K.In s.heap) (at_ : PySem.W.InstAt s.heap x ox D (some od)) (h : Q (some (.ref D)) { s with toks := s.toks + 1 }) : wpAny (model prog w) A (getAttr? (.ref x) "__class__") Q E s := by
  have found : findObj K D (some od) "__class__" = some (.bind (.builtin "getset_descriptor.__get__") (.builtin "object.__class__")) := findObj_data (by obtain ⟨_, e, _⟩ := any_some C.hd; rw [e]; rfl) C.ha C.hn C.ht
  obtain ⟨hp, g, d, t, os⟩ := s
  have ty := at_.type (M := model prog w)
  have ga := looks_findIn (M := model prog w) inK C.hg
  have gt := looks_findIn (M := model prog w) inK C.hk
  have fo := looks_find (M := model prog w) inK at_ found
  have isE : Looks (model prog w) hp (isInstance (.ref x) (.type "BaseException")) true := ty.andThen (looks_subIn inK C.hs)
  have z0 : (false && onTheHeap (Value.builtin "BaseException.__getattribute__")) = false := by decide
  have z1 : (onTheHeap (Value.ref D) && Value.builtin "BaseException.__getattribute__" == Value.builtin "object.__getattribute__") = false := by rw [show (Value.builtin "BaseException.__getattribute__" == Value.builtin "object.__getattribute__") = false by decide +kernel, Bool.and_false]
  unfold getAttr? getAttrBy?; unfold getAttrBy
  refine wpAny_bind (wpAny_mkText (wpAny_bind (wpAny_attempt (wpAny_holding (wpAny_bind (ty.at (wpAny_bind (ga.at ?_))))))))
  change wpAny _ _ (if (onTheHeap (Value.ref D) && Value.builtin "BaseException.__getattribute__" == Value.builtin "object.__getattribute__") = true then _ else _) _ _ _
  rw [z1, if_neg Bool.false_ne_true]; unfold getAttrByItsOwn; unfold hookBefore
  refine wpAny_bind ?_; rw [if_pos (show onTheHeap (Value.ref D) = true from rfl)]
  refine gt.at (wpAny_bind (wpAny_attempt (wpAny_holding ?_))); unfold callGetattribute
  rw [z0, if_neg Bool.false_ne_true]; unfold boundAndCalled
  rw [PySem.F.excAttr_ValueError.ga.bind (.ref x)]; refine wpAny_bind (wpAny_pure ?_)
  change wpAny _ _ (call (.builtin "BaseException.__getattribute__") [.ref x, .str "__class__" t]) _ _ _
  refine wpAny_call (codeAny_call_builtin PySem.F.excAttr_ValueError.ga.plain PySem.F.entry_bexc_ga (@check_slot (model prog w) _ _ ⟨hp, g, d, t + 1, os⟩ "BaseException.__getattribute__" "BaseException" "__getattribute__" (.ref x) [.str "__class__" t] [] _ (by decide +kernel) (by decide +kernel) isE (PySem.F.args_bexc_ga (.ref x) (.str "__class__" t)) ?_))
  unfold Builtin.«object.__getattribute__»; refine wpAny_bind (wpAny_of_eq (a := ((Value.ref x : Value), [Value.str "__class__" t])) (by first | rfl | (simp only [slotArgs]; rfl)) ?_)
  refine wpAny_bind (wpAny_pure (wpAny_bind (ty.at (wpAny_bind (fo.at ?_)))))
  change wpAny _ _ (holding [Value.builtin "object.__class__"] (call (.builtin "getset_descriptor.__get__") [.builtin "object.__class__", .ref x, .ref D]) >>= ret) _ _ _
  refine wpAny_bind (wpAny_holding (wpAny_call (class_get (s := ⟨hp, g, d, t + 1, os⟩) (ox := ox) (od := some od) inK at_ C.hm (wpAny_pure ?_))))
  change wpAny _ _ (handedOut (.ref D)) _ _ _
  rw [(handedOut_of (v := .ref D) rfl)]
  first
    | exact (wpAny_pure (wpAny_pure h))
    | exact wpAny_pure h
    | exact (wpAny_pure (wpAny_bind (wpAny_pure (wpAny_pure h))))
open PySem.W in
theorem kit_exc (C : L2.ExcC K D) : KitX K (.ref x) (.ref D) (fun h => PySem.W.InstAt h x ox D (some od)) := by
  obtain ⟨cd, hc, _⟩ := any_some C.hd
  unfold clsIn at hc
  split at hc
  · rename_i c' d' cd' sl' ho
    refine ⟨fun _ _ _ I => I.type, fun _ _ inK _ A' Q' E' s' k q => ?_, fun h tp dd its n sl inK htp => Bool.eq_false_iff.mpr fun q => ?_, fun inK I k => cls_of_exc C inK I k⟩
    · unfold isType; unfold loadHead
      exact wpAny_bind (wpAny_loadPart (k _ _ (inK _ _ ho)) (wpAny_pure q))
    · cases Value.ref.inj (beq_iff_eq.mp q)
      cases (inK _ _ ho).symm.trans htp
  · cases hc
end
/-- isinstance(e, c), e the caught error at a, of the class cls, its dict at d -/
def rIsX (K : PySem.W.Frag) (a : Addr) (cls : Value) (d : Option Addr) : List V → Hp → VK → Prop := fun xs H Q => ∃ (D dd : Addr) (fs : List (Str × V)) (c : V) (cv : Value) (b : Bool), xs = [.ref a, c] ∧ cls = .ref D ∧ d = some dd ∧ H dd = some (.xd fs) ∧
  ExcC K D ∧ ClsV c cv ∧ PySem.W.kitOne K (.ref D) cv = some b ∧ Q (.bl b) H
theorem call_isX {X : Cx} {K : PySem.W.Frag} {a : Addr} {cls : Value} {d : Option Addr} {oe : Obj} {pn : List (Addr × Obj)} (hz : Zc cls d oe) (hf : ∃ vs, oe.data = .fields vs) (h : X.K = K := by rfl) : CallR (X.suite a ((a, oe) :: pn)) (.builtin "isinstance") (rIsX K a cls d) := by
  subst h
  rintro pins s σ H _ us Q I r ⟨D, dd, fs, c, cv, b, rfl, rfl, rfl, ed, C, k, e, q⟩
  obtain ⟨u1, u2, rfl, r1, r2⟩ := (vals2 r)
  cases r1
  cases k.eq r2
  obtain ⟨there, _⟩ := I.pin (a, oe) (List.mem_append_left _ List.mem_cons_self)
  obtain ⟨vs, hv⟩ := hf
  have hx : ObjOk X.prog X.w H s.heap dd (.xd fs) := I.hok dd _ ed
  obtain ⟨mA, hns, _⟩ := hx
  obtain ⟨od, ho, _⟩ := lookIn_ns hns
  have J : PySem.W.InstAt s.heap a oe D (some od) := ⟨there, hz.1, by unfold PySem.W.notCls; rw [hv] <;> rfl, by rw [hz.2]; exact ho⟩
  exact PySem.W.kia_one (kit_exc C) I.kIn J e (fun z => nomatch z) fun tk => ⟨.bl b, H, I.kept (t' := tk) fun _ _ z => z, rfl, q⟩
/-! ### a thing against itself -/
section
variable {X : Cx} {K : PySem.W.Frag}
theorem op_either {o : Value → Value → Sem Value} {r1 r2 : R2} (h1 : OpR X o r1) (h2 : OpR X o r2) : OpR X o (fun x y H Q => r1 x y H Q ∨ r2 x y H Q) := fun pins s σ H x y v u Q I rx ry h => h.elim (h1 pins s σ H x y v u Q I rx ry) (h2 pins s σ H x y v u Q I rx ry)
theorem hits_self {A : Around} {s : Shared} {kvs : List (Key × Value)} (nd : (kvs.map (·.1)).Nodup) : PySem.W.KeqHits A s kvs kvs true := by
  have main : ∀ l : List (Key × Value), (∀ p ∈ l, valueAt kvs p.1 = some p.2) → PySem.W.KeqHits A s kvs l true := by
    intro l
    induction l with
    | nil => exact fun _ => .nil
    | cons p l ih =>
      intro h
      obtain ⟨k, v⟩ := p
      have z : PySem.W.KeqHits A s kvs ((k, v) :: l) (true && true) := .hit (h _ List.mem_cons_self) (SeqAt.EqAt.same _) (ih fun q m => h q (List.mem_cons_of_mem _ m))
      exact z
  refine main kvs fun p hp => ?_
  unfold valueAt
  have : ∀ l : List (Key × Value), (l.map (·.1)).Nodup → p ∈ l → (l.find? fun kv => kv.1 = p.1) = some p := by
    intro l
    induction l with
    | nil => intro _ m; cases m
    | cons q l ih =>
      intro n m
      rw [List.map_cons, List.nodup_cons] at n
      rw [List.find?_cons]
      by_cases e : q.1 = p.1
      · rw [decide_eq_true e]
        rcases List.mem_cons.mp m with rfl | m
        · rfl
        · exact absurd (e ▸ List.mem_map.mpr ⟨p, m, rfl⟩) n.1
      · rw [decide_eq_false e]
        rcases List.mem_cons.mp m with rfl | m
        · exact absurd rfl e
        · exact ih n.2 m
  rw [this kvs nd hp]; rfl
/-- x != x, x == x: any data but a tuple -/
def rSelfD (K : PySem.W.Frag) (b : Bool) : R2 := fun x y H Q => y = x ∧ (∃ d, Dq K H x d ∧ ∀ ds, d ≠ .tuple ds) ∧ Q (.bl b) H
theorem op_neSelfD (room : X.A.units < cLine) (h : X.K = K := by rfl) : OpR X (compareOp .NotEq) (rSelfD K false) := by
  subst h
  rintro pins s σ H _ x v u Q I rx ry ⟨rfl, ⟨d, hd, nt⟩, q⟩
  have flat : scal x x = true → wpAny (model X.prog X.w) X.A (compareOp .NotEq v u) (EP X pins σ Q) X.xe s := fun z => op_ne pins s σ H x x v u Q I rx ry ⟨z, by rw [decide_eq_true rfl]; exact q⟩
  cases hd with
  | non => exact flat rfl
  | bl b => exact flat rfl
  | int i => exact flat rfl
  | str t => exact flat rfl
  | lst h hs => exact op_neSelf room rfl pins s σ H _ _ v u Q I rx ry ⟨_, _, rfl, rfl, h, q⟩
  | tup h hs => exact absurd rfl (nt _)
  | dic h hs =>
    cases rx
    cases ry
    obtain ⟨_, ne, vs, kv, dd⟩ := I.hok _ _ h
    obtain ⟨o, es, ep, g1, g2, g3, g4, g5, nd⟩ := id dd
    exact PySem.W.keq_ne (knd := mixKind X.prog X.w) (r := true) ne ne dd dd room (fun _ => hits_self nd) (by simpa using ⟨.bl false, H, I, rfl, q⟩)
theorem op_eqSelfD (room : X.A.units < cLine) (h : X.K = K := by rfl) : OpR X (compareOp .Eq) (rSelfD K true) := by
  subst h
  rintro pins s σ H _ x v u Q I rx ry ⟨rfl, ⟨d, hd, nt⟩, q⟩
  have flat : scal x x = true → wpAny (model X.prog X.w) X.A (compareOp .Eq v u) (EP X pins σ Q) X.xe s := fun z => op_eq pins s σ H x x v u Q I rx ry ⟨z, by rw [decide_eq_true rfl]; exact q⟩
  cases hd with
  | non => exact flat rfl
  | bl b => exact flat rfl
  | int i => exact flat rfl
  | str t => exact flat rfl
  | lst h hs =>
    cases rx
    cases ry
    obtain ⟨us, _, p, _⟩ := I.list h
    refine SeqAt.eq_listAt (e := fun _ => true) p.isList p.isList rfl room (fun j z1 z2 => SeqAt.EqAt.same _) ⟨.bl true, H, I, ?_, q⟩
    have z : (List.range us.toArray.size).all (fun _ => true) = true := by simp
    rw [z]; rfl
  | tup h hs => exact absurd rfl (nt _)
  | dic h hs =>
    cases rx
    cases ry
    obtain ⟨_, ne, vs, kv, dd⟩ := I.hok _ _ h
    obtain ⟨o, es, ep, g1, g2, g3, g4, g5, nd⟩ := id dd
    exact PySem.W.keq_eq (knd := mixKind X.prog X.w) (r := true) ne ne dd dd room (fun _ => hits_self nd) (by simpa using ⟨.bl true, H, I, rfl, q⟩)
/-- xs == xs, a list of anything -/
def rSelfL (K : PySem.W.Frag) : R2 := fun x y H Q => ∃ a xs, x = .ref a ∧ y = .ref a ∧ SqL K H a xs ∧ Q (.bl true) H
theorem op_eqSelf (room : X.A.units < cLine) (h : X.K = K := by rfl) : OpR X (compareOp .Eq) (rSelfL K) := by
  subst h
  rintro pins s σ H _ _ v u Q I rx ry ⟨a, xs, rfl, rfl, h1, q⟩
  cases rx
  cases ry
  obtain ⟨us, _, p, _⟩ := I.list h1
  refine SeqAt.eq_listAt (e := fun _ => true) p.isList p.isList rfl room (fun j z1 z2 => SeqAt.EqAt.same _) ⟨.bl true, H, I, ?_, q⟩
  have z : (List.range us.toArray.size).all (fun _ => true) = true := by simp
  rw [z]; rfl
end
end G

namespace G
open L2 PyProof.Rows PySem PySem.Spec
open Evl (Ex)
/-! ### a op b op c op d; set(..) and sorted(..) of tuples -/
def tChain3 (r1 r2 r3 : R2) (ta tb tc td : TE) : TE := fun σ H Q => ta σ H fun x H1 => tb σ H1 fun y H2 => r1 x y H2 fun z H3 => ∃ k, z = .bl k ∧
  (if k = true then tc σ H3 fun u H4 => r2 y u H4 fun z2 H5 => ∃ k2, z2 = .bl k2 ∧ (if k2 = true then td σ H5 fun t H6 => r3 u t H6 Q else Q (.bl false) H5) else Q (.bl false) H3)
section
variable {X : Cx} {a b c d : Expr} {ta tb tc td : TE} {pos : Pos}
theorem pt_chain3 {o1 o2 o3 : CmpOp} {r1 r2 r3 : R2} (h1 : OpR X (compareOp o1) r1) (h2 : OpR X (compareOp o2) r2) (h3 : OpR X (compareOp o3) r3) (ha : PE X a ta) (hb : PE X b tb) (hc : PE X c tc) (hd : PE X d td)
    (hm : lastMarks [o1, o2, o3] [b, c, d] = false := by with_unfolding_all rfl) : PT X (.Compare a [o1, o2, o3] [b, c, d] pos) (tTest (tChain3 r1 r2 r3 ta tb tc td)) := by
  refine ⟨fun pins s σ H Q I h => isTrue_chain (thn (ha.run pins s σ H _ I h) fun v s1 ⟨x, H1, I1, e1, q1⟩ => test_link (thn (hb.run pins s1 σ H1 _ I1 q1) fun u s2 ⟨y, H2, I2, e2, q2⟩ => thn (h1 pins s2 σ H2 x y v u _ I2 e1 e2 q2) fun d1 s3 ⟨z, H3, I3, e3, k, ez, q3⟩ => ?_)) hm⟩
  subst ez
  cases e3
  refine wpAny_truthy_bool ?_
  cases k with
  | false =>
    obtain ⟨k', ek, q'⟩ := q3
    cases ek
    exact ite_ff ⟨H3, I3, q'⟩
  | true =>
    refine ite_tt (test_link (thn (hc.run pins s3 σ H3 _ I3 q3) fun w' s4 ⟨y2, H4, I4, e4, q4⟩ => thn (h2 pins s4 σ H4 y y2 u w' _ I4 e2 e4 q4) fun d2 s5 ⟨z2, H5, I5, e5, k2, ez2, q5⟩ => ?_))
    subst ez2
    cases e5
    refine wpAny_truthy_bool ?_
    cases k2 with
    | false =>
      obtain ⟨k', ek, q'⟩ := q5
      cases ek
      exact ite_ff ⟨H5, I5, q'⟩
    | true =>
      refine ite_tt (test_last (thn (hd.run pins s5 σ H5 _ I5 q5) fun w2 s6 ⟨y3, H6, I6, e6, q6⟩ => thn (h3 pins s6 σ H6 y2 y3 w' w2 _ I6 e4 e6 q6) fun d3 s7 ⟨z3, H7, I7, e7, k3, ez3, q7⟩ => ?_))
      subst ez3
      cases e7
      exact wpAny_truthy_bool ⟨H7, I7, q7⟩
end
section
variable {X : Cx} {K : PySem.W.Frag} {P : Program} {w : World}
theorem cr_setTK (hc : X.calm = true) (hu : X.A.units + 64 < cLine) (h : X.K = K := by rfl) (hp : X.prog = P := by rfl) (hw : X.w = w := by rfl) : CallR X (.type "set") (rSetOfT K P w) := by
  subst h hp hw; exact cr_setOfT hc hu
theorem pg_lstK {es : List Expr} {k : Nat} {t : TGs} {n : Nat} {pos : Pos} (hc : X.calm = true) (h : PGs X es t) (e : X.K = K := by rfl) (hn : (assignEach es X.env).length = n := by rfl) (hst : (assignEach es X.env).findIdx? (·.1) = none := by rfl) : PG X (.Tuple es k pos) (gLst K n t) := e ▸ pg_lst hc h hn hst
/-- xs.count(t), a list of texts -/
def rCntS (K : PySem.W.Frag) : V → List V → Hp → VK → Prop := fun x xs H Q => ∃ (a : Addr) (ts : List Str) (y : Str), x = .ref a ∧ xs = [.str y] ∧ SqL K H a (ts.map V.str) ∧ Q (.int (ts.count y : Nat)) H
theorem count_eqU {y : Str} : ∀ {ts : List Str} {us : List Value}, Vals (ts.map V.str) us → us.countP (eqU (.str y)) = ts.count y
  | [], _, .nil => rfl
  | t :: ts, _, .cons r rs => by
    have z := eqU_of (x := V.str y) r rfl
    have e : eqV (.str t) (.str y) = (t == y) := rfl
    rw [List.countP_cons, List.count_cons, count_eqU rs, z, e]
theorem mt_scount (h : X.K = K := by rfl) : MtR X "list.count" (rCntS K) := by
  subst h
  rintro pins s σ H _ _ v us Q I rx rxs ⟨a, ts, y, rfl, rfl, sq, q⟩
  cases rx
  obtain ⟨uy, rfl, ry⟩ := vals1 rxs
  obtain ⟨its, rv, ⟨⟨cls, dd, data, sl⟩, n, ho, hc, _, hd⟩, _⟩ := I.list sq
  simp only at hc hd
  subst hc hd
  have flat : (ts.map V.str).all flatV = true := by rw [List.all_map, List.all_eq_true]; exact fun _ _ => rfl
  refine call_meets PySem.F.slot_list_count ⟨_, ho, rfl⟩ PySem.F.entry_list_count (PySem.F.args_list_count_2 _ _) (SeqAt.list_countAt a its.toArray n dd sl uy (eqU (.str y))) ⟨ho, fun u hu => mem_eqAt ry rfl rv flat u (by simpa using hu), ?_⟩
  have z := count_eqU (y := y) rv
  exact ⟨.int (ts.count y : Nat), H, I.tok _, ⟨s.toks, by rw [← z]⟩, q⟩
theorem cr_sortedSTK (hc : X.calm = true) (h : X.K = K := by rfl) (hp : X.prog = P := by rfl) (hw : X.w = w := by rfl) : CallR X (.builtin "sorted") (rSortedT K P w) := by
  subst h hp hw; exact cr_sortedT hc
end
end G

/-! Searching a graph of neighbours: plain Lean. -/
namespace M
abbrev Rows := List (List Nat)
def at_ (F : Rows) (v : Nat) : List Nat := F[v]?.getD []
theorem at_set (F : Rows) (v w : Nat) (p : List Nat) : at_ (F.set v p) w = if v = w ∧ v < F.length then p else at_ F w := by
  unfold at_
  rw [List.getElem?_set]
  by_cases h : v = w
  · subst h
    by_cases h2 : v < F.length
    · simp [h2]
    · rw [if_pos rfl, if_neg h2, if_neg (by omega), List.getElem?_eq_none (by omega)]
  · rw [if_neg h]
    exact (if_neg (by omega)).symm
/-- a way from h to v: no house twice, neighbours in a row -/
structure Path (ls : Rows) (h v : Nat) (p : List Nat) : Prop where
  hd : p.head? = some h
  la : p.getLast? = some v
  nd : p.Nodup
  ch : ∀ i a b, p[i]? = some a → p[i + 1]? = some b → b ∈ at_ ls a
theorem Path.one (ls : Rows) (h : Nat) : Path ls h h [h] := ⟨rfl, rfl, by simp, fun i a b h1 h2 => by simp at h2⟩
theorem Path.ne {ls : Rows} {h v : Nat} {p : List Nat} (P : Path ls h v p) : p ≠ [] := fun e => by have := P.hd; rw [e] at this; cases this
theorem Path.last_mem {ls : Rows} {h v : Nat} {p : List Nat} (P : Path ls h v p) : v ∈ p := List.mem_of_getLast? P.la
theorem Path.snoc {ls : Rows} {h v w : Nat} {p : List Nat} (P : Path ls h v p) (hw : w ∈ at_ ls v) (hn : w ∉ p) : Path ls h w (p ++ [w]) := by
  have ne := P.ne
  refine ⟨?_, by simp, ?_, fun i a b h1 h2 => ?_⟩
  · rw [List.head?_append, P.hd]; rfl
  · rw [List.nodup_append]; exact ⟨P.nd, by simp, fun a ha b hb e => hn (by rw [← List.mem_singleton.mp hb, ← e]; exact ha)⟩
  · by_cases c : i + 1 < p.length
    · rw [List.getElem?_append_left c] at h2
      rw [List.getElem?_append_left (by omega)] at h1
      exact P.ch i a b h1 h2
    · have hl : i + 1 < (p ++ [w]).length := (List.getElem?_eq_some_iff.mp h2).1
      have e : i + 1 = p.length := by simp at hl; omega
      rw [List.getElem?_append_right (by omega), e] at h2
      simp at h2; subst h2
      rw [List.getElem?_append_left (by omega)] at h1
      have z := P.la
      rw [List.getLast?_eq_getElem?] at z
      rw [show p.length - 1 = i by omega, h1] at z
      cases z; exact hw
/-- all ways from h, [] where there is none -/
structure Ways (ls : Rows) (h : Nat) (F : Rows) : Prop where
  len : F.length = ls.length
  st : at_ F h = [h]
  pa : ∀ v, at_ F v ≠ [] → Path ls h v (at_ F v)
  cl : ∀ v, at_ F v ≠ [] → ∀ w ∈ at_ ls v, at_ F w ≠ []
/-- while it is searched: S the houses from which it goes on -/
structure PI (ls : Rows) (h : Nat) (F : Rows) (S : List Nat) : Prop where
  len : F.length = ls.length
  st : at_ F h = [h]
  pa : ∀ v, at_ F v ≠ [] → Path ls h v (at_ F v)
  on : ∀ v, ∀ x ∈ at_ F v, at_ F x ≠ []
  sf : ∀ x ∈ S, x < ls.length ∧ at_ F x ≠ []
  sn : S.Nodup
  cl : ∀ v, at_ F v ≠ [] → v ∉ S → ∀ w ∈ at_ ls v, at_ F w ≠ []
/-- .. at the house a, whose first k neighbours are found -/
structure PJ (ls : Rows) (h a k : Nat) (F : Rows) (S : List Nat) : Prop where
  len : F.length = ls.length
  st : at_ F h = [h]
  pa : ∀ v, at_ F v ≠ [] → Path ls h v (at_ F v)
  on : ∀ v, ∀ x ∈ at_ F v, at_ F x ≠ []
  sf : ∀ x ∈ S, x < ls.length ∧ at_ F x ≠ []
  sn : S.Nodup
  al : a < ls.length
  af : at_ F a ≠ []
  cl : ∀ v, at_ F v ≠ [] → v ∉ S → v ≠ a → ∀ w ∈ at_ ls v, at_ F w ≠ []
  ak : ∀ w ∈ (at_ ls a).take k, at_ F w ≠ []
def un (F : Rows) : Nat := (F.filter (·.isEmpty)).length
theorem un_set : ∀ (F : Rows) (v : Nat) (p : List Nat), v < F.length → at_ F v = [] → p ≠ [] → un (F.set v p) + 1 = un F
  | [], v, p, h, _, _ => by simp at h
  | q :: F, 0, p, _, e, hp => by
    have e' : q = [] := by simpa [at_] using e
    subst e'
    have : p.isEmpty = false := by simpa using hp
    simp [un, this]
  | q :: F, v + 1, p, h, e, hp => by
    have ih := un_set F v p (by simpa using h) (by simpa [at_] using e) hp
    unfold un at ih ⊢
    rw [List.set_cons_succ, List.filter_cons, List.filter_cons]
    split
    · rw [List.length_cons, List.length_cons]; omega
    · omega
section
variable {ls : Rows} {h : Nat} {F : Rows} {S : List Nat}
theorem pi_start (hh : h < ls.length) : PI ls h ((List.replicate ls.length []).set h [h]) [h] := by
  have e : ∀ v, at_ ((List.replicate ls.length []).set h [h]) v = if h = v then [h] else [] := fun v => by
    rw [at_set]
    by_cases c : h = v
    · rw [if_pos ⟨c, by simpa using hh⟩, if_pos c]
    · rw [if_neg (by omega), if_neg c]
      unfold at_
      rw [List.getElem?_replicate]; split <;> rfl
  refine ⟨by simp, by rw [e, if_pos rfl], fun v hv => ?_, fun v x hx => ?_, fun x hx => ?_, by simp, fun v hv hs => ?_⟩
  · rw [e] at hv ⊢
    by_cases c : h = v
    · subst c; rw [if_pos rfl]; exact .one ls h
    · rw [if_neg c] at hv; exact absurd rfl hv
  · rw [e] at hx
    by_cases c : h = v
    · rw [if_pos c] at hx; rw [List.mem_singleton.mp hx, e, if_pos rfl]; simp
    · rw [if_neg c] at hx; cases hx
  · rw [List.mem_singleton.mp hx, e, if_pos rfl]; exact ⟨hh, by simp⟩
  · rw [e] at hv
    by_cases c : h = v
    · exact absurd (by simp [c]) hs
    · rw [if_neg c] at hv; exact absurd rfl hv
theorem pj_start {a : Nat} (p : PI ls h F (S ++ [a])) : PJ ls h a 0 F S := by
  have hn := p.sn
  rw [List.nodup_append] at hn
  obtain ⟨h1, h2⟩ := p.sf a (by simp)
  exact ⟨p.len, p.st, p.pa, p.on, fun x hx => p.sf x (by simp [hx]), hn.1, h1, h2, fun v hv hs ha => p.cl v hv (by simp [hs, ha]), by simp⟩
theorem pj_skip {a k w : Nat} (p : PJ ls h a k F S) (hw : (at_ ls a)[k]? = some w) (hf : at_ F w ≠ []) : PJ ls h a (k + 1) F S :=
  ⟨p.len, p.st, p.pa, p.on, p.sf, p.sn, p.al, p.af, p.cl, fun x hx => by
    rw [G.take_snoc' hw] at hx
    rcases List.mem_append.mp hx with z | z
    · exact p.ak x z
    · rw [List.mem_singleton.mp z]; exact hf⟩
theorem pj_add {a k w : Nat} (p : PJ ls h a k F S) (hw : (at_ ls a)[k]? = some w) (hl : w < ls.length) (hf : at_ F w = []) :
    PJ ls h a (k + 1) (F.set w (at_ F a ++ [w])) (S ++ [w]) ∧ un (F.set w (at_ F a ++ [w])) + (S ++ [w]).length = un F + S.length := by
  have wl : w < F.length := by rw [p.len]; exact hl
  have e : ∀ v, at_ (F.set w (at_ F a ++ [w])) v = if w = v then at_ F a ++ [w] else at_ F v := fun v => by
    rw [at_set]
    by_cases c : w = v
    · rw [if_pos ⟨c, wl⟩, if_pos c]
    · rw [if_neg (by omega), if_neg c]
  have old : ∀ {v}, at_ F v ≠ [] → w ≠ v := fun {v} hv c => hv (c ▸ hf)
  have up : ∀ {v}, at_ F v ≠ [] → at_ (F.set w (at_ F a ++ [w])) v ≠ [] := fun {v} hv => by rw [e, if_neg (old hv)]; exact hv
  have wn : at_ (F.set w (at_ F a ++ [w])) w ≠ [] := by rw [e, if_pos rfl]; simp
  have wp : w ∉ at_ F a := fun z => p.on a w z hf
  have wS : w ∉ S := fun z => (p.sf w z).2 hf
  have mem_a : w ∈ at_ ls a := List.mem_of_getElem? hw
  refine ⟨⟨by rw [List.length_set]; exact p.len, ?_, fun v hv => ?_, fun v x hx => ?_, fun x hx => ?_, ?_, p.al, up p.af, fun v hv hs ha => ?_, fun x hx => ?_⟩, ?_⟩
  · have : at_ F h ≠ [] := by rw [p.st]; simp
    rw [e, if_neg (old this)]; exact p.st
  · by_cases c : w = v
    · subst c; rw [e, if_pos rfl]; exact (p.pa a p.af).snoc mem_a wp
    · rw [e, if_neg c] at hv ⊢; exact p.pa v hv
  · by_cases c : w = v
    · rw [e, if_pos c] at hx
      rcases List.mem_append.mp hx with z | z
      · exact up (p.on a x z)
      · rw [List.mem_singleton.mp z]; exact wn
    · rw [e, if_neg c] at hx; exact up (p.on v x hx)
  · rcases List.mem_append.mp hx with z | z
    · exact ⟨(p.sf x z).1, up (p.sf x z).2⟩
    · rw [List.mem_singleton.mp z]; exact ⟨hl, wn⟩
  · rw [List.nodup_append]
    exact ⟨p.sn, by simp, fun a ha b hb z => wS (by rw [← List.mem_singleton.mp hb, ← z]; exact ha)⟩
  · have c : w ≠ v := fun c => hs (by simp [c])
    rw [e, if_neg c] at hv
    intro x hx
    exact up (p.cl v hv (fun z => hs (by simp [z])) ha x hx)
  · rw [G.take_snoc' hw] at hx
    rcases List.mem_append.mp hx with z | z
    · exact up (p.ak x z)
    · rw [List.mem_singleton.mp z]; exact wn
  · have := un_set F w (at_ F a ++ [w]) wl hf (by simp)
    simp only [List.length_append, List.length_cons, List.length_nil]; omega
theorem pj_end {a : Nat} (p : PJ ls h a (at_ ls a).length F S) : PI ls h F S :=
  ⟨p.len, p.st, p.pa, p.on, p.sf, p.sn, fun v hv hs => by
    by_cases c : v = a
    · subst c; intro w hw; exact p.ak w (by rw [List.take_length]; exact hw)
    · exact p.cl v hv hs c⟩
theorem pi_end (p : PI ls h F []) : Ways ls h F := ⟨p.len, p.st, p.pa, fun v hv => p.cl v hv (by simp)⟩
end
end M

/-! Ways of a graph: plain Lean. -/
namespace M
theorem Ways.along {ls F : Rows} {h v : Nat} {p : List Nat} (W : Ways ls h F) (P : Path ls h v p) : ∀ (i x : Nat), p[i]? = some x → at_ F x ≠ []
  | 0, x, e => by
    have z := P.hd
    rw [List.head?_eq_getElem?, e] at z
    cases z
    rw [W.st]; simp
  | i + 1, x, e => by
    have hi : i < p.length := by have := (List.getElem?_eq_some_iff.mp e).1; omega
    have ea : p[i]? = some p[i] := List.getElem?_eq_getElem hi
    exact W.cl _ (W.along P i _ ea) x (P.ch i _ x ea e)
/-- a way is found exactly where a path leads -/
theorem Ways.reach {ls F : Rows} {h v : Nat} {p : List Nat} (W : Ways ls h F) (P : Path ls h v p) : at_ F v ≠ [] := by
  obtain ⟨i, hi, e⟩ := List.getElem_of_mem P.last_mem
  exact W.along P i v (by rw [List.getElem?_eq_getElem hi, e])
theorem Ways.same {ls F G : Rows} {h : Nat} (W : Ways ls h F) (W' : Ways ls h G) (v : Nat) : at_ F v = [] ↔ at_ G v = [] := by
  constructor
  · intro e
    by_cases c : at_ G v = []
    · exact c
    · exact absurd e (W.reach (W'.pa v c))
  · intro e
    by_cases c : at_ F v = []
    · exact c
    · exact absurd e (W'.reach (W.pa v c))
/-- one simple path between two houses at most -/
def OneWay (ls : Rows) : Prop := ∀ h v p q, Path ls h v p → Path ls h v q → p = q
theorem Ways.eq {ls F G : Rows} {h : Nat} (u : OneWay ls) (W : Ways ls h F) (W' : Ways ls h G) : F = G := by
  refine List.ext_getElem (by rw [W.len, W'.len]) fun v h1 h2 => ?_
  have eF : at_ F v = F[v] := by unfold at_; rw [List.getElem?_eq_getElem h1]; rfl
  have eG : at_ G v = G[v] := by unfold at_; rw [List.getElem?_eq_getElem h2]; rfl
  rw [← eF, ← eG]
  by_cases c : at_ F v = []
  · rw [c, (W.same W' v).mp c]
  · exact u h v _ _ (W.pa v c) (W'.pa v fun e => c ((W.same W' v).mpr e))
end M

/-! Trees grown house by house: one way between two houses, what lies on it. Plain Lean. -/
namespace M
theorem Path.uncons {ls : Rows} {h v : Nat} {p : List Nat} (P : Path ls h v p) : (p = [h] ∧ h = v) ∨ ∃ b q, p = h :: q ∧ Path ls b v q ∧ b ∈ at_ ls h ∧ h ∉ q := by
  obtain ⟨hd, la, nd, ch⟩ := P
  match p, hd with
  | [x], e =>
    cases e
    cases la
    exact .inl ⟨rfl, rfl⟩
  | x :: b :: q, e =>
    cases e
    refine .inr ⟨b, b :: q, rfl, ⟨rfl, by simpa using la, (List.nodup_cons.mp nd).2, fun i a c h1 h2 => ?_⟩, ch 0 _ _ rfl rfl, (List.nodup_cons.mp nd).1⟩
    exact ch (i + 1) a c (by simpa using h1) (by simpa using h2)
theorem Path.cons {ls : Rows} {h b v : Nat} {q : List Nat} (P : Path ls b v q) (e : b ∈ at_ ls h) (n : h ∉ q) : Path ls h v (h :: q) := by
  have ne := P.ne
  have qd := P.hd
  match q, ne, qd with
  | x :: q, _, qd =>
    cases qd
    refine ⟨rfl, by simpa using P.la, List.nodup_cons.mpr ⟨n, P.nd⟩, fun i a c h1 h2 => ?_⟩
    cases i with
    | zero => cases h1; cases h2; exact e
    | succ i => exact P.ch i a c (by simpa using h1) (by simpa using h2)
/-- the way back -/
theorem Path.rev {ls : Rows} (sym : ∀ a b, b ∈ at_ ls a → a ∈ at_ ls b) {h v : Nat} {p : List Nat} (P : Path ls h v p) : Path ls v h p.reverse := by
  refine ⟨by rw [List.head?_reverse, P.la], by rw [List.getLast?_reverse, P.hd], List.pairwise_reverse.mpr (P.nd.imp fun z => z.symm), fun i a b h1 h2 => ?_⟩
  have l2 := (List.getElem?_eq_some_iff.mp h2).1
  rw [List.length_reverse] at l2
  rw [List.getElem?_reverse (by omega)] at h1 h2
  refine sym _ _ (P.ch (p.length - 1 - (i + 1)) b a h2 ?_)
  rw [← h1]; congr 1; omega
/-- each house but the first hangs at one of lower rank -/
structure Ranked (ls : Rows) (r : Nat → Nat) : Prop where
  sym : ∀ a b, b ∈ at_ ls a → a ∈ at_ ls b
  ne : ∀ a b, b ∈ at_ ls a → r a ≠ r b
  one : ∀ a b c, b ∈ at_ ls a → c ∈ at_ ls a → r b < r a → r c < r a → b = c
theorem Ranked.rise {ls : Rows} {r : Nat → Nat} (R : Ranked ls r) : ∀ (q : List Nat) (h b v : Nat), Path ls b v q → b ∈ at_ ls h → h ∉ q → r h < r b → r b ≤ r v
  | [], _, _, _, P, _, _, _ => absurd rfl P.ne
  | x :: q, h, b, v, P, e, n, lt => by
    rcases P.uncons with ⟨_, rfl⟩ | ⟨c, q', eq, P', e', n'⟩
    · exact Nat.le_refl _
    · cases eq
      have hc : h ≠ c := by
        rintro rfl
        exact n (List.mem_cons_of_mem _ (List.mem_of_mem_head? P'.hd))
      have up : r x < r c := by
        rcases Nat.lt_trichotomy (r x) (r c) with z | z | z
        · exact z
        · exact absurd z (R.ne _ _ e')
        · exact absurd (R.one x h c (R.sym _ _ e) e' lt z) hc
      exact Nat.le_of_lt (Nat.lt_of_lt_of_le up (R.rise q x c v P' e' n' up))
theorem Ranked.down {ls : Rows} {r : Nat → Nat} (R : Ranked ls r) {q : List Nat} {h b v : Nat} (P : Path ls b v q) (e : b ∈ at_ ls h) (n : h ∉ q) (le : r v ≤ r h) : r b < r h := by
  rcases Nat.lt_trichotomy (r b) (r h) with z | z | z
  · exact z
  · exact absurd z.symm (R.ne _ _ e)
  · have := R.rise q h b v P e n z
    omega
theorem Ranked.oneWay {ls : Rows} {r : Nat → Nat} (R : Ranked ls r) : OneWay ls := by
  have main : ∀ (N h v : Nat) (p q : List Nat), r h + r v ≤ N → r v ≤ r h → Path ls h v p → Path ls h v q → p = q := by
    intro N
    induction N with
    | zero =>
      intro h v p q hN le P Q
      rcases P.uncons with ⟨rfl, rfl⟩ | ⟨b, p', rfl, P', e, n⟩
      · rcases Q.uncons with ⟨rfl, _⟩ | ⟨c, q', rfl, Q', e', n'⟩
        · rfl
        · exact absurd Q'.last_mem n'
      · have := R.down P' e n le; omega
    | succ N ih =>
      intro h v p q hN le P Q
      rcases P.uncons with ⟨rfl, rfl⟩ | ⟨b, p', rfl, P', e, n⟩
      · rcases Q.uncons with ⟨rfl, _⟩ | ⟨c, q', rfl, Q', e', n'⟩
        · rfl
        · exact absurd Q'.last_mem n'
      rcases Q.uncons with ⟨rfl, rfl⟩ | ⟨c, q', rfl, Q', e', n'⟩
      · exact absurd P'.last_mem n
      have d1 := R.down P' e n le
      have d2 := R.down Q' e' n' le
      obtain rfl := R.one h b c e e' d1 d2
      congr 1
      by_cases c2 : r v ≤ r b
      · exact ih b v p' q' (by omega) c2 P' Q'
      · have z := ih v b p'.reverse q'.reverse (by omega) (by omega) (P'.rev R.sym) (Q'.rev R.sym)
        simpa using congrArg List.reverse z
  intro h v p q P Q
  by_cases c : r v ≤ r h
  · exact main _ h v p q (Nat.le_refl _) c P Q
  · have z := main _ v h p.reverse q.reverse (Nat.le_refl _) (by omega) (P.rev R.sym) (Q.rev R.sym)
    simpa using congrArg List.reverse z
/-! ### walks -/
inductive Walk (ls : Rows) : Nat → Nat → List Nat → Prop
  | one (h : Nat) : Walk ls h h [h]
  | cons {h b v : Nat} {q : List Nat} (e : b ∈ at_ ls h) (w : Walk ls b v q) : Walk ls h v (h :: q)
theorem Path.walk {ls : Rows} : ∀ {p : List Nat} {h v : Nat}, Path ls h v p → Walk ls h v p
  | [], _, _, P => absurd rfl P.ne
  | x :: p, h, v, P => by
    rcases P.uncons with ⟨e, rfl⟩ | ⟨b, q, e, P', e', _⟩
    · rw [e]; exact .one h
    · cases e; exact .cons e' P'.walk
/-- the rest of a path from a house on it -/
theorem Path.from_ {ls : Rows} : ∀ {p : List Nat} {h v x : Nat}, Path ls h v p → x ∈ p → ∃ p1 p2, p = p1 ++ x :: p2 ∧ Path ls x v (x :: p2)
  | [], _, _, _, P, _ => absurd rfl P.ne
  | y :: p, h, v, x, P, hx => by
    have ey : y = h := by have z := P.hd; cases z; rfl
    subst ey
    by_cases c : x = y
    · subst c; exact ⟨[], p, rfl, P⟩
    · rcases P.uncons with ⟨e, _⟩ | ⟨b, q, e, P', _, _⟩
      · cases e; simp [c] at hx
      · cases e
        obtain ⟨p1, p2, e2, P2⟩ := P'.from_ (x := x) (by simpa [c] using hx)
        exact ⟨y :: p1, p2, by rw [e2]; rfl, P2⟩
theorem Walk.path {ls : Rows} {h v : Nat} {q : List Nat} (w : Walk ls h v q) : ∃ p, Path ls h v p ∧ ∀ x ∈ p, x ∈ q := by
  induction w with
  | one h => exact ⟨[h], Path.one ls h, fun _ m => m⟩
  | @cons h b v q e w ih =>
    obtain ⟨p, P, sub⟩ := ih
    by_cases c : h ∈ p
    · obtain ⟨p1, p2, e2, P2⟩ := P.from_ c
      refine ⟨_, P2, fun x m => ?_⟩
      rcases List.mem_cons.mp m with rfl | m
      · exact List.mem_cons_self
      · exact List.mem_cons_of_mem _ (sub x (by rw [e2]; simp [m]))
    · refine ⟨_, P.cons e c, fun x m => ?_⟩
      rcases List.mem_cons.mp m with rfl | m
      · exact List.mem_cons_self
      · exact List.mem_cons_of_mem _ (sub x m)
theorem Walk.join {ls : Rows} {h v u : Nat} {p q : List Nat} (w : Walk ls h v p) (w' : Walk ls v u q) : ∃ z, Walk ls h u z ∧ ∀ x ∈ z, x ∈ p ∨ x ∈ q := by
  induction w with
  | one h => exact ⟨q, w', fun x m => .inr m⟩
  | @cons h b v p e w ih =>
    obtain ⟨z, wz, sub⟩ := ih w'
    refine ⟨h :: z, .cons e wz, fun x m => ?_⟩
    rcases List.mem_cons.mp m with rfl | m
    · exact .inl List.mem_cons_self
    · exact (sub x m).imp (List.mem_cons_of_mem _) id
/-- a house on the way from i to j lies on the way from h to i or on that from h to j -/
theorem OneWay.between {ls : Rows} (u : OneWay ls) (sym : ∀ a b, b ∈ at_ ls a → a ∈ at_ ls b) {h i j : Nat} {p q r : List Nat} (P : Path ls h i p) (Q : Path ls h j q) (R : Path ls i j r) : ∀ x ∈ r, x ∈ p ∨ x ∈ q := by
  obtain ⟨z, wz, sub⟩ := (P.rev sym).walk.join Q.walk
  obtain ⟨r', R', sub'⟩ := wz.path
  obtain rfl := u _ _ _ _ R R'
  intro x m
  exact (sub x (sub' x m)).imp List.mem_reverse.mp id
/-- the last item with a property -/
theorem last_with (f : Nat → Prop) [DecidablePred f] : ∀ (l : List Nat), (∃ x ∈ l, f x) → ∃ l1 x l2, l = l1 ++ x :: l2 ∧ f x ∧ ∀ y ∈ l2, ¬ f y
  | [], ⟨_, m, _⟩ => absurd m List.not_mem_nil
  | a :: l, h => by
    by_cases c : ∃ x ∈ l, f x
    · obtain ⟨l1, x, l2, e, fx, n⟩ := last_with f l c
      exact ⟨a :: l1, x, l2, by rw [e]; rfl, fx, n⟩
    · obtain ⟨x, m, fx⟩ := h
      rcases List.mem_cons.mp m with rfl | m
      · exact ⟨[], x, l, rfl, fx, fun y m fy => c ⟨y, m, fy⟩⟩
      · exact absurd ⟨x, m, fx⟩ c
theorem Path.glue {ls : Rows} {x k : Nat} {r : List Nat} (R : Path ls x k (x :: r)) : ∀ {s : List Nat} {j : Nat}, Path ls j x (s ++ [x]) → (∀ y ∈ s, y ∉ x :: r) → Path ls j k (s ++ x :: r)
  | [], j, P, _ => by
    have z := P.hd
    cases z
    exact R
  | y :: s, j, P, n => by
    have z := P.hd
    cases z
    rcases P.uncons with ⟨e, _⟩ | ⟨b, q, e, P', e', n'⟩
    · have := congrArg List.length e
      simp at this
    · have eq : s ++ [x] = q := (List.cons.inj e).2
      subst eq
      refine (Path.glue R P' fun w m => n w (List.mem_cons_of_mem _ m)).cons e' fun m => ?_
      rcases List.mem_append.mp m with m | m
      · exact n' (List.mem_append_left _ m)
      · exact n y List.mem_cons_self m
/-- three ways between three houses have a house in common -/
theorem OneWay.median {ls : Rows} (u : OneWay ls) (sym : ∀ a b, b ∈ at_ ls a → a ∈ at_ ls b) {i j k : Nat} {p q r : List Nat} (P : Path ls i j p) (Q : Path ls j k q) (R : Path ls i k r) : ∃ x ∈ p, x ∈ q ∧ x ∈ r := by
  have hi : i ∈ p := List.mem_of_mem_head? P.hd
  have hr : i ∈ r := List.mem_of_mem_head? R.hd
  obtain ⟨p1, x, p2, ep, hx, no⟩ := last_with (· ∈ r) p ⟨i, hi, hr⟩
  have mx : x ∈ p := by rw [ep]; simp
  obtain ⟨a1, a2, ea, A⟩ := P.from_ mx
  obtain ⟨b1, b2, eb, B⟩ := R.from_ hx
  -- the rest of p behind x
  have e2 : a2 = p2 := by
    have nd := P.nd
    have h : a1 ++ x :: a2 = p1 ++ x :: p2 := ea.symm.trans ep
    have n1 : x ∉ a1 := by
      rw [ea, List.nodup_append] at nd
      exact fun m => nd.2.2 x m x List.mem_cons_self rfl
    have nd' := P.nd
    have n2 : x ∉ p1 := by
      rw [ep, List.nodup_append] at nd'
      exact fun m => nd'.2.2 x m x List.mem_cons_self rfl
    have cut : ∀ (l m : List Nat), x ∉ l → (l ++ x :: m).dropWhile (fun y => y != x) = x :: m := by
      intro l m nl
      induction l with
      | nil => simp
      | cons c l ih =>
        have : c ≠ x := fun e => nl (by simp [e])
        simp only [List.cons_append, List.dropWhile_cons, bne_iff_ne, ne_eq, this, not_false_eq_true, if_true]
        exact ih fun m => nl (List.mem_cons_of_mem _ m)
    have z := congrArg (List.dropWhile (fun y => y != x)) h
    rw [cut _ _ n1, cut _ _ n2] at z
    exact (List.cons.inj z).2
  subst e2
  have A' : Path ls j x (a2.reverse ++ [x]) := by simpa using A.rev sym
  have G := Path.glue B A' fun y m m' => by
    refine no y (List.mem_reverse.mp m) ?_
    rw [eb]; exact List.mem_append_right _ m'
  refine ⟨x, mx, ?_, hx⟩
  rw [u _ _ _ _ Q G]
  simp
end M

/-! What words and lines write: plain Lean. -/
namespace TT
open PySem TL
/-- a digit -/
def dig (c : Nat) : Bool := decide (48 ≤ c) && decide (c ≤ 57)
/-- the number of signs: no sign ahead, no needless 0 -/
def numS : List Nat → Option Nat
  | [] => none
  | c :: r => if ((c :: r).all dig && (r.isEmpty || c != 48)) = true then some (NumText.digitsVal (c :: r)) else none
theorem numS_cons (c : Nat) (r : List Nat) : numS (c :: r) = if ((c :: r).all dig && (r.isEmpty || c != 48)) = true then some (NumText.digitsVal (c :: r)) else none := rfl
def num (w : Str) : Option Nat := numS (tl w)
theorem val_snoc (l : List Nat) (d : Nat) : NumText.digitsVal (l ++ [d]) = NumText.digitsVal l * 10 + (d - 48) := by
  unfold NumText.digitsVal; rw [List.foldl_append]; rfl
theorem dig_iff {c : Nat} : dig c = true ↔ 48 ≤ c ∧ c ≤ 57 := by unfold dig; simp
/-- a number's signs, told back -/
theorem back_L : ∀ (k : Nat) (l : List Nat), l.length = k + 1 → l.all dig = true → (l.head? ≠ some 48 ∨ k = 0) → numL (NumText.digitsVal l) = l ∧ (l.head? ≠ some 48 → 1 ≤ NumText.digitsVal l)
  | 0, [c], _, h, _ => by
    have z := dig_iff.mp (List.all_eq_true.mp h c (by simp))
    have e : NumText.digitsVal [c] = c - 48 := by unfold NumText.digitsVal; simp
    rw [e, numL_lt (by omega)]
    refine ⟨by rw [show 48 + (c - 48) = c by omega], fun n => ?_⟩
    have : c ≠ 48 := fun q => n (by rw [q]; rfl)
    omega
  | k + 1, l, len, h, hh => by
    have ne : l ≠ [] := by intro z; rw [z] at len; simp at len
    obtain ⟨l', d, rfl⟩ : ∃ l' d, l = l' ++ [d] := ⟨l.dropLast, l.getLast ne, (List.dropLast_concat_getLast ne).symm⟩
    have ln : l'.length = k + 1 := by simpa using len
    rw [List.all_append, Bool.and_eq_true] at h
    have hd : l'.head? = (l' ++ [d]).head? := by cases l' with
      | nil => simp at ln
      | cons => rfl
    have nz : l'.head? ≠ some 48 := by rw [hd]; exact hh.elim id (fun z => by omega)
    obtain ⟨b1, b2⟩ := back_L k l' ln h.1 (.inl nz)
    have z := dig_iff.mp (List.all_eq_true.mp h.2 d (by simp))
    have v := b2 nz
    rw [val_snoc, numL_step (by omega), show (NumText.digitsVal l' * 10 + (d - 48)) / 10 = NumText.digitsVal l' by omega, show 48 + (NumText.digitsVal l' * 10 + (d - 48)) % 10 = d by omega, b1]
    exact ⟨rfl, fun _ => by omega⟩
theorem numS_back {l : List Nat} {n : Nat} (h : numS l = some n) : l = numL n := by
  cases l with
  | nil => cases h
  | cons c r =>
    rw [numS_cons] at h
    split at h
    · rename_i q
      rw [Bool.and_eq_true] at q
      cases h
      refine (back_L r.length (c :: r) rfl q.1 ?_).1.symm
      rcases Bool.or_eq_true_iff.mp q.2 with z | z
      · exact .inr (by rw [List.isEmpty_iff.mp z]; rfl)
      · exact .inl (by simpa using z)
    · cases h
theorem head_numL (n : Nat) : 1 ≤ n → (numL n).head? ≠ some 48 := by
  induction n using Nat.strongRecOn with | _ n ih =>
    intro h
    by_cases c : n < 10
    · rw [numL_lt c]; simp; omega
    · rw [numL_step (by omega)]
      have z := ih (n / 10) (by omega) (by omega)
      have ne := numL_ne (n / 10)
      cases e : numL (n / 10) with
      | nil => exact absurd e ne
      | cons a l => rw [e] at z; exact z
theorem numS_of (n : Nat) : numS (numL n) = some n := by
  have d := numL_digits n
  have v := numL_val n
  have ne := numL_ne n
  have hd := head_numL n
  by_cases c : n < 10
  · rw [numL_lt c] at v ⊢
    rw [numS_cons, if_pos (by simp [dig]; omega), v]
  · have hd' := hd (by omega)
    cases e : numL n with
    | nil => exact absurd e ne
    | cons a l =>
      rw [e] at d v hd'
      rw [numS_cons, if_pos, v]
      rw [Bool.and_eq_true, Bool.or_eq_true]
      refine ⟨List.all_eq_true.mpr fun x hx => dig_iff.mpr (d x hx), .inr ?_⟩
      simpa using hd'
/-- what str() writes of a natural number -/
def str (n : Nat) : Str := toString ((n : Nat) : Int)
theorem tl_str (n : Nat) : tl (str n) = numL n := tl_num n
theorem num_back {w : Str} {n : Nat} (h : num w = some n) : w = str n := ext_tl (by rw [tl_str]; exact numS_back h)
theorem num_str (n : Nat) : num (str n) = some n := by unfold num; rw [tl_str]; exact numS_of n
theorem str_free {n s : Nat} (h : s < 48 ∨ 57 < s) : s ∉ tl (str n) := by rw [tl_str]; exact numL_free h
/-! ### cut and joined again -/
theorem spl_ne (S : List Nat) : ∀ (l : List Nat) (k : Nat) (acc : List Nat), spl S k acc l ≠ []
  | [], k, acc => by rw [spl_nil]; simp
  | c :: r, 0, acc => by
    unfold spl
    split
    · simp
    · exact spl_ne S r 0 _
  | c :: r, k + 1, acc => by unfold spl; exact spl_ne S r k acc
theorem pre_one (s c : Nat) (r : List Nat) : pre [s] (c :: r) = decide (c = s) := by
  unfold pre
  rw [Bool.eq_iff_iff]; simp
theorem join_cons {S p : List Nat} {ps : List (List Nat)} (h : ps ≠ []) : joinL S (p :: ps) = p ++ (S ++ joinL S ps) := by
  cases ps with
  | nil => exact absurd rfl h
  | cons q r => rfl
/-- one sign as the separator -/
theorem join_spl (s : Nat) : ∀ (l acc : List Nat), joinL [s] (spl [s] 0 acc l) = acc ++ l
  | [], acc => by rw [spl_nil, List.append_nil]; rfl
  | c :: r, acc => by
    cases e : decide (c = s) with
    | true =>
      rw [spl_hit (by rw [pre_one, e])]
      show joinL [s] (acc :: spl [s] 0 [] r) = _
      rw [join_cons (spl_ne _ _ _ _), join_spl s r [], of_decide_eq_true e]; rfl
    | false =>
      rw [spl_miss (by rw [pre_one, e]), join_spl s r (acc ++ [c]), List.append_assoc]; rfl
theorem spl_free (s : Nat) : ∀ (l acc : List Nat), s ∉ acc → ∀ p ∈ spl [s] 0 acc l, s ∉ p
  | [], acc, h, p, hp => by rw [spl_nil] at hp; rw [List.mem_singleton.mp hp]; exact h
  | c :: r, acc, h, p, hp => by
    cases e : decide (c = s) with
    | true =>
      rw [spl_hit (by rw [pre_one, e])] at hp
      obtain rfl | hp := List.mem_cons.mp hp
      · exact h
      · exact spl_free s r [] (by simp) p hp
    | false =>
      rw [spl_miss (by rw [pre_one, e])] at hp
      refine spl_free s r (acc ++ [c]) (fun z => ?_) p hp
      obtain z | z := List.mem_append.mp z
      · exact h z
      · exact of_decide_eq_false e (List.mem_singleton.mp z).symm
theorem spl_len (s : Nat) : ∀ (l acc : List Nat), (spl [s] 0 acc l).length ≤ l.length + 1
  | [], acc => by rw [spl_nil]; simp
  | c :: r, acc => by
    cases e : decide (c = s) with
    | true =>
      rw [spl_hit (by rw [pre_one, e])]
      have := spl_len s r []
      simp only [List.length_cons, List.length_nil, Nat.sub_self]
      simp at this ⊢; omega
    | false =>
      rw [spl_miss (by rw [pre_one, e])]
      have := spl_len s r (acc ++ [c])
      simp at this ⊢; omega
theorem spl_part_len (s : Nat) : ∀ (l acc : List Nat), ∀ p ∈ spl [s] 0 acc l, p.length ≤ acc.length + l.length
  | [], acc, p, hp => by rw [spl_nil] at hp; rw [List.mem_singleton.mp hp]; simp
  | c :: r, acc, p, hp => by
    cases e : decide (c = s) with
    | true =>
      rw [spl_hit (by rw [pre_one, e])] at hp
      obtain rfl | hp := List.mem_cons.mp hp
      · simp
      · have := spl_part_len s r [] p hp
        simp at this ⊢; omega
    | false =>
      rw [spl_miss (by rw [pre_one, e])] at hp
      have := spl_part_len s r (acc ++ [c]) p hp
      simp at this ⊢; omega
section
variable {y : Str} {s : Nat}
theorem split_tl (ey : tl y = [s]) (hs : s < 256) (x : Str) : (Txt.split x y).map tl = spl [s] 0 [] (tl x) := by
  have hk : y.cps.all (· < 256) = true := by
    rw [← Array.all_toList]
    show (tl y).all (· < 256) = true
    rw [ey]; simpa using hs
  rw [split_spl x y (by rw [ey]; simp) (kind_ok hk), ey]
theorem split_ne (ey : tl y = [s]) (hs : s < 256) (x : Str) : Txt.split x y ≠ [] := fun z => by
  have e := split_tl ey hs x
  rw [z] at e
  exact spl_ne _ _ _ _ e.symm
theorem join_split (ey : tl y = [s]) (hs : s < 256) (x : Str) : Txt.join y (Txt.split x y) = x := by
  refine ext_tl ?_
  rw [join_eq, tl_join, ey, split_tl ey hs x, join_spl]; rfl
theorem split_free (ey : tl y = [s]) (hs : s < 256) (x : Str) : ∀ p ∈ Txt.split x y, s ∉ tl p := fun p hp => by
  refine spl_free s (tl x) [] (by simp) (tl p) ?_
  rw [← split_tl ey hs x]
  exact List.mem_map.mpr ⟨p, hp, rfl⟩
theorem split_len (ey : tl y = [s]) (hs : s < 256) (x : Str) : (Txt.split x y).length ≤ x.length + 1 := by
  have e := congrArg List.length (split_tl ey hs x)
  rw [List.length_map] at e
  rw [e, len_tl x]
  exact spl_len s (tl x) []
theorem split_part (ey : tl y = [s]) (hs : s < 256) (x : Str) : ∀ p ∈ Txt.split x y, p.length ≤ x.length := fun p hp => by
  have z := spl_part_len s (tl x) [] (tl p) (by rw [← split_tl ey hs x]; exact List.mem_map.mpr ⟨p, hp, rfl⟩)
  rw [len_tl p, len_tl x]; simpa using z
theorem split_joined (ey : tl y = [s]) (hs : s < 256) {ps : List Str} (ne : ps ≠ []) (h : ∀ p ∈ ps, s ∉ tl p) : Txt.split (Txt.join y ps) y = ps :=
  TL.split_join ey (by rw [← Array.all_toList]; show (tl y).all (· < 256) = true; rw [ey]; simpa using hs) ne h
end
theorem tl_dash : tl "-" = [45] := by decide +kernel
theorem tl_blank : tl " " = [32] := by decide +kernel
theorem tl_colon : tl ":" = [58] := by decide +kernel
/-- the road that a word writes -/
def road (w : Str) : Option (Nat × Nat) := match (Txt.split w "-").map num with
  | [some a, some b] => some (a, b)
  | _ => none
theorem road_back {w : Str} {a b : Nat} (h : road w = some (a, b)) : Txt.split w "-" = [str a, str b] ∧ w = str a ++ "-" ++ str b := by
  have e : (Txt.split w "-").map num = [some a, some b] := by
    unfold road at h
    split at h
    · rename_i e; cases h; exact e
    · cases h
  have f : Txt.split w "-" = [str a, str b] := by
    generalize Txt.split w "-" = ps at e
    obtain ⟨p, q, is⟩ : ∃ p q, ps = [p, q] := by
      have len := congrArg List.length e
      rw [List.length_map] at len
      cases ps with
      | nil => simp at len
      | cons p ps => cases ps with
        | nil => simp at len
        | cons q ps => cases ps with
          | nil => exact ⟨p, q, rfl⟩
          | cons r ps => simp at len
    subst is
    simp only [List.map_cons, List.map_nil, List.cons.injEq, and_true] at e
    rw [num_back e.1, num_back e.2]
  refine ⟨f, ?_⟩
  have z := join_split tl_dash (by decide) w
  rw [f, join_eq] at z
  exact z.symm
theorem road_of (a b : Nat) : road (str a ++ "-" ++ str b) = some (a, b) := by
  have e : Txt.split (str a ++ "-" ++ str b) "-" = [str a, str b] := by
    have z := split_joined tl_dash (by decide) (ps := [str a, str b]) (by simp) (fun p hp => by
      obtain rfl | hp := List.mem_cons.mp hp
      · exact str_free (.inl (by decide))
      · rw [List.mem_singleton.mp hp]; exact str_free (.inl (by decide)))
    rw [join_eq] at z
    exact z
  unfold road
  rw [e]
  show (match [num (str a), num (str b)] with | [some a, some b] => some (a, b) | _ => none) = _
  rw [num_str, num_str]
/-- the number of houses that a line's first word writes -/
def first (w : Str) : Option Nat := if (tl w).getLast? = some 58 then num ⟨(tl w).dropLast.toArray⟩ else none
theorem first_back {w : Str} {n : Nat} (h : first w = some n) : w = str n ++ ":" := by
  unfold first at h
  split at h
  · rename_i c
    have z := num_back h
    refine ext_tl ?_
    rw [tl_append, ← z, tl_mk, tl_colon]
    have ne : tl w ≠ [] := by intro q; rw [q] at c; cases c
    rw [List.getLast?_eq_some_getLast ne] at c
    have := List.dropLast_concat_getLast ne
    rw [Option.some.inj c] at this
    exact this.symm
  · cases h
theorem first_of (n : Nat) : first (str n ++ ":") = some n := by
  have e : tl (str n ++ ":") = tl (str n) ++ [58] := by rw [tl_append, tl_colon]
  unfold first
  rw [e, if_pos (by simp), List.dropLast_concat, mk_tl, num_str]
def ltP (p q : Nat × Nat) : Bool := decide (p.1 < q.1) || (decide (p.1 = q.1) && decide (p.2 < q.2))
/-- the roads that words write: right ones, ascending -/
structure Roads (n : Nat) (ws : List Str) (rs : List (Nat × Nat)) : Prop where
  eq : ws.map road = rs.map some
  lt : ∀ p ∈ rs, p.1 < p.2 ∧ p.2 < n
  up : rs.Pairwise fun p q => ltP p q = true
theorem map_some_inj {α : Type} : ∀ {l m : List α}, l.map some = m.map some → l = m
  | [], [], _ => rfl
  | [], _ :: _, no => absurd no (by simp)
  | _ :: _, [], no => absurd no (by simp)
  | a :: l, b :: m, h => by
    simp only [List.map_cons, List.cons.injEq, Option.some.injEq] at h
    rw [h.1, map_some_inj h.2]
theorem Roads.one {n : Nat} {ws rs qs} (h : Roads n ws rs) (g : Roads n ws qs) : rs = qs := map_some_inj (h.eq.symm.trans g.eq)
/-- a line's text -/
def line (n : Nat) (rs : List (Nat × Nat)) : Str := Txt.join " " ((str n ++ ":") :: rs.map fun p => str p.1 ++ "-" ++ str p.2)
theorem roads_words {n : Nat} : ∀ {ws : List Str} {rs : List (Nat × Nat)}, ws.map road = rs.map some → ws = rs.map fun p => str p.1 ++ "-" ++ str p.2
  | [], [], _ => rfl
  | [], _ :: _, no => absurd no (by simp)
  | _ :: _, [], no => absurd no (by simp)
  | w :: ws, (a, b) :: rs, h => by
    simp only [List.cons.injEq, List.map_cons] at h
    rw [List.map_cons, ← roads_words (n := n) h.2, (road_back h.1).2]
theorem line_back {z : Str} {f : Str} {ws : List Str} {n : Nat} {rs : List (Nat × Nat)} (h : Txt.split z " " = f :: ws) (hf : first f = some n) (hr : ws.map road = rs.map some) : z = line n rs := by
  have e := join_split tl_blank (by decide) z
  rw [h, first_back hf, roads_words (n := n) hr] at e
  exact e.symm
theorem line_split (n : Nat) (rs : List (Nat × Nat)) : Txt.split (line n rs) " " = (str n ++ ":") :: rs.map fun p => str p.1 ++ "-" ++ str p.2 := by
  refine split_joined tl_blank (by decide) (by simp) fun p hp => ?_
  obtain rfl | hp := List.mem_cons.mp hp
  · rw [tl_append, tl_colon]
    intro z
    obtain z | z := List.mem_append.mp z
    · exact str_free (.inl (by decide)) z
    · simp at z
  · obtain ⟨⟨a, b⟩, _, rfl⟩ := List.mem_map.mp hp
    rw [tl_append, tl_append, tl_dash]
    intro z
    obtain z | z := List.mem_append.mp z
    · obtain z | z := List.mem_append.mp z
      · exact str_free (.inl (by decide)) z
      · simp at z
    · exact str_free (.inl (by decide)) z
theorem line_roads (rs : List (Nat × Nat)) : (rs.map fun p => str p.1 ++ "-" ++ str p.2).map road = rs.map some := by
  rw [List.map_map]
  exact List.map_congr_left fun p _ => road_of p.1 p.2
end TT

/-! Ends and cuts of words. -/
namespace TT
open PySem TL L2
theorem ends_one {y : Str} {s : Nat} (ey : tl y = [s]) (z : Str) : Txt.endswith z y = decide ((tl z).getLast? = some s) := by
  have ly : y.length = 1 := by rw [len_tl, ey]; rfl
  unfold Txt.endswith
  rw [PySem.StrLaws.subAt_eq, ly]
  show (decide (0 + 1 ≤ z.length) && (((tl z).drop (z.length - 1)).take 1 == tl y)) = _
  rw [len_tl z, ey]
  cases h : tl z with
  | nil => rfl
  | cons c r =>
    have ne : c :: r ≠ [] := by simp
    rw [List.getLast?_eq_some_getLast ne]
    have e : (c :: r).drop ((c :: r).length - 1) = [(c :: r).getLast ne] := by
      conv => lhs; rw [← List.dropLast_concat_getLast ne]
      rw [List.length_append, List.length_dropLast, List.length_singleton]
      rw [show (c :: r).length - 1 + 1 - 1 = (c :: r).dropLast.length by rw [List.length_dropLast]; omega]
      exact List.drop_left
    rw [e, Bool.eq_iff_iff]
    simp
theorem cut_last (z : Str) : tl (cutS z none (some (-1))) = (tl z).dropLast := by
  show ((tl z).drop (HT.sIx z.length 0 none)).take (HT.sIx z.length z.length (some (-1)) - HT.sIx z.length 0 none) = _
  have a : HT.sIx z.length 0 none = 0 := rfl
  have b : HT.sIx z.length z.length (some (-1)) = (tl z).length - 1 := by rw [len_tl z]; unfold HT.sIx; simp; omega
  rw [a, b, List.drop_zero, List.dropLast_eq_take]; rfl
theorem first_eq (w : Str) : first w = if Txt.endswith w ":" = true then num (cutS w none (some (-1))) else none := by
  unfold first
  rw [ends_one tl_colon]
  by_cases c : (tl w).getLast? = some 58
  · rw [if_pos c, if_pos (decide_eq_true c)]
    unfold num
    rw [cut_last]
  · rw [if_neg c, if_neg (by rw [decide_eq_false c]; exact Bool.false_ne_true)]
/-- the last sign, as a text -/
theorem cut_end (z : Str) : tl (cutS z (some (-1)) none) = ((tl z).getLast?).toList := by
  show ((tl z).drop (HT.sIx z.length 0 (some (-1)))).take (HT.sIx z.length z.length none - HT.sIx z.length 0 (some (-1))) = _
  have a : HT.sIx z.length 0 (some (-1)) = (tl z).length - 1 := by rw [len_tl z]; unfold HT.sIx; simp; omega
  have b : HT.sIx z.length z.length none = (tl z).length := by rw [len_tl z]; rfl
  rw [a, b]
  cases h : tl z with
  | nil => rfl
  | cons c r =>
    have ne : c :: r ≠ [] := by simp
    rw [List.getLast?_eq_some_getLast ne]
    have e : (c :: r).drop ((c :: r).length - 1) = [(c :: r).getLast ne] := by
      conv => lhs; rw [← List.dropLast_concat_getLast ne]
      rw [List.length_append, List.length_dropLast, List.length_singleton]
      rw [show (c :: r).length - 1 + 1 - 1 = (c :: r).dropLast.length by rw [List.length_dropLast]; omega]
      exact List.drop_left
    rw [e]
    simp
end TT

/-! Texts of plain signs, their lengths. -/
namespace TT
open PySem TL L2
def Asc (z : Str) : Prop := ∀ c ∈ tl z, c < 128
theorem asc_app {x y : Str} (h : Asc x) (g : Asc y) : Asc (x ++ y) := fun c hc => by
  rw [tl_append] at hc
  exact (List.mem_append.mp hc).elim (h c) (g c)
theorem tl_cut (z : Str) (lo hi : Option Int) : tl (cutS z lo hi) = ((tl z).drop (HT.sIx z.length 0 lo)).take (HT.sIx z.length z.length hi - HT.sIx z.length 0 lo) := rfl
theorem asc_cut {z : Str} (lo hi : Option Int) (h : Asc z) : Asc (cutS z lo hi) := fun c hc => by
  rw [tl_cut] at hc
  exact h c (List.mem_of_mem_drop (List.mem_of_mem_take hc))
theorem asc_str (n : Nat) : Asc (str n) := fun c hc => by
  rw [tl_str] at hc
  have := numL_digits n c hc
  omega
theorem asc_of {y : Str} (h : (tl y).all (· < 128) = true) : Asc y := fun c hc => by simpa using List.all_eq_true.mp h c hc
theorem spl_sub (s : Nat) : ∀ (l acc : List Nat), ∀ p ∈ spl [s] 0 acc l, ∀ c ∈ p, c ∈ acc ∨ c ∈ l
  | [], acc, p, hp, c, hc => by rw [spl_nil] at hp; rw [List.mem_singleton.mp hp] at hc; exact .inl hc
  | d :: r, acc, p, hp, c, hc => by
    cases e : decide (d = s) with
    | true =>
      rw [spl_hit (by rw [pre_one, e])] at hp
      obtain rfl | hp := List.mem_cons.mp hp
      · exact .inl hc
      · exact (spl_sub s r [] p hp c hc).elim (fun z => by simp at z) fun z => .inr (List.mem_cons_of_mem _ z)
    | false =>
      rw [spl_miss (by rw [pre_one, e])] at hp
      rcases spl_sub s r (acc ++ [d]) p hp c hc with z | z
      · obtain z | z := List.mem_append.mp z
        · exact .inl z
        · rw [List.mem_singleton.mp z]; exact .inr List.mem_cons_self
      · exact .inr (List.mem_cons_of_mem _ z)
theorem spl_sum (s : Nat) : ∀ (l acc : List Nat), ((spl [s] 0 acc l).map List.length).sum + (spl [s] 0 acc l).length ≤ acc.length + l.length + 1
  | [], acc => by rw [spl_nil]; simp
  | d :: r, acc => by
    cases e : decide (d = s) with
    | true =>
      rw [spl_hit (by rw [pre_one, e])]
      have := spl_sum s r []
      simp only [List.map_cons, List.sum_cons, List.length_cons, List.length_nil, Nat.sub_self] at this ⊢
      simp at this ⊢; omega
    | false =>
      rw [spl_miss (by rw [pre_one, e])]
      have := spl_sum s r (acc ++ [d])
      simp at this ⊢; omega
section
variable {y : Str} {s : Nat}
theorem asc_split (ey : tl y = [s]) (hs : s < 256) {x : Str} (h : Asc x) : ∀ p ∈ Txt.split x y, Asc p := fun p hp c hc => by
  have z := spl_sub s (tl x) [] (tl p) (by rw [← split_tl ey hs x]; exact List.mem_map.mpr ⟨p, hp, rfl⟩) c hc
  exact z.elim (fun z => by simp at z) (h c)
theorem split_sum (ey : tl y = [s]) (hs : s < 256) (x : Str) : ((Txt.split x y).map (·.length)).sum + (Txt.split x y).length ≤ x.length + 1 := by
  have z := spl_sum s (tl x) []
  rw [← split_tl ey hs x, List.map_map, List.length_map] at z
  have e : (Txt.split x y).map (·.length) = (Txt.split x y).map (List.length ∘ tl) := List.map_congr_left fun p _ => len_tl p
  rw [e, len_tl x]
  simpa using z
end
theorem joinL_len (S : List Nat) : ∀ ps : List (List Nat), (joinL S ps).length ≤ (ps.map List.length).sum + ps.length * S.length
  | [] => by simp [joinL]
  | [p] => by simp [joinL]
  | p :: q :: r => by
    have z := joinL_len S (q :: r)
    rw [join_cons (by simp)]
    simp only [List.length_append, List.map_cons, List.sum_cons, List.length_cons, Nat.add_mul, Nat.one_mul] at z ⊢
    omega
theorem joinL_mem (S : List Nat) : ∀ (ps : List (List Nat)) (c : Nat), c ∈ joinL S ps → c ∈ S ∨ ∃ p ∈ ps, c ∈ p
  | [], c, h => by simp [joinL] at h
  | [p], c, h => .inr ⟨p, by simp, h⟩
  | p :: q :: r, c, h => by
    rw [join_cons (by simp)] at h
    obtain h | h := List.mem_append.mp h
    · exact .inr ⟨p, by simp, h⟩
    · obtain h | h := List.mem_append.mp h
      · exact .inl h
      · rcases joinL_mem S (q :: r) c h with z | ⟨u, hu, hc⟩
        · exact .inl z
        · exact .inr ⟨u, List.mem_cons_of_mem _ hu, hc⟩
theorem join_len {y : Str} (ps : List Str) : (Txt.join y ps).length ≤ (ps.map (·.length)).sum + ps.length * y.length := by
  have z := joinL_len (tl y) (ps.map tl)
  rw [← tl_join, ← join_eq, List.map_map, List.length_map] at z
  have e : ps.map (·.length) = ps.map (List.length ∘ tl) := List.map_congr_left fun p _ => len_tl p
  rw [e, len_tl, len_tl y]
  exact z
theorem asc_join {y : Str} {ps : List Str} (hy : Asc y) (h : ∀ p ∈ ps, Asc p) : Asc (Txt.join y ps) := fun c hc => by
  rw [join_eq, tl_join] at hc
  rcases joinL_mem _ _ c hc with z | ⟨q, hq, z⟩
  · exact hy c z
  · obtain ⟨p, hp, rfl⟩ := List.mem_map.mp hq
    exact h p hp c z
theorem asc_blank : Asc " " := asc_of (by decide +kernel)
theorem asc_dash : Asc "-" := asc_of (by decide +kernel)
theorem asc_colon : Asc ":" := asc_of (by decide +kernel)
theorem asc_line (n : Nat) (rs : List (Nat × Nat)) : Asc (line n rs) := asc_join asc_blank fun p hp => by
  obtain rfl | hp := List.mem_cons.mp hp
  · exact asc_app (asc_str n) asc_colon
  · obtain ⟨q, _, rfl⟩ := List.mem_map.mp hp
    exact asc_app (asc_app (asc_str _) asc_dash) (asc_str _)
theorem len_app (x y : Str) : (x ++ y).length = x.length + y.length := by rw [len_tl, tl_append, List.length_append, ← len_tl, ← len_tl]
theorem str2 {n : Nat} (h : n < 100) : (str n).length ≤ 2 := by
  rw [len_tl, tl_str]
  exact numL_len (by decide) (by omega)
theorem line_len {n : Nat} {rs : List (Nat × Nat)} (hn : n < 100) (h : ∀ p ∈ rs, p.1 < 100 ∧ p.2 < 100) : (line n rs).length ≤ 4 + rs.length * 6 := by
  have z := join_len (y := " ") ((str n ++ ":") :: rs.map fun p => str p.1 ++ "-" ++ str p.2)
  have hs : ((rs.map fun p => str p.1 ++ "-" ++ str p.2).map (·.length)).sum ≤ rs.length * 5 := by
    clear z
    induction rs with
    | nil => simp
    | cons p rs ih =>
      have b := h p List.mem_cons_self
      have l1 := str2 b.1
      have l2 := str2 b.2
      have d : ("-" : Str).length = 1 := rfl
      have l0 : (str p.1 ++ "-" ++ str p.2).length ≤ 5 := by rw [len_app, len_app, d]; omega
      have := ih fun q hq => h q (List.mem_cons_of_mem _ hq)
      simp only [List.sum_cons, List.map_cons, List.length_cons]
      omega
  have c : (":" : Str).length = 1 := rfl
  have b : (" " : Str).length = 1 := rfl
  have l0 := str2 hn
  rw [List.map_cons, List.sum_cons, List.length_cons, List.length_map, len_app, b, c] at z
  show (Txt.join " " _).length ≤ _
  omega
end TT

/-! A store's line: plain Lean. -/
namespace TT
open PySem TL L2
theorem tl_dot : tl "." = [46] := by decide +kernel
theorem tl_slash : tl "/" = [47] := by decide +kernel
theorem tl_bar : tl " /" = [32, 47] := by decide +kernel
/-- what a write's word is -/
def wrt (p : Nat × Nat) : Str := str p.1 ++ "." ++ str p.2
/-- a store's line -/
def sline (n : Nat) (rs ws : List (Nat × Nat)) : Str := Txt.join " " (line n rs :: "/" :: ws.map wrt)
/-- what stands behind its bar -/
def tailS (ws : List (Nat × Nat)) : Str := Txt.join " " (Str.empty :: ws.map wrt)
theorem joinL_flat (s : Nat) : ∀ (p : List Nat) (ps : List (List Nat)), joinL [s] (p :: ps) = p ++ ps.flatMap fun q => s :: q
  | p, [] => by simp [joinL]
  | p, q :: r => by
    rw [join_cons (by simp), joinL_flat s q r, List.flatMap_cons]
    simp
theorem tl_joined (p : Str) (ps : List Str) : tl (Txt.join " " (p :: ps)) = tl p ++ ps.flatMap fun q => 32 :: tl q := by
  rw [join_eq, tl_join, tl_blank, List.map_cons, joinL_flat, List.flatMap_map]
theorem sline_tl (n : Nat) (rs ws : List (Nat × Nat)) : tl (sline n rs ws) = tl (line n rs) ++ ([32, 47] ++ tl (tailS ws)) := by
  unfold sline tailS
  rw [tl_joined, tl_joined, List.flatMap_cons, tl_slash]
  show _ = tl (line n rs) ++ ([32, 47] ++ ([] ++ _))
  simp
theorem sline_eq (n : Nat) (rs ws : List (Nat × Nat)) : sline n rs ws = line n rs ++ " /" ++ tailS ws := by
  refine ext_tl ?_
  rw [sline_tl, tl_append, tl_append, tl_bar, List.append_assoc]
/-- the signs of a number -/
theorem str_sign {n c : Nat} (h : c ∈ tl (str n)) : 48 ≤ c ∧ c ≤ 57 := by
  rw [tl_str] at h
  exact numL_digits n c h
theorem line_sign {n : Nat} {rs : List (Nat × Nat)} {c : Nat} (h : c ∈ tl (line n rs)) : (48 ≤ c ∧ c ≤ 58) ∨ c = 32 ∨ c = 45 := by
  unfold line at h
  rw [tl_joined] at h
  obtain h | h := List.mem_append.mp h
  · rw [tl_append, tl_colon] at h
    obtain h | h := List.mem_append.mp h
    · have := str_sign h; omega
    · simp at h; omega
  · obtain ⟨q, hq, h⟩ := List.mem_flatMap.mp h
    obtain ⟨p, _, rfl⟩ := List.mem_map.mp hq
    obtain rfl | h := List.mem_cons.mp h
    · exact .inr (.inl rfl)
    · rw [tl_append, tl_append, tl_dash] at h
      obtain h | h := List.mem_append.mp h
      · obtain h | h := List.mem_append.mp h
        · have := str_sign h; omega
        · simp at h; omega
      · have := str_sign h; omega
theorem wrt_sign {p : Nat × Nat} {c : Nat} (h : c ∈ tl (wrt p)) : (48 ≤ c ∧ c ≤ 57) ∨ c = 46 := by
  unfold wrt at h
  rw [tl_append, tl_append, tl_dot] at h
  obtain h | h := List.mem_append.mp h
  · obtain h | h := List.mem_append.mp h
    · have := str_sign h; omega
    · simp at h; omega
  · have := str_sign h; omega
theorem pre_two (s t c : Nat) (r : List Nat) : pre [s, t] (c :: r) = (decide (c = s) && decide (r.head? = some t)) := by
  unfold pre
  rw [Bool.eq_iff_iff]
  cases r with
  | nil => simp
  | cons d r => simp [and_comm]
/-- the first bar is found -/
theorem par_bar : ∀ (p acc rest : List Nat), 47 ∉ p → par [32, 47] acc (p ++ ([32, 47] ++ rest)) = some (acc ++ p, rest)
  | [], acc, rest, _ => by
    rw [List.nil_append, List.append_nil]
    show par [32, 47] acc (32 :: 47 :: rest) = _
    rw [par_hit (by rw [pre_two]; simp)]; rfl
  | c :: p, acc, rest, h => by
    have hp : 47 ∉ p := fun z => h (List.mem_cons_of_mem _ z)
    rw [List.cons_append, par_miss, par_bar p (acc ++ [c]) rest hp, List.append_assoc]
    · rfl
    · rw [pre_two]
      have : (p ++ ([32, 47] ++ rest)).head? ≠ some 47 := by
        cases p with
        | nil => simp
        | cons d p => intro z; exact hp (by simp at z; simp [z])
      rw [decide_eq_false this, Bool.and_false]
theorem sline_part (n : Nat) (rs ws : List (Nat × Nat)) : Txt.partition (sline n rs ws) " /" = (line n rs, Str.ofString " /", tailS ws) := by
  have free : 47 ∉ tl (line n rs) := fun z => by have := line_sign z; omega
  rw [partition_par _ _ (by rw [tl_bar]; simp), tl_bar, sline_tl, par_bar _ _ _ free]
  rfl
theorem par_len (S : List Nat) : ∀ (l acc a b : List Nat), par S acc l = some (a, b) → a.length ≤ acc.length + l.length ∧ b.length ≤ l.length
  | [], acc, a, b, h => by
    cases h
  | c :: r, acc, a, b, h => by
    cases e : pre S (c :: r) with
    | true =>
      rw [par_hit e] at h
      cases h
      rw [List.length_drop]; omega
    | false =>
      rw [par_miss e] at h
      have := par_len S r (acc ++ [c]) a b h
      simp at this ⊢; omega
theorem part_len (x : Str) {y : Str} (hy : tl y ≠ []) : (Txt.partition x y).1.length ≤ x.length ∧ (Txt.partition x y).2.2.length ≤ x.length := by
  rw [partition_par x y hy]
  cases e : par (tl y) [] (tl x) with
  | none => exact ⟨Nat.le_refl _, Nat.zero_le _⟩
  | some ab =>
    obtain ⟨a, b⟩ := ab
    have z := par_len _ _ _ _ _ e
    rw [List.length_nil, Nat.zero_add, ← len_tl x] at z
    exact ⟨by rw [len_tl, tl_mk]; exact z.1, by rw [len_tl, tl_mk]; exact z.2⟩
theorem tail_split (ws : List (Nat × Nat)) : Txt.split (tailS ws) " " = Str.empty :: ws.map wrt := by
  refine split_joined tl_blank (by decide) (by simp) fun p hp => ?_
  obtain rfl | hp := List.mem_cons.mp hp
  · exact fun z => by simp [tl, Str.empty] at z
  · obtain ⟨q, _, rfl⟩ := List.mem_map.mp hp
    exact fun z => by have := wrt_sign z; omega
theorem wrt_part (p : Nat × Nat) : Txt.partition (wrt p) "." = (str p.1, Str.ofString ".", str p.2) := partition_app tl_dot (str_free (.inl (by decide)))
theorem asc_dot : Asc "." := asc_of (by decide +kernel)
theorem asc_slash : Asc "/" := asc_of (by decide +kernel)
theorem asc_bar : Asc " /" := asc_of (by decide +kernel)
theorem asc_wrt (p : Nat × Nat) : Asc (wrt p) := asc_app (asc_app (asc_str _) asc_dot) (asc_str _)
theorem asc_sline (n : Nat) (rs ws : List (Nat × Nat)) : Asc (sline n rs ws) := asc_join asc_blank fun p hp => by
  obtain rfl | hp := List.mem_cons.mp hp
  · exact asc_line n rs
  obtain rfl | hp := List.mem_cons.mp hp
  · exact asc_slash
  · obtain ⟨q, _, rfl⟩ := List.mem_map.mp hp
    exact asc_wrt q
theorem wrts_len {ws : List (Nat × Nat)} (h : ∀ p ∈ ws, p.1 < 100 ∧ p.2 < 100) : ((ws.map wrt).map (·.length)).sum ≤ ws.length * 5 := by
  induction ws with
  | nil => simp
  | cons p ws ih =>
    have b := h p List.mem_cons_self
    have l1 := str2 b.1
    have l2 := str2 b.2
    have d : ("." : Str).length = 1 := rfl
    have l0 : (wrt p).length ≤ 5 := by unfold wrt; rw [len_app, len_app, d]; omega
    have := ih fun q hq => h q (List.mem_cons_of_mem _ hq)
    simp only [List.sum_cons, List.length_cons, List.map_cons]
    omega
theorem sline_len {n : Nat} {rs ws : List (Nat × Nat)} (hn : n < 100) (h : ∀ p ∈ rs, p.1 < 100 ∧ p.2 < 100) (g : ∀ p ∈ ws, p.1 < 100 ∧ p.2 < 100) : (sline n rs ws).length ≤ 7 + rs.length * 6 + ws.length * 6 := by
  have z := join_len (y := " ") (line n rs :: "/" :: ws.map wrt)
  have a := line_len hn h
  have b := wrts_len g
  have c : ("/" : Str).length = 1 := rfl
  have d : (" " : Str).length = 1 := rfl
  rw [List.map_cons, List.map_cons, List.sum_cons, List.sum_cons, List.length_cons, List.length_cons, List.length_map, c, d] at z
  show (Txt.join " " _).length ≤ _
  omega
/-- the line, written as the law does -/
theorem sline_law (n : Nat) (rs ws : List (Nat × Nat)) : str n ++ ":" ++ Txt.join Str.empty (rs.map fun p => " " ++ str p.1 ++ "-" ++ str p.2) ++ " /" ++ Txt.join Str.empty (ws.map fun p => " " ++ str p.1 ++ "." ++ str p.2) = sline n rs ws := by
  have flat : ∀ ps : List Str, tl (Txt.join Str.empty ps) = ps.flatMap tl := fun ps => by
    rw [join_eq, tl_join]
    show joinL [] _ = _
    have g : ∀ l : List (List Nat), joinL [] l = l.flatMap id := fun l => by
      induction l with
      | nil => rfl
      | cons p r ih =>
        cases r with
        | nil => simp [joinL]
        | cons q r => rw [join_cons (by simp), ih]; simp
    rw [g, List.flatMap_map]; rfl
  refine ext_tl ?_
  rw [sline_tl]
  unfold line tailS
  rw [tl_joined, tl_joined, tl_append, tl_append, tl_append, flat, flat, List.flatMap_map, List.flatMap_map, List.flatMap_map, List.flatMap_map]
  have e1 : ∀ p : Nat × Nat, tl (" " ++ str p.1 ++ "-" ++ str p.2) = 32 :: tl (str p.1 ++ "-" ++ str p.2) := fun p => by
    rw [tl_append, tl_append, tl_append, tl_append, tl_append, tl_blank]; rfl
  have e2 : ∀ p : Nat × Nat, tl (" " ++ str p.1 ++ "." ++ str p.2) = 32 :: tl (wrt p) := fun p => by
    unfold wrt
    rw [tl_append, tl_append, tl_append, tl_append, tl_append, tl_blank]; rfl
  simp only [e1, e2, tl_bar]
  show _ = _ ++ ([32, 47] ++ ([] ++ _))
  simp
end TT

namespace T1
open PySem PySem.Spec PyProof.Rows L2 G
def top (i : Nat) : Stmt := PySem.Challenge.pw_looksleft_k03_stores_and_lines.main.body.getD i (.Pass ⟨0, 0, 0, 0⟩)
abbrev st_InvalidHouses___init__ : Stmt := inClass (top 2) 0
abbrev st_InvalidRoads___init__ : Stmt := inClass (top 3) 0
abbrev st_InvalidHouse___init__ : Stmt := inClass (top 4) 0
abbrev st_InvalidLine___init__ : Stmt := inClass (top 5) 0
abbrev st_InvalidHomes___init__ : Stmt := inClass (top 6) 0
abbrev st_InvalidCells___init__ : Stmt := inClass (top 7) 0
abbrev st_InvalidCell___init__ : Stmt := inClass (top 8) 0
abbrev st_NotJoined___init__ : Stmt := inClass (top 9) 0
abbrev st_is_integer : Stmt := top 12
abbrev st_is_index : Stmt := top 13
abbrev st_is_list : Stmt := top 14
abbrev st_are_indices : Stmt := top 15
abbrev st_count_in : Stmt := top 16
abbrev st_is_road : Stmt := top 19
abbrev st_are_roads : Stmt := top 20
abbrev st_joined_by : Stmt := top 21
abbrev st_ways_from : Stmt := top 22
abbrev st_Tree___init__ : Stmt := inClass (top 23) 0
abbrev st_Tree___eq__ : Stmt := inClass (top 23) 1
abbrev st_Tree___len__ : Stmt := inClass (top 23) 2
abbrev st_Tree___contains__ : Stmt := inClass (top 23) 3
abbrev st_Tree_line : Stmt := inClass (top 23) 4
abbrev st_check_house : Stmt := top 24
abbrev st_numbers_in : Stmt := top 25
abbrev st_read_tree : Stmt := top 26
abbrev st_Store___init__ : Stmt := inClass (top 30) 0
abbrev st_Store___eq__ : Stmt := inClass (top 30) 1
abbrev st_Store___len__ : Stmt := inClass (top 30) 2
abbrev st_Store_line : Stmt := inClass (top 30) 3
abbrev st_check_cell : Stmt := top 31
abbrev st_made_in : Stmt := top 32
abbrev st_written : Stmt := top 33
abbrev st_read_store : Stmt := top 34
abbrev st__law_cell : Stmt := top 36
abbrev st__law_box : Stmt := top 37
abbrev st__law_take : Stmt := top 38
abbrev st__law_mixed : Stmt := top 39
abbrev st__law_tree : Stmt := top 40
abbrev st__law_world : Stmt := top 41
abbrev st__law_text : Stmt := top 42
abbrev st__law_made : Stmt := top 43
abbrev st__law_is : Stmt := top 44
abbrev st__law_lists : Stmt := top 45
abbrev st__law_other : Stmt := top 46
abbrev st__law_wrong_homes : Stmt := top 47
abbrev st__law_wrong_cells : Stmt := top 48
abbrev st__law_caught : Stmt := top 49
abbrev st__law_very : Stmt := top 50
abbrev st__law_refused : Stmt := top 51
abbrev st__law_barred : Stmt := top 52
abbrev st__law_doors : Stmt := top 53
abbrev st__law_number : Stmt := top 54
abbrev st__law_is_tree : Stmt := top 55
abbrev st__law_read : Stmt := top 56
abbrev st__law_spoilt : Stmt := top 57
abbrev st__law_lined : Stmt := top 58
abbrev st__law_lines : Stmt := top 59
abbrev st__law_right : Stmt := top 60
abbrev st_law : Stmt := top 61
def dfn_0 : List He.DefD := [
  ⟨("InvalidHouses", some "__init__"), "__init__", "InvalidHouses.__init__", defArgs st_InvalidHouses___init__, defBody st_InvalidHouses___init__, defScope st_InvalidHouses___init__, [], []⟩,
  ⟨("InvalidRoads", some "__init__"), "__init__", "InvalidRoads.__init__", defArgs st_InvalidRoads___init__, defBody st_InvalidRoads___init__, defScope st_InvalidRoads___init__, [], []⟩,
  ⟨("InvalidHouse", some "__init__"), "__init__", "InvalidHouse.__init__", defArgs st_InvalidHouse___init__, defBody st_InvalidHouse___init__, defScope st_InvalidHouse___init__, [], []⟩,
  ⟨("InvalidLine", some "__init__"), "__init__", "InvalidLine.__init__", defArgs st_InvalidLine___init__, defBody st_InvalidLine___init__, defScope st_InvalidLine___init__, [], []⟩,
  ⟨("InvalidHomes", some "__init__"), "__init__", "InvalidHomes.__init__", defArgs st_InvalidHomes___init__, defBody st_InvalidHomes___init__, defScope st_InvalidHomes___init__, [], []⟩,
  ⟨("InvalidCells", some "__init__"), "__init__", "InvalidCells.__init__", defArgs st_InvalidCells___init__, defBody st_InvalidCells___init__, defScope st_InvalidCells___init__, [], []⟩,
  ⟨("InvalidCell", some "__init__"), "__init__", "InvalidCell.__init__", defArgs st_InvalidCell___init__, defBody st_InvalidCell___init__, defScope st_InvalidCell___init__, [], []⟩,
  ⟨("NotJoined", some "__init__"), "__init__", "NotJoined.__init__", defArgs st_NotJoined___init__, defBody st_NotJoined___init__, defScope st_NotJoined___init__, [], []⟩,
  ⟨("is_integer", none), "is_integer", "is_integer", defArgs st_is_integer, defBody st_is_integer, defScope st_is_integer, [], []⟩,
  ⟨("is_index", none), "is_index", "is_index", defArgs st_is_index, defBody st_is_index, defScope st_is_index, [], []⟩,
  ⟨("is_list", none), "is_list", "is_list", defArgs st_is_list, defBody st_is_list, defScope st_is_list, [], []⟩,
  ⟨("are_indices", none), "are_indices", "are_indices", defArgs st_are_indices, defBody st_are_indices, defScope st_are_indices, [], []⟩,
  ⟨("count_in", none), "count_in", "count_in", defArgs st_count_in, defBody st_count_in, defScope st_count_in, [], []⟩,
  ⟨("is_road", none), "is_road", "is_road", defArgs st_is_road, defBody st_is_road, defScope st_is_road, [], []⟩,
  ⟨("are_roads", none), "are_roads", "are_roads", defArgs st_are_roads, defBody st_are_roads, defScope st_are_roads, [], []⟩,
  ⟨("joined_by", none), "joined_by", "joined_by", defArgs st_joined_by, defBody st_joined_by, defScope st_joined_by, [], []⟩,
  ⟨("ways_from", none), "ways_from", "ways_from", defArgs st_ways_from, defBody st_ways_from, defScope st_ways_from, [], []⟩,
  ⟨("Tree", some "__init__"), "__init__", "Tree.__init__", defArgs st_Tree___init__, defBody st_Tree___init__, defScope st_Tree___init__, [], []⟩,
  ⟨("Tree", some "__eq__"), "__eq__", "Tree.__eq__", defArgs st_Tree___eq__, defBody st_Tree___eq__, defScope st_Tree___eq__, [], []⟩,
  ⟨("Tree", some "__len__"), "__len__", "Tree.__len__", defArgs st_Tree___len__, defBody st_Tree___len__, defScope st_Tree___len__, [], []⟩,
  ⟨("Tree", some "__contains__"), "__contains__", "Tree.__contains__", defArgs st_Tree___contains__, defBody st_Tree___contains__, defScope st_Tree___contains__, [], []⟩,
  ⟨("Tree", some "line"), "line", "Tree.line", defArgs st_Tree_line, defBody st_Tree_line, defScope st_Tree_line, [], []⟩,
  ⟨("check_house", none), "check_house", "check_house", defArgs st_check_house, defBody st_check_house, defScope st_check_house, [], []⟩,
  ⟨("numbers_in", none), "numbers_in", "numbers_in", defArgs st_numbers_in, defBody st_numbers_in, defScope st_numbers_in, [], []⟩,
  ⟨("read_tree", none), "read_tree", "read_tree", defArgs st_read_tree, defBody st_read_tree, defScope st_read_tree, [], []⟩]
def dfn_1 : List He.DefD := [
  ⟨("Store", some "__init__"), "__init__", "Store.__init__", defArgs st_Store___init__, defBody st_Store___init__, defScope st_Store___init__, [], [("cells", .non)]⟩,
  ⟨("Store", some "__eq__"), "__eq__", "Store.__eq__", defArgs st_Store___eq__, defBody st_Store___eq__, defScope st_Store___eq__, [], []⟩,
  ⟨("Store", some "__len__"), "__len__", "Store.__len__", defArgs st_Store___len__, defBody st_Store___len__, defScope st_Store___len__, [], []⟩,
  ⟨("Store", some "line"), "line", "Store.line", defArgs st_Store_line, defBody st_Store_line, defScope st_Store_line, [], []⟩,
  ⟨("check_cell", none), "check_cell", "check_cell", defArgs st_check_cell, defBody st_check_cell, defScope st_check_cell, [], []⟩,
  ⟨("made_in", none), "made_in", "made_in", defArgs st_made_in, defBody st_made_in, defScope st_made_in, [], []⟩,
  ⟨("written", none), "written", "written", defArgs st_written, defBody st_written, defScope st_written, [], []⟩,
  ⟨("read_store", none), "read_store", "read_store", defArgs st_read_store, defBody st_read_store, defScope st_read_store, [], []⟩,
  ⟨("_law_cell", none), "_law_cell", "_law_cell", defArgs st__law_cell, defBody st__law_cell, defScope st__law_cell, [], []⟩,
  ⟨("_law_box", none), "_law_box", "_law_box", defArgs st__law_box, defBody st__law_box, defScope st__law_box, [], []⟩,
  ⟨("_law_take", none), "_law_take", "_law_take", defArgs st__law_take, defBody st__law_take, defScope st__law_take, [], []⟩,
  ⟨("_law_mixed", none), "_law_mixed", "_law_mixed", defArgs st__law_mixed, defBody st__law_mixed, defScope st__law_mixed, [], []⟩,
  ⟨("_law_tree", none), "_law_tree", "_law_tree", defArgs st__law_tree, defBody st__law_tree, defScope st__law_tree, [], []⟩,
  ⟨("_law_world", none), "_law_world", "_law_world", defArgs st__law_world, defBody st__law_world, defScope st__law_world, [], []⟩,
  ⟨("_law_text", none), "_law_text", "_law_text", defArgs st__law_text, defBody st__law_text, defScope st__law_text, [], []⟩,
  ⟨("_law_made", none), "_law_made", "_law_made", defArgs st__law_made, defBody st__law_made, defScope st__law_made, [], []⟩,
  ⟨("_law_is", none), "_law_is", "_law_is", defArgs st__law_is, defBody st__law_is, defScope st__law_is, [], []⟩,
  ⟨("_law_lists", none), "_law_lists", "_law_lists", defArgs st__law_lists, defBody st__law_lists, defScope st__law_lists, [], []⟩,
  ⟨("_law_other", none), "_law_other", "_law_other", defArgs st__law_other, defBody st__law_other, defScope st__law_other, [], []⟩,
  ⟨("_law_wrong_homes", none), "_law_wrong_homes", "_law_wrong_homes", defArgs st__law_wrong_homes, defBody st__law_wrong_homes, defScope st__law_wrong_homes, [], []⟩,
  ⟨("_law_wrong_cells", none), "_law_wrong_cells", "_law_wrong_cells", defArgs st__law_wrong_cells, defBody st__law_wrong_cells, defScope st__law_wrong_cells, [], []⟩,
  ⟨("_law_caught", none), "_law_caught", "_law_caught", defArgs st__law_caught, defBody st__law_caught, defScope st__law_caught, [], []⟩,
  ⟨("_law_very", none), "_law_very", "_law_very", defArgs st__law_very, defBody st__law_very, defScope st__law_very, [], []⟩,
  ⟨("_law_refused", none), "_law_refused", "_law_refused", defArgs st__law_refused, defBody st__law_refused, defScope st__law_refused, [], []⟩,
  ⟨("_law_barred", none), "_law_barred", "_law_barred", defArgs st__law_barred, defBody st__law_barred, defScope st__law_barred, [], []⟩]
def dfn_2 : List He.DefD := [
  ⟨("_law_doors", none), "_law_doors", "_law_doors", defArgs st__law_doors, defBody st__law_doors, defScope st__law_doors, [], []⟩,
  ⟨("_law_number", none), "_law_number", "_law_number", defArgs st__law_number, defBody st__law_number, defScope st__law_number, [], []⟩,
  ⟨("_law_is_tree", none), "_law_is_tree", "_law_is_tree", defArgs st__law_is_tree, defBody st__law_is_tree, defScope st__law_is_tree, [], []⟩,
  ⟨("_law_read", none), "_law_read", "_law_read", defArgs st__law_read, defBody st__law_read, defScope st__law_read, [], []⟩,
  ⟨("_law_spoilt", none), "_law_spoilt", "_law_spoilt", defArgs st__law_spoilt, defBody st__law_spoilt, defScope st__law_spoilt, [], []⟩,
  ⟨("_law_lined", none), "_law_lined", "_law_lined", defArgs st__law_lined, defBody st__law_lined, defScope st__law_lined, [], []⟩,
  ⟨("_law_lines", none), "_law_lines", "_law_lines", defArgs st__law_lines, defBody st__law_lines, defScope st__law_lines, [], []⟩,
  ⟨("_law_right", none), "_law_right", "_law_right", defArgs st__law_right, defBody st__law_right, defScope st__law_right, [], []⟩,
  ⟨("law", none), "law", "law", defArgs st_law, defBody st_law, defScope st_law, [], []⟩]
def dfn : List He.DefD := dfn_0 ++ dfn_1 ++ dfn_2
def dfa_0 : List He.Fa := [
  .glo "LeftError",
  .glo "InvalidHouses",
  .glo "InvalidRoads",
  .glo "InvalidHouse",
  .glo "InvalidLine",
  .glo "InvalidHomes",
  .glo "InvalidCells",
  .glo "InvalidCell",
  .glo "NotJoined",
  .glo "Tree",
  .glo "Store",
  .glo "is_integer",
  .glo "is_index",
  .glo "is_list",
  .glo "are_indices",
  .glo "count_in",
  .glo "is_road",
  .glo "are_roads",
  .glo "joined_by",
  .glo "ways_from",
  .glo "check_house",
  .glo "numbers_in",
  .glo "read_tree",
  .glo "check_cell",
  .glo "made_in",
  .glo "written",
  .glo "read_store",
  .glo "_law_cell",
  .glo "_law_box",
  .glo "_law_take"]
def dfa_1 : List He.Fa := [
  .glo "_law_mixed",
  .glo "_law_tree",
  .glo "_law_world",
  .glo "_law_text",
  .glo "_law_made",
  .glo "_law_is",
  .glo "_law_lists",
  .glo "_law_other",
  .glo "_law_wrong_homes",
  .glo "_law_wrong_cells",
  .glo "_law_caught",
  .glo "_law_very",
  .glo "_law_refused",
  .glo "_law_barred",
  .glo "_law_doors",
  .glo "_law_number",
  .glo "_law_is_tree",
  .glo "_law_read",
  .glo "_law_spoilt",
  .glo "_law_lined",
  .glo "_law_lines",
  .glo "_law_right",
  .glo "law",
  .free "ValueError",
  .free "abs",
  .free "all",
  .free "bool",
  .free "enumerate",
  .free "int",
  .free "isinstance"]
def dfa_2 : List He.Fa := [
  .free "len",
  .free "list",
  .free "max",
  .free "min",
  .free "range",
  .free "repr",
  .free "set",
  .free "sorted",
  .free "str",
  .free "sum",
  .free "tuple",
  .free "zip",
  .str "DIGITS" "0123456789",
  .int "MOST_HOUSES" 16,
  .int "MOST_WRITES" 12,
  .int "CELLS" 6,
  .cls "Tree",
  .mkr "Tree",
  .meth "Tree" "__eq__",
  .meth "Tree" "__len__",
  .meth "Tree" "__contains__",
  .meth "Tree" "line",
  .noat "Tree" "houses",
  .noat "Tree" "near",
  .noat "Tree" "roads",
  .noat "Tree" "ways",
  .cls "Store",
  .mkr "Store",
  .meth "Store" "__eq__",
  .meth "Store" "__len__"]
def dfa_3 : List He.Fa := [
  .meth "Store" "line",
  .noat "Store" "cells",
  .noat "Store" "homes",
  .noat "Store" "tree"]
def dfa : List He.Fa := dfa_0 ++ dfa_1 ++ dfa_2 ++ dfa_3
def errs : List (Str × List Str) := [("InvalidHouses", ["given"]), ("InvalidRoads", ["given"]), ("InvalidHouse", ["given"]), ("InvalidLine", ["given"]), ("InvalidHomes", ["given"]), ("InvalidCells", ["given"]), ("InvalidCell", ["given"]), ("NotJoined", ["house"])]
def excs : List Str := ["InvalidHouses", "InvalidRoads", "InvalidHouse", "InvalidLine", "InvalidHomes", "InvalidCells", "InvalidCell", "NotJoined", "LeftError"]
/-- which error an except clause takes -/
def exmB (K : PySem.W.Frag) : Bool := errs.all fun p => excs.all fun y => decide (PySem.W.exmOne K (.ref (He.ga K p.1)) (.ref (He.ga K y)) = some (decide (p.1 = y) || decide (y = "LeftError")))
def owns : List Str := ["Tree", "Store"]
/-- an own instance is no list, tuple or text -/
def seqB (K : PySem.W.Frag) (x : Str) : Bool := ["list", "tuple", "str"].all fun T => decide (PySem.W.kitOne K (.ref (He.ga K x)) (.type T) = some false)
/-- what the package's errors are instances of -/
def excB (K : PySem.W.Frag) (x : Str) : Bool :=
  ([("__getattribute__", some (.builtin "BaseException.__getattribute__")), ("__getattr__", none), ("__class__", some (.builtin "object.__class__"))] : List (Str × Option Value)).all (fun p => decide (PySem.W.findIn K (.ref (He.ga K x)) p.1 = some p.2)) &&
  (decide (PySem.W.specialIn K (.builtin "object.__class__") "__get__" = some (some (.builtin "getset_descriptor.__get__"))) && (decide (PySem.W.takesIn K (.builtin "object.__class__") = some true) && (decide (PySem.W.mroIn K (He.ga K x) (.type "object") = some true) &&
  (decide (PySem.W.subIn K (.ref (He.ga K x)) (.type "BaseException") = some true) && (PySem.W.hasDictIn K (He.ga K x) && [.ref (He.ga K "LeftError"), .type "ValueError"].all fun c => decide (PySem.W.kitOne K (.ref (He.ga K x)) c = some true))))))
def more (K : PySem.W.Frag) : Bool := smB K && (parB K && (errs.all (errB K) && (exmB K && (owns.all (ownB owns K) && (owns.all (seqB K) && errs.all fun p => excB K p.1)))))
abbrev Says (K : PySem.W.Frag) : Prop := SaysM dfa dfn more K
abbrev R : PySem.W.OpenRow := PySem.W.OpenLaw.row PySem.Challenge.rw_looksleft_k03_stores_and_lines
abbrev hk : PySem.W.Hook := hookM 6 dfa dfn more
def ob (s : PySem.W.SharedT) : AlM := obM 6 dfa dfn more s
theorem ob_eq (s : PySem.W.SharedT) : ob s = hk.obs s.abs := obM_eq 6 dfa dfn more s
def names0 : List Str := ["LeftError", "InvalidHouses", "InvalidRoads", "InvalidHouse", "InvalidLine", "InvalidHomes", "InvalidCells", "InvalidCell", "NotJoined", "DIGITS", "is_integer", "is_index", "is_list", "are_indices", "count_in", "MOST_HOUSES", "is_road", "are_roads", "joined_by", "ways_from", "Tree", "check_house", "numbers_in", "read_tree", "MOST_WRITES", "CELLS", "Store", "check_cell", "made_in", "written"]
def names1 : List Str := ["read_store", "_law_cell", "_law_box", "_law_take", "_law_mixed", "_law_tree", "_law_world", "_law_text", "_law_made", "_law_is", "_law_lists", "_law_other", "_law_wrong_homes", "_law_wrong_cells", "_law_caught", "_law_very", "_law_refused", "_law_barred", "_law_doors", "_law_number", "_law_is_tree", "_law_read", "_law_spoilt", "_law_lined", "_law_lines", "_law_right"]
def names : List Str := names0 ++ names1
theorem run (w : World) : HandSHeadRun.RunEq R (PySem.W.view R.prog [61]) hk ob 30000 names w := by
  intro os
  kernel_rfl
def globs_0 : List Str := ["LeftError", "InvalidHouses", "InvalidRoads", "InvalidHouse", "InvalidLine", "InvalidHomes", "InvalidCells", "InvalidCell", "NotJoined", "Tree", "Store", "is_integer", "is_index", "is_list", "are_indices", "count_in", "is_road", "are_roads", "joined_by", "ways_from", "check_house", "numbers_in", "read_tree", "check_cell", "made_in", "written", "read_store", "_law_cell", "_law_box", "_law_take"]
def globs_1 : List Str := ["_law_mixed", "_law_tree", "_law_world", "_law_text", "_law_made", "_law_is", "_law_lists", "_law_other", "_law_wrong_homes", "_law_wrong_cells", "_law_caught", "_law_very", "_law_refused", "_law_barred", "_law_doors", "_law_number", "_law_is_tree", "_law_read", "_law_spoilt", "_law_lined", "_law_lines", "_law_right", "law"]
def globs : List Str := globs_0 ++ globs_1
def frees_0 : List Str := ["ValueError", "abs", "all", "bool", "enumerate", "int", "isinstance", "len", "list", "max", "min", "range", "repr", "set", "sorted", "str", "sum", "tuple", "zip"]
def frees : List Str := frees_0
structure Tx (K : PySem.W.Frag) (mg : Str → Option Value) : Prop where
  s : Says K
  glo : ∀ (i : Nat) {x : Str}, globs[i]? = some x → mg x = some (.ref (He.ga K x))
  free : ∀ (i : Nat) {x : Str}, frees[i]? = some x → mg x = none
  con_DIGITS : ∃ t, mg "DIGITS" = some (.str "0123456789" t)
  con_MOST_HOUSES : ∃ t, mg "MOST_HOUSES" = some (.int 16 t)
  con_MOST_WRITES : ∃ t, mg "MOST_WRITES" = some (.int 12 t)
  con_CELLS : ∃ t, mg "CELLS" = some (.int 6 t)
section
variable {h : Heap} {mg : Str → Option Value} {K : PySem.W.Frag}
theorem glo_at (X : K.In h) (G : h.Ns mainGlobals mg) : ∀ (l : List Str), (l.map He.Fa.glo).all (fun f => f.ok K) = true → ∀ (i : Nat) {x : Str}, l[i]? = some x → mg x = some (.ref (He.ga K x))
  | [], _, i, x, e => by simp at e
  | a :: l, c, 0, x, e => by
    simp at e; subst e
    simp only [List.map_cons, List.all_cons, Bool.and_eq_true] at c
    exact He.glo_ok X G c.1
  | a :: l, c, i + 1, x, e => by
    simp only [List.map_cons, List.all_cons, Bool.and_eq_true] at c
    exact glo_at X G l c.2 i (by simpa using e)
theorem free_at (X : K.In h) (G : h.Ns mainGlobals mg) : ∀ (l : List Str), (l.map He.Fa.free).all (fun f => f.ok K) = true → ∀ (i : Nat) {x : Str}, l[i]? = some x → mg x = none
  | [], _, i, x, e => by simp at e
  | a :: l, c, 0, x, e => by
    simp at e; subst e
    simp only [List.map_cons, List.all_cons, Bool.and_eq_true] at c
    exact He.free_ok X G c.1
  | a :: l, c, i + 1, x, e => by
    simp only [List.map_cons, List.all_cons, Bool.and_eq_true] at c
    exact free_at X G l c.2 i (by simpa using e)
theorem all_dfa (c : Says K) : dfa.all (fun f => f.ok K) = true := by
  have z := (Prod.mk.inj (SaysM.d c)).1
  exact (He.ba (show (dfa.all (fun f => f.ok K) && dfn.all (fun d => d.ok K)) = true from z)).1
theorem all_sub {l : List He.Fa} (c : Says K) (n m : Nat) (e : (dfa.drop n).take m = l) : l.all (fun f => f.ok K) = true := by
  have z := all_dfa c
  rw [List.all_eq_true] at z ⊢
  intro f hf
  rw [← e] at hf
  exact z f (List.mem_of_mem_drop (List.mem_of_mem_take hf))
theorem tx_of (X : K.In h) (G : h.Ns mainGlobals mg) (c : Says K) : Tx K mg :=
  ⟨c, glo_at X G globs (all_sub c 0 53 rfl), free_at X G frees (all_sub c 53 19 rfl), (let ⟨t, z⟩ := He.str_ok X G (SaysM.d c |>.fact 72 (f := .str "DIGITS" "0123456789") rfl); ⟨t, z⟩), (let ⟨t, z⟩ := He.int_ok X G (SaysM.d c |>.fact 73 (f := .int "MOST_HOUSES" 16) rfl); ⟨t, z⟩), (let ⟨t, z⟩ := He.int_ok X G (SaysM.d c |>.fact 74 (f := .int "MOST_WRITES" 12) rfl); ⟨t, z⟩), (let ⟨t, z⟩ := He.int_ok X G (SaysM.d c |>.fact 75 (f := .int "CELLS" 6) rfl); ⟨t, z⟩)⟩
variable (T : Tx K mg)
include T
theorem Tx.sm : Sm K := smB_ok (He.ba T.s.m).1
theorem Tx.par : ParC K mg (He.ga K "LeftError") := parB_ok (He.ba (He.ba T.s.m).2).1 (T.glo 0 rfl)
theorem Tx.err (i : Nat) {x : Str} {fs : List Str} (e : errs[i]? = some (x, fs)) : ErrF K x fs :=
  errB_ok (List.all_eq_true.mp (He.ba (He.ba (He.ba T.s.m).2).2).1 _ (List.mem_of_getElem? e))
theorem Tx.exm {x y : Str} {fs : List Str} {b : Bool} (i j : Nat) (e : errs[i]? = some (x, fs)) (e' : excs[j]? = some y) (hb : (decide (x = y) || decide (y = "LeftError")) = b) : PySem.W.exmOne K (.ref (He.ga K x)) (.ref (He.ga K y)) = some b := by
  have z := List.all_eq_true.mp (List.all_eq_true.mp (He.ba (He.ba (He.ba (He.ba T.s.m).2).2).2).1 _ (List.mem_of_getElem? e)) _ (List.mem_of_getElem? e')
  rw [of_decide_eq_true z, hb]
theorem Tx.own (i : Nat) {x : Str} (e : owns[i]? = some x) : OwnF owns K x :=
  ownB_ok (List.all_eq_true.mp (He.ba (He.ba (He.ba (He.ba (He.ba T.s.m).2).2).2).2).1 _ (List.mem_of_getElem? e))
theorem Tx.seq (i : Nat) {x : Str} (e : owns[i]? = some x) : ∀ t ∈ (["list", "tuple", "str"] : List String), PySem.W.kitOne K (.ref (He.ga K x)) (.type t) = some false := fun t m =>
  of_decide_eq_true (List.all_eq_true.mp (List.all_eq_true.mp (He.ba (He.ba (He.ba (He.ba (He.ba (He.ba T.s.m).2).2).2).2).2).1 _ (List.mem_of_getElem? e)) t m)
theorem Tx.exc (i : Nat) {x : Str} {fs : List Str} (e : errs[i]? = some (x, fs)) : excB K x = true :=
  List.all_eq_true.mp (He.ba (He.ba (He.ba (He.ba (He.ba (He.ba T.s.m).2).2).2).2).2).2 _ (List.mem_of_getElem? e)
theorem Tx.fd (i : Nat) {d : He.DefD} (e : dfn[i]? = some d) : ∃ fd, FunD K d.name d.qual d.params d.body d.scope (d.dvs K) (d.kws K) (He.fAd K d.at_) fd := (SaysM.d T.s).def_ i e
theorem Tx.fa (i : Nat) {f : He.Fa} (e : dfa[i]? = some f) : f.ok K = true := (SaysM.d T.s).fact i e
theorem fD_InvalidHouses___init__ : ∃ fd, FunD K "__init__" "InvalidHouses.__init__" (defArgs st_InvalidHouses___init__) (defBody st_InvalidHouses___init__) (defScope st_InvalidHouses___init__) [] [] (He.ma K (He.ga K "InvalidHouses") "__init__") fd := T.fd 0 rfl
theorem fD_InvalidRoads___init__ : ∃ fd, FunD K "__init__" "InvalidRoads.__init__" (defArgs st_InvalidRoads___init__) (defBody st_InvalidRoads___init__) (defScope st_InvalidRoads___init__) [] [] (He.ma K (He.ga K "InvalidRoads") "__init__") fd := T.fd 1 rfl
theorem fD_InvalidHouse___init__ : ∃ fd, FunD K "__init__" "InvalidHouse.__init__" (defArgs st_InvalidHouse___init__) (defBody st_InvalidHouse___init__) (defScope st_InvalidHouse___init__) [] [] (He.ma K (He.ga K "InvalidHouse") "__init__") fd := T.fd 2 rfl
theorem fD_InvalidLine___init__ : ∃ fd, FunD K "__init__" "InvalidLine.__init__" (defArgs st_InvalidLine___init__) (defBody st_InvalidLine___init__) (defScope st_InvalidLine___init__) [] [] (He.ma K (He.ga K "InvalidLine") "__init__") fd := T.fd 3 rfl
theorem fD_InvalidHomes___init__ : ∃ fd, FunD K "__init__" "InvalidHomes.__init__" (defArgs st_InvalidHomes___init__) (defBody st_InvalidHomes___init__) (defScope st_InvalidHomes___init__) [] [] (He.ma K (He.ga K "InvalidHomes") "__init__") fd := T.fd 4 rfl
theorem fD_InvalidCells___init__ : ∃ fd, FunD K "__init__" "InvalidCells.__init__" (defArgs st_InvalidCells___init__) (defBody st_InvalidCells___init__) (defScope st_InvalidCells___init__) [] [] (He.ma K (He.ga K "InvalidCells") "__init__") fd := T.fd 5 rfl
theorem fD_InvalidCell___init__ : ∃ fd, FunD K "__init__" "InvalidCell.__init__" (defArgs st_InvalidCell___init__) (defBody st_InvalidCell___init__) (defScope st_InvalidCell___init__) [] [] (He.ma K (He.ga K "InvalidCell") "__init__") fd := T.fd 6 rfl
theorem fD_NotJoined___init__ : ∃ fd, FunD K "__init__" "NotJoined.__init__" (defArgs st_NotJoined___init__) (defBody st_NotJoined___init__) (defScope st_NotJoined___init__) [] [] (He.ma K (He.ga K "NotJoined") "__init__") fd := T.fd 7 rfl
theorem fD_is_integer : ∃ fd, FunD K "is_integer" "is_integer" (defArgs st_is_integer) (defBody st_is_integer) (defScope st_is_integer) [] [] (He.ga K "is_integer") fd := T.fd 8 rfl
theorem fD_is_index : ∃ fd, FunD K "is_index" "is_index" (defArgs st_is_index) (defBody st_is_index) (defScope st_is_index) [] [] (He.ga K "is_index") fd := T.fd 9 rfl
theorem fD_is_list : ∃ fd, FunD K "is_list" "is_list" (defArgs st_is_list) (defBody st_is_list) (defScope st_is_list) [] [] (He.ga K "is_list") fd := T.fd 10 rfl
theorem fD_are_indices : ∃ fd, FunD K "are_indices" "are_indices" (defArgs st_are_indices) (defBody st_are_indices) (defScope st_are_indices) [] [] (He.ga K "are_indices") fd := T.fd 11 rfl
theorem fD_count_in : ∃ fd, FunD K "count_in" "count_in" (defArgs st_count_in) (defBody st_count_in) (defScope st_count_in) [] [] (He.ga K "count_in") fd := T.fd 12 rfl
theorem fD_is_road : ∃ fd, FunD K "is_road" "is_road" (defArgs st_is_road) (defBody st_is_road) (defScope st_is_road) [] [] (He.ga K "is_road") fd := T.fd 13 rfl
theorem fD_are_roads : ∃ fd, FunD K "are_roads" "are_roads" (defArgs st_are_roads) (defBody st_are_roads) (defScope st_are_roads) [] [] (He.ga K "are_roads") fd := T.fd 14 rfl
theorem fD_joined_by : ∃ fd, FunD K "joined_by" "joined_by" (defArgs st_joined_by) (defBody st_joined_by) (defScope st_joined_by) [] [] (He.ga K "joined_by") fd := T.fd 15 rfl
theorem fD_ways_from : ∃ fd, FunD K "ways_from" "ways_from" (defArgs st_ways_from) (defBody st_ways_from) (defScope st_ways_from) [] [] (He.ga K "ways_from") fd := T.fd 16 rfl
theorem fD_Tree___init__ : ∃ fd, FunD K "__init__" "Tree.__init__" (defArgs st_Tree___init__) (defBody st_Tree___init__) (defScope st_Tree___init__) [] [] (He.ma K (He.ga K "Tree") "__init__") fd := T.fd 17 rfl
theorem fD_Tree___eq__ : ∃ fd, FunD K "__eq__" "Tree.__eq__" (defArgs st_Tree___eq__) (defBody st_Tree___eq__) (defScope st_Tree___eq__) [] [] (He.ma K (He.ga K "Tree") "__eq__") fd := T.fd 18 rfl
theorem fD_Tree___len__ : ∃ fd, FunD K "__len__" "Tree.__len__" (defArgs st_Tree___len__) (defBody st_Tree___len__) (defScope st_Tree___len__) [] [] (He.ma K (He.ga K "Tree") "__len__") fd := T.fd 19 rfl
theorem fD_Tree___contains__ : ∃ fd, FunD K "__contains__" "Tree.__contains__" (defArgs st_Tree___contains__) (defBody st_Tree___contains__) (defScope st_Tree___contains__) [] [] (He.ma K (He.ga K "Tree") "__contains__") fd := T.fd 20 rfl
theorem fD_Tree_line : ∃ fd, FunD K "line" "Tree.line" (defArgs st_Tree_line) (defBody st_Tree_line) (defScope st_Tree_line) [] [] (He.ma K (He.ga K "Tree") "line") fd := T.fd 21 rfl
theorem fD_check_house : ∃ fd, FunD K "check_house" "check_house" (defArgs st_check_house) (defBody st_check_house) (defScope st_check_house) [] [] (He.ga K "check_house") fd := T.fd 22 rfl
theorem fD_numbers_in : ∃ fd, FunD K "numbers_in" "numbers_in" (defArgs st_numbers_in) (defBody st_numbers_in) (defScope st_numbers_in) [] [] (He.ga K "numbers_in") fd := T.fd 23 rfl
theorem fD_read_tree : ∃ fd, FunD K "read_tree" "read_tree" (defArgs st_read_tree) (defBody st_read_tree) (defScope st_read_tree) [] [] (He.ga K "read_tree") fd := T.fd 24 rfl
theorem fD_Store___init__ : ∃ fd, FunD K "__init__" "Store.__init__" (defArgs st_Store___init__) (defBody st_Store___init__) (defScope st_Store___init__) [] [("cells", .non)] (He.ma K (He.ga K "Store") "__init__") fd := T.fd 25 rfl
theorem fD_Store___eq__ : ∃ fd, FunD K "__eq__" "Store.__eq__" (defArgs st_Store___eq__) (defBody st_Store___eq__) (defScope st_Store___eq__) [] [] (He.ma K (He.ga K "Store") "__eq__") fd := T.fd 26 rfl
theorem fD_Store___len__ : ∃ fd, FunD K "__len__" "Store.__len__" (defArgs st_Store___len__) (defBody st_Store___len__) (defScope st_Store___len__) [] [] (He.ma K (He.ga K "Store") "__len__") fd := T.fd 27 rfl
theorem fD_Store_line : ∃ fd, FunD K "line" "Store.line" (defArgs st_Store_line) (defBody st_Store_line) (defScope st_Store_line) [] [] (He.ma K (He.ga K "Store") "line") fd := T.fd 28 rfl
theorem fD_check_cell : ∃ fd, FunD K "check_cell" "check_cell" (defArgs st_check_cell) (defBody st_check_cell) (defScope st_check_cell) [] [] (He.ga K "check_cell") fd := T.fd 29 rfl
theorem fD_made_in : ∃ fd, FunD K "made_in" "made_in" (defArgs st_made_in) (defBody st_made_in) (defScope st_made_in) [] [] (He.ga K "made_in") fd := T.fd 30 rfl
theorem fD_written : ∃ fd, FunD K "written" "written" (defArgs st_written) (defBody st_written) (defScope st_written) [] [] (He.ga K "written") fd := T.fd 31 rfl
theorem fD_read_store : ∃ fd, FunD K "read_store" "read_store" (defArgs st_read_store) (defBody st_read_store) (defScope st_read_store) [] [] (He.ga K "read_store") fd := T.fd 32 rfl
theorem fD__law_cell : ∃ fd, FunD K "_law_cell" "_law_cell" (defArgs st__law_cell) (defBody st__law_cell) (defScope st__law_cell) [] [] (He.ga K "_law_cell") fd := T.fd 33 rfl
theorem fD__law_box : ∃ fd, FunD K "_law_box" "_law_box" (defArgs st__law_box) (defBody st__law_box) (defScope st__law_box) [] [] (He.ga K "_law_box") fd := T.fd 34 rfl
theorem fD__law_take : ∃ fd, FunD K "_law_take" "_law_take" (defArgs st__law_take) (defBody st__law_take) (defScope st__law_take) [] [] (He.ga K "_law_take") fd := T.fd 35 rfl
theorem fD__law_mixed : ∃ fd, FunD K "_law_mixed" "_law_mixed" (defArgs st__law_mixed) (defBody st__law_mixed) (defScope st__law_mixed) [] [] (He.ga K "_law_mixed") fd := T.fd 36 rfl
theorem fD__law_tree : ∃ fd, FunD K "_law_tree" "_law_tree" (defArgs st__law_tree) (defBody st__law_tree) (defScope st__law_tree) [] [] (He.ga K "_law_tree") fd := T.fd 37 rfl
theorem fD__law_world : ∃ fd, FunD K "_law_world" "_law_world" (defArgs st__law_world) (defBody st__law_world) (defScope st__law_world) [] [] (He.ga K "_law_world") fd := T.fd 38 rfl
theorem fD__law_text : ∃ fd, FunD K "_law_text" "_law_text" (defArgs st__law_text) (defBody st__law_text) (defScope st__law_text) [] [] (He.ga K "_law_text") fd := T.fd 39 rfl
theorem fD__law_made : ∃ fd, FunD K "_law_made" "_law_made" (defArgs st__law_made) (defBody st__law_made) (defScope st__law_made) [] [] (He.ga K "_law_made") fd := T.fd 40 rfl
theorem fD__law_is : ∃ fd, FunD K "_law_is" "_law_is" (defArgs st__law_is) (defBody st__law_is) (defScope st__law_is) [] [] (He.ga K "_law_is") fd := T.fd 41 rfl
theorem fD__law_lists : ∃ fd, FunD K "_law_lists" "_law_lists" (defArgs st__law_lists) (defBody st__law_lists) (defScope st__law_lists) [] [] (He.ga K "_law_lists") fd := T.fd 42 rfl
theorem fD__law_other : ∃ fd, FunD K "_law_other" "_law_other" (defArgs st__law_other) (defBody st__law_other) (defScope st__law_other) [] [] (He.ga K "_law_other") fd := T.fd 43 rfl
theorem fD__law_wrong_homes : ∃ fd, FunD K "_law_wrong_homes" "_law_wrong_homes" (defArgs st__law_wrong_homes) (defBody st__law_wrong_homes) (defScope st__law_wrong_homes) [] [] (He.ga K "_law_wrong_homes") fd := T.fd 44 rfl
theorem fD__law_wrong_cells : ∃ fd, FunD K "_law_wrong_cells" "_law_wrong_cells" (defArgs st__law_wrong_cells) (defBody st__law_wrong_cells) (defScope st__law_wrong_cells) [] [] (He.ga K "_law_wrong_cells") fd := T.fd 45 rfl
theorem fD__law_caught : ∃ fd, FunD K "_law_caught" "_law_caught" (defArgs st__law_caught) (defBody st__law_caught) (defScope st__law_caught) [] [] (He.ga K "_law_caught") fd := T.fd 46 rfl
theorem fD__law_very : ∃ fd, FunD K "_law_very" "_law_very" (defArgs st__law_very) (defBody st__law_very) (defScope st__law_very) [] [] (He.ga K "_law_very") fd := T.fd 47 rfl
theorem fD__law_refused : ∃ fd, FunD K "_law_refused" "_law_refused" (defArgs st__law_refused) (defBody st__law_refused) (defScope st__law_refused) [] [] (He.ga K "_law_refused") fd := T.fd 48 rfl
theorem fD__law_barred : ∃ fd, FunD K "_law_barred" "_law_barred" (defArgs st__law_barred) (defBody st__law_barred) (defScope st__law_barred) [] [] (He.ga K "_law_barred") fd := T.fd 49 rfl
theorem fD__law_doors : ∃ fd, FunD K "_law_doors" "_law_doors" (defArgs st__law_doors) (defBody st__law_doors) (defScope st__law_doors) [] [] (He.ga K "_law_doors") fd := T.fd 50 rfl
theorem fD__law_number : ∃ fd, FunD K "_law_number" "_law_number" (defArgs st__law_number) (defBody st__law_number) (defScope st__law_number) [] [] (He.ga K "_law_number") fd := T.fd 51 rfl
theorem fD__law_is_tree : ∃ fd, FunD K "_law_is_tree" "_law_is_tree" (defArgs st__law_is_tree) (defBody st__law_is_tree) (defScope st__law_is_tree) [] [] (He.ga K "_law_is_tree") fd := T.fd 52 rfl
theorem fD__law_read : ∃ fd, FunD K "_law_read" "_law_read" (defArgs st__law_read) (defBody st__law_read) (defScope st__law_read) [] [] (He.ga K "_law_read") fd := T.fd 53 rfl
theorem fD__law_spoilt : ∃ fd, FunD K "_law_spoilt" "_law_spoilt" (defArgs st__law_spoilt) (defBody st__law_spoilt) (defScope st__law_spoilt) [] [] (He.ga K "_law_spoilt") fd := T.fd 54 rfl
theorem fD__law_lined : ∃ fd, FunD K "_law_lined" "_law_lined" (defArgs st__law_lined) (defBody st__law_lined) (defScope st__law_lined) [] [] (He.ga K "_law_lined") fd := T.fd 55 rfl
theorem fD__law_lines : ∃ fd, FunD K "_law_lines" "_law_lines" (defArgs st__law_lines) (defBody st__law_lines) (defScope st__law_lines) [] [] (He.ga K "_law_lines") fd := T.fd 56 rfl
theorem fD__law_right : ∃ fd, FunD K "_law_right" "_law_right" (defArgs st__law_right) (defBody st__law_right) (defScope st__law_right) [] [] (He.ga K "_law_right") fd := T.fd 57 rfl
theorem fD_law : ∃ fd, FunD K "law" "law" (defArgs st_law) (defBody st_law) (defScope st_law) [] [] (He.ga K "law") fd := T.fd 58 rfl
theorem cl_Tree : Cls K (He.ga K "Tree") := He.cls_ok (T.fa 76 rfl)
theorem mk_Tree : Mk K (He.ga K "Tree") (He.ma K (He.ga K "Tree") "__init__") := He.mkr_ok (T.fa 77 rfl)
theorem me_Tree___eq__ : Meth K (He.ga K "Tree") "__eq__" (He.ma K (He.ga K "Tree") "__eq__") := He.meth_ok (T.fa 78 rfl)
theorem me_Tree___len__ : Meth K (He.ga K "Tree") "__len__" (He.ma K (He.ga K "Tree") "__len__") := He.meth_ok (T.fa 79 rfl)
theorem me_Tree___contains__ : Meth K (He.ga K "Tree") "__contains__" (He.ma K (He.ga K "Tree") "__contains__") := He.meth_ok (T.fa 80 rfl)
theorem me_Tree_line : Meth K (He.ga K "Tree") "line" (He.ma K (He.ga K "Tree") "line") := He.meth_ok (T.fa 81 rfl)
theorem no_Tree_houses : NoAttr K (He.ga K "Tree") "houses" := He.noat_ok (T.fa 82 rfl)
theorem no_Tree_near : NoAttr K (He.ga K "Tree") "near" := He.noat_ok (T.fa 83 rfl)
theorem no_Tree_roads : NoAttr K (He.ga K "Tree") "roads" := He.noat_ok (T.fa 84 rfl)
theorem no_Tree_ways : NoAttr K (He.ga K "Tree") "ways" := He.noat_ok (T.fa 85 rfl)
theorem cl_Store : Cls K (He.ga K "Store") := He.cls_ok (T.fa 86 rfl)
theorem mk_Store : Mk K (He.ga K "Store") (He.ma K (He.ga K "Store") "__init__") := He.mkr_ok (T.fa 87 rfl)
theorem me_Store___eq__ : Meth K (He.ga K "Store") "__eq__" (He.ma K (He.ga K "Store") "__eq__") := He.meth_ok (T.fa 88 rfl)
theorem me_Store___len__ : Meth K (He.ga K "Store") "__len__" (He.ma K (He.ga K "Store") "__len__") := He.meth_ok (T.fa 89 rfl)
theorem me_Store_line : Meth K (He.ga K "Store") "line" (He.ma K (He.ga K "Store") "line") := He.meth_ok (T.fa 90 rfl)
theorem no_Store_cells : NoAttr K (He.ga K "Store") "cells" := He.noat_ok (T.fa 91 rfl)
theorem no_Store_homes : NoAttr K (He.ga K "Store") "homes" := He.noat_ok (T.fa 92 rfl)
theorem no_Store_tree : NoAttr K (He.ga K "Store") "tree" := He.noat_ok (T.fa 93 rfl)
end
theorem sc_InvalidHouses___init__ : FnScope ["self", "given"] ["self", "given"] (defScope st_InvalidHouses___init__) := ⟨rfl, rfl, rfl, by decide +kernel, rfl, by decide +kernel, by decide +kernel⟩
theorem sc_InvalidRoads___init__ : FnScope ["self", "given"] ["self", "given"] (defScope st_InvalidRoads___init__) := ⟨rfl, rfl, rfl, by decide +kernel, rfl, by decide +kernel, by decide +kernel⟩
theorem sc_InvalidHouse___init__ : FnScope ["self", "given"] ["self", "given"] (defScope st_InvalidHouse___init__) := ⟨rfl, rfl, rfl, by decide +kernel, rfl, by decide +kernel, by decide +kernel⟩
theorem sc_InvalidLine___init__ : FnScope ["self", "given"] ["self", "given"] (defScope st_InvalidLine___init__) := ⟨rfl, rfl, rfl, by decide +kernel, rfl, by decide +kernel, by decide +kernel⟩
theorem sc_InvalidHomes___init__ : FnScope ["self", "given"] ["self", "given"] (defScope st_InvalidHomes___init__) := ⟨rfl, rfl, rfl, by decide +kernel, rfl, by decide +kernel, by decide +kernel⟩
theorem sc_InvalidCells___init__ : FnScope ["self", "given"] ["self", "given"] (defScope st_InvalidCells___init__) := ⟨rfl, rfl, rfl, by decide +kernel, rfl, by decide +kernel, by decide +kernel⟩
theorem sc_InvalidCell___init__ : FnScope ["self", "given"] ["self", "given"] (defScope st_InvalidCell___init__) := ⟨rfl, rfl, rfl, by decide +kernel, rfl, by decide +kernel, by decide +kernel⟩
theorem sc_NotJoined___init__ : FnScope ["self", "house"] ["self", "house"] (defScope st_NotJoined___init__) := ⟨rfl, rfl, rfl, by decide +kernel, rfl, by decide +kernel, by decide +kernel⟩
theorem sc_is_integer : FnScope ["value"] ["value"] (defScope st_is_integer) := ⟨rfl, rfl, rfl, by decide +kernel, rfl, by decide +kernel, by decide +kernel⟩
theorem sc_is_index : FnScope ["value", "many"] ["value", "many"] (defScope st_is_index) := ⟨rfl, rfl, rfl, by decide +kernel, rfl, by decide +kernel, by decide +kernel⟩
theorem sc_is_list : FnScope ["value"] ["value"] (defScope st_is_list) := ⟨rfl, rfl, rfl, by decide +kernel, rfl, by decide +kernel, by decide +kernel⟩
theorem sc_are_indices : FnScope ["value", "many", "item"] ["value", "many"] (defScope st_are_indices) := ⟨rfl, rfl, rfl, by decide +kernel, rfl, by decide +kernel, by decide +kernel⟩
theorem sc_count_in : FnScope ["word", "sign"] ["word"] (defScope st_count_in) := ⟨rfl, rfl, rfl, by decide +kernel, rfl, by decide +kernel, by decide +kernel⟩
theorem sc_is_road : FnScope ["value", "houses", "u", "v"] ["value", "houses"] (defScope st_is_road) := ⟨rfl, rfl, rfl, by decide +kernel, rfl, by decide +kernel, by decide +kernel⟩
theorem sc_are_roads : FnScope ["value", "houses", "at", "road"] ["value", "houses"] (defScope st_are_roads) := ⟨rfl, rfl, rfl, by decide +kernel, rfl, by decide +kernel, by decide +kernel⟩
theorem sc_joined_by : FnScope ["houses", "roads", "found", "u", "v", "_", "others"] ["houses", "roads"] (defScope st_joined_by) := ⟨rfl, rfl, rfl, by decide +kernel, rfl, by decide +kernel, by decide +kernel⟩
theorem sc_ways_from : FnScope ["near", "house", "found", "front", "at", "other", "_"] ["near", "house"] (defScope st_ways_from) := ⟨rfl, rfl, rfl, by decide +kernel, rfl, by decide +kernel, by decide +kernel⟩
theorem sc_Tree___init__ : FnScope ["self", "houses", "roads", "house"] ["self", "houses", "roads"] (defScope st_Tree___init__) := ⟨rfl, rfl, rfl, by decide +kernel, rfl, by decide +kernel, by decide +kernel⟩
theorem sc_Tree___eq__ : FnScope ["self", "other"] ["self", "other"] (defScope st_Tree___eq__) := ⟨rfl, rfl, rfl, by decide +kernel, rfl, by decide +kernel, by decide +kernel⟩
theorem sc_Tree___len__ : FnScope ["self"] ["self"] (defScope st_Tree___len__) := ⟨rfl, rfl, rfl, by decide +kernel, rfl, by decide +kernel, by decide +kernel⟩
theorem sc_Tree___contains__ : FnScope ["self", "value"] ["self", "value"] (defScope st_Tree___contains__) := ⟨rfl, rfl, rfl, by decide +kernel, rfl, by decide +kernel, by decide +kernel⟩
theorem sc_Tree_line : FnScope ["self", "u", "v"] ["self"] (defScope st_Tree_line) := ⟨rfl, rfl, rfl, by decide +kernel, rfl, by decide +kernel, by decide +kernel⟩
theorem sc_check_house : FnScope ["tree", "house"] ["tree", "house"] (defScope st_check_house) := ⟨rfl, rfl, rfl, by decide +kernel, rfl, by decide +kernel, by decide +kernel⟩
theorem sc_numbers_in : FnScope ["word", "part"] ["word"] (defScope st_numbers_in) := ⟨rfl, rfl, rfl, by decide +kernel, rfl, by decide +kernel, by decide +kernel⟩
theorem sc_read_tree : FnScope ["line", "first", "words", "houses", "roads", "word"] ["line"] (defScope st_read_tree) := ⟨rfl, rfl, rfl, by decide +kernel, rfl, by decide +kernel, by decide +kernel⟩
theorem sc_Store___init__ : FnScope ["self", "tree", "homes", "cells"] ["self", "tree", "homes", "cells"] (defScope st_Store___init__) := ⟨rfl, rfl, rfl, by decide +kernel, rfl, by decide +kernel, by decide +kernel⟩
theorem sc_Store___eq__ : FnScope ["self", "other"] ["self", "other"] (defScope st_Store___eq__) := ⟨rfl, rfl, rfl, by decide +kernel, rfl, by decide +kernel, by decide +kernel⟩
theorem sc_Store___len__ : FnScope ["self"] ["self"] (defScope st_Store___len__) := ⟨rfl, rfl, rfl, by decide +kernel, rfl, by decide +kernel, by decide +kernel⟩
theorem sc_Store_line : FnScope ["self", "words", "home", "cell"] ["self"] (defScope st_Store_line) := ⟨rfl, rfl, rfl, by decide +kernel, rfl, by decide +kernel, by decide +kernel⟩
theorem sc_check_cell : FnScope ["cell"] ["cell"] (defScope st_check_cell) := ⟨rfl, rfl, rfl, by decide +kernel, rfl, by decide +kernel, by decide +kernel⟩
theorem sc_made_in : FnScope ["store", "house", "write", "home"] ["store", "house"] (defScope st_made_in) := ⟨rfl, rfl, rfl, by decide +kernel, rfl, by decide +kernel, by decide +kernel⟩
theorem sc_written : FnScope ["store", "cell", "write", "other"] ["store", "cell"] (defScope st_written) := ⟨rfl, rfl, rfl, by decide +kernel, rfl, by decide +kernel, by decide +kernel⟩
theorem sc_read_store : FnScope ["line", "head", "_", "tail", "words", "homes", "cells", "store", "word"] ["line"] (defScope st_read_store) := ⟨rfl, rfl, rfl, by decide +kernel, rfl, by decide +kernel, by decide +kernel⟩
theorem sc__law_cell : FnScope ["_law_script", "_law_k"] ["_law_script", "_law_k"] (defScope st__law_cell) := ⟨rfl, rfl, rfl, by decide +kernel, rfl, by decide +kernel, by decide +kernel⟩
theorem sc__law_box : FnScope ["_law_great"] ["_law_great"] (defScope st__law_box) := ⟨rfl, rfl, rfl, by decide +kernel, rfl, by decide +kernel, by decide +kernel⟩
theorem sc__law_take : FnScope ["_law_box_here", "_law_many", "_law_digit", "_law_mixed_here"] ["_law_box_here", "_law_many"] (defScope st__law_take) := ⟨rfl, rfl, rfl, by decide +kernel, rfl, by decide +kernel, by decide +kernel⟩
theorem sc__law_mixed : FnScope ["_law_box_here", "_law_items", "_law_left", "_law_found"] ["_law_box_here", "_law_items"] (defScope st__law_mixed) := ⟨rfl, rfl, rfl, by decide +kernel, rfl, by decide +kernel, by decide +kernel⟩
theorem sc__law_tree : FnScope ["_law_box_here", "_law_houses", "_law_kind", "_law_pairs", "_law_names", "_law_k", "_law_a", "_law_b"] ["_law_box_here"] (defScope st__law_tree) := ⟨rfl, rfl, rfl, by decide +kernel, rfl, by decide +kernel, by decide +kernel⟩
theorem sc__law_world : FnScope ["_law_box_here", "_law_way", "_law_many", "_law_houses", "_law_roads", "_law_homes", "_law_turn"] ["_law_box_here", "_law_way"] (defScope st__law_world) := ⟨rfl, rfl, rfl, by decide +kernel, rfl, by decide +kernel, by decide +kernel⟩
theorem sc__law_text : FnScope ["_law_world_here", "_law_roads", "_law_writes", "_law_u", "_law_v", "_law_k"] ["_law_world_here"] (defScope st__law_text) := ⟨rfl, rfl, rfl, by decide +kernel, rfl, by decide +kernel, by decide +kernel⟩
theorem sc__law_made : FnScope ["_law_world_here", "_law_way", "_law_turn", "_law_homes", "_law_cells", "_law_built", "_law_given"] ["_law_world_here", "_law_way", "_law_turn", "_law_homes", "_law_cells"] (defScope st__law_made) := ⟨rfl, rfl, rfl, by decide +kernel, rfl, by decide +kernel, by decide +kernel⟩
theorem sc__law_is : FnScope ["_law_world_here", "_law_asked", "_law_told", "_law_due"] ["_law_world_here", "_law_asked"] (defScope st__law_is) := ⟨rfl, rfl, rfl, by decide +kernel, rfl, by decide +kernel, by decide +kernel⟩
theorem sc__law_lists : FnScope ["_law_world_here", "_law_asked", "_law_turn", "_law_writes", "_law_house", "_law_told", "_law_cell_here", "_law_k"] ["_law_world_here", "_law_asked", "_law_turn"] (defScope st__law_lists) := ⟨rfl, rfl, rfl, by decide +kernel, rfl, by decide +kernel, by decide +kernel⟩
theorem sc__law_other : FnScope ["_law_box_here", "_law_world_here", "_law_kind", "_law_houses", "_law_roads", "_law_homes", "_law_cells", "_law_at", "_law_step", "_law_home"] ["_law_box_here", "_law_world_here", "_law_kind"] (defScope st__law_other) := ⟨rfl, rfl, rfl, by decide +kernel, rfl, by decide +kernel, by decide +kernel⟩
theorem sc__law_wrong_homes : FnScope ["_law_box_here", "_law_world_here", "_law_kind", "_law_which", "_law_at", "_law_odd"] ["_law_box_here", "_law_world_here"] (defScope st__law_wrong_homes) := ⟨rfl, rfl, rfl, by decide +kernel, rfl, by decide +kernel, by decide +kernel⟩
theorem sc__law_wrong_cells : FnScope ["_law_box_here", "_law_world_here", "_law_kind", "_law_which", "_law_at", "_law_odd"] ["_law_box_here", "_law_world_here"] (defScope st__law_wrong_cells) := ⟨rfl, rfl, rfl, by decide +kernel, rfl, by decide +kernel, by decide +kernel⟩
theorem sc__law_caught : FnScope ["_law_built", "_law_homes", "_law_cells", "_law_turn", "e"] ["_law_built", "_law_homes", "_law_cells", "_law_turn"] (defScope st__law_caught) := ⟨rfl, rfl, rfl, by decide +kernel, rfl, by decide +kernel, by decide +kernel⟩
theorem sc__law_very : FnScope ["_law_told", "_law_kind", "_law_wrong"] ["_law_told", "_law_kind", "_law_wrong"] (defScope st__law_very) := ⟨rfl, rfl, rfl, by decide +kernel, rfl, by decide +kernel, by decide +kernel⟩
theorem sc__law_refused : FnScope ["_law_box_here", "_law_world_here", "_law_turn", "_law_built", "_law_homes", "_law_cells", "_law_good", "_law_both"] ["_law_box_here", "_law_world_here", "_law_turn"] (defScope st__law_refused) := ⟨rfl, rfl, rfl, by decide +kernel, rfl, by decide +kernel, by decide +kernel⟩
theorem sc__law_barred : FnScope ["_law_asked", "_law_value", "_law_other_here", "_law_turn", "e", "_law_first"] ["_law_asked", "_law_value", "_law_other_here", "_law_turn"] (defScope st__law_barred) := ⟨rfl, rfl, rfl, by decide +kernel, rfl, by decide +kernel, by decide +kernel⟩
theorem sc__law_doors : FnScope ["_law_world_here", "_law_asked", "_law_turn", "_law_values", "_law_others", "_law_k"] ["_law_world_here", "_law_asked", "_law_turn"] (defScope st__law_doors) := ⟨rfl, rfl, rfl, by decide +kernel, rfl, by decide +kernel, by decide +kernel⟩
theorem sc__law_number : FnScope ["_law_text_here", "_law_sign"] ["_law_text_here"] (defScope st__law_number) := ⟨rfl, rfl, rfl, by decide +kernel, rfl, by decide +kernel, by decide +kernel⟩
theorem sc__law_is_tree : FnScope ["_law_houses", "_law_roads", "_law_u", "_law_v", "_law_reached", "_law_turn"] ["_law_houses", "_law_roads"] (defScope st__law_is_tree) := ⟨rfl, rfl, rfl, by decide +kernel, rfl, by decide +kernel, by decide +kernel⟩
theorem sc__law_read : FnScope ["_law_text_here", "_law_words", "_law_at", "_law_houses", "_law_roads", "_law_writes", "_law_pair", "_law_word", "_law_part", "_law_home", "_law_cell_here", "_law_u", "_law_v"] ["_law_text_here"] (defScope st__law_read) := ⟨rfl, rfl, rfl, by decide +kernel, rfl, by decide +kernel, by decide +kernel⟩
theorem sc__law_spoilt : FnScope ["_law_box_here", "_law_text_here", "_law_every", "_law_signs", "_law_way", "_law_at", "_law_sign", "_law_words", "_law_one", "_law_other_here"] ["_law_box_here", "_law_text_here"] (defScope st__law_spoilt) := ⟨rfl, rfl, rfl, by decide +kernel, rfl, by decide +kernel, by decide +kernel⟩
theorem sc__law_lined : FnScope ["_law_value", "_law_due", "_law_turn", "_law_told", "e"] ["_law_value", "_law_due", "_law_turn"] (defScope st__law_lined) := ⟨rfl, rfl, rfl, by decide +kernel, rfl, by decide +kernel, by decide +kernel⟩
theorem sc__law_lines : FnScope ["_law_box_here", "_law_world_here", "_law_turn", "_law_text_here", "_law_k", "_law_near", "_law_value"] ["_law_box_here", "_law_world_here", "_law_turn"] (defScope st__law_lines) := ⟨rfl, rfl, rfl, by decide +kernel, rfl, by decide +kernel, by decide +kernel⟩
theorem sc__law_right : FnScope ["_law_box_here", "_law_kind", "_law_way", "_law_turn", "_law_world_here", "_law_homes", "_law_cells", "_law_asked", "_law_other_here", "_law_beside", "_law_due", "_law_thing"] ["_law_box_here"] (defScope st__law_right) := ⟨rfl, rfl, rfl, by decide +kernel, rfl, by decide +kernel, by decide +kernel⟩
theorem sc_law : FnScope ["_law_script", "_law_k"] ["_law_script"] (defScope st_law) := ⟨rfl, rfl, rfl, by decide +kernel, rfl, by decide +kernel, by decide +kernel⟩
section
variable {K : PySem.W.Frag} {mg : Str → Option Value} {P : Program} {w : World} {base : Heap}
theorem ok_InvalidHouses___init__ (T : Tx K mg) : ∃ fd, FunD K "__init__" "InvalidHouses.__init__" (defArgs st_InvalidHouses___init__) (defBody st_InvalidHouses___init__) (defScope st_InvalidHouses___init__) [] [] (He.ma K (He.ga K "InvalidHouses") "__init__") fd ∧ FnOk P w K mg base CX0 1 (He.ma K (He.ga K "InvalidHouses") "__init__") fd ["self", "given"] (spE1 (He.ga K "InvalidHouses") "given") := by
  obtain ⟨fd, F⟩ := fD_InvalidHouses___init__ T
  refine ⟨fd, F, F.ok sc_InvalidHouses___init__ (fun vs H Q E h => ?_) (fun cdv A outer s H vs Q E hr h => ?_)⟩
  · obtain ⟨a, v, rfl, _⟩ := h; rfl
  · obtain ⟨a, v, rfl, ha, q⟩ := h
    refine ⟨_, pss_cons (ps_expr (pe_parinit T.par rfl (pa_cons (pv 0) (pa_cons pe_str pa_nil)))) (pss_one (ps_ost (pv 0) (pv 1))), ?_⟩
    refine ⟨_, rfl, _, _, [.str _], rfl, by simp, (T.err 0 rfl).ox, ha, ?_⟩
    exact ⟨_, rfl, _, rfl, a, _, rfl, (T.err 0 rfl).ox, (T.err 0 rfl).no _ (by simp), .inl ⟨ha, fun d hd hne => q d hd hne⟩⟩
theorem pmk_InvalidHouses {X : Cx} {k : Nat} {e : Expr} {es : List Expr} {ta : TA} {p pos : Pos} (T : Tx X.K X.mg) (hr : RG (k + 2) X.A) (hg : Gl X "InvalidHouses") (ha : PA X (e :: es) ta) (one : OneByOne X e es pos := by exact ⟨rfl, rfl⟩) :
    PMk X (.Call (.Name "InvalidHouses" p) (e :: es) [] pos) (tErr1 (He.ga X.K "InvalidHouses") "given" ta) := by
  obtain ⟨fd, F, G⟩ := ok_InvalidHouses___init__ (P := X.prog) (w := X.w) (base := X.base) T
  exact pmk_err1 ⟨T.glo 1 rfl, (T.err 0 rfl).ox, (T.err 0 rfl).xf⟩ (T.err 0 rfl).iC (T.err 0 rfl).tI G (hr.mono (by omega)) (F.bindsN fun _ _ _ _ _ _ us hl => match us, hl with | [_, _], _ => rfl) hg ha (by decide) one
theorem ok_InvalidRoads___init__ (T : Tx K mg) : ∃ fd, FunD K "__init__" "InvalidRoads.__init__" (defArgs st_InvalidRoads___init__) (defBody st_InvalidRoads___init__) (defScope st_InvalidRoads___init__) [] [] (He.ma K (He.ga K "InvalidRoads") "__init__") fd ∧ FnOk P w K mg base CX0 1 (He.ma K (He.ga K "InvalidRoads") "__init__") fd ["self", "given"] (spE1 (He.ga K "InvalidRoads") "given") := by
  obtain ⟨fd, F⟩ := fD_InvalidRoads___init__ T
  refine ⟨fd, F, F.ok sc_InvalidRoads___init__ (fun vs H Q E h => ?_) (fun cdv A outer s H vs Q E hr h => ?_)⟩
  · obtain ⟨a, v, rfl, _⟩ := h; rfl
  · obtain ⟨a, v, rfl, ha, q⟩ := h
    refine ⟨_, pss_cons (ps_expr (pe_parinit T.par rfl (pa_cons (pv 0) (pa_cons pe_str pa_nil)))) (pss_one (ps_ost (pv 0) (pv 1))), ?_⟩
    refine ⟨_, rfl, _, _, [.str _], rfl, by simp, (T.err 1 rfl).ox, ha, ?_⟩
    exact ⟨_, rfl, _, rfl, a, _, rfl, (T.err 1 rfl).ox, (T.err 1 rfl).no _ (by simp), .inl ⟨ha, fun d hd hne => q d hd hne⟩⟩
theorem pmk_InvalidRoads {X : Cx} {k : Nat} {e : Expr} {es : List Expr} {ta : TA} {p pos : Pos} (T : Tx X.K X.mg) (hr : RG (k + 2) X.A) (hg : Gl X "InvalidRoads") (ha : PA X (e :: es) ta) (one : OneByOne X e es pos := by exact ⟨rfl, rfl⟩) :
    PMk X (.Call (.Name "InvalidRoads" p) (e :: es) [] pos) (tErr1 (He.ga X.K "InvalidRoads") "given" ta) := by
  obtain ⟨fd, F, G⟩ := ok_InvalidRoads___init__ (P := X.prog) (w := X.w) (base := X.base) T
  exact pmk_err1 ⟨T.glo 2 rfl, (T.err 1 rfl).ox, (T.err 1 rfl).xf⟩ (T.err 1 rfl).iC (T.err 1 rfl).tI G (hr.mono (by omega)) (F.bindsN fun _ _ _ _ _ _ us hl => match us, hl with | [_, _], _ => rfl) hg ha (by decide) one
theorem ok_InvalidHouse___init__ (T : Tx K mg) : ∃ fd, FunD K "__init__" "InvalidHouse.__init__" (defArgs st_InvalidHouse___init__) (defBody st_InvalidHouse___init__) (defScope st_InvalidHouse___init__) [] [] (He.ma K (He.ga K "InvalidHouse") "__init__") fd ∧ FnOk P w K mg base CX0 1 (He.ma K (He.ga K "InvalidHouse") "__init__") fd ["self", "given"] (spE1 (He.ga K "InvalidHouse") "given") := by
  obtain ⟨fd, F⟩ := fD_InvalidHouse___init__ T
  refine ⟨fd, F, F.ok sc_InvalidHouse___init__ (fun vs H Q E h => ?_) (fun cdv A outer s H vs Q E hr h => ?_)⟩
  · obtain ⟨a, v, rfl, _⟩ := h; rfl
  · obtain ⟨a, v, rfl, ha, q⟩ := h
    refine ⟨_, pss_cons (ps_expr (pe_parinit T.par rfl (pa_cons (pv 0) (pa_cons pe_str pa_nil)))) (pss_one (ps_ost (pv 0) (pv 1))), ?_⟩
    refine ⟨_, rfl, _, _, [.str _], rfl, by simp, (T.err 2 rfl).ox, ha, ?_⟩
    exact ⟨_, rfl, _, rfl, a, _, rfl, (T.err 2 rfl).ox, (T.err 2 rfl).no _ (by simp), .inl ⟨ha, fun d hd hne => q d hd hne⟩⟩
theorem pmk_InvalidHouse {X : Cx} {k : Nat} {e : Expr} {es : List Expr} {ta : TA} {p pos : Pos} (T : Tx X.K X.mg) (hr : RG (k + 2) X.A) (hg : Gl X "InvalidHouse") (ha : PA X (e :: es) ta) (one : OneByOne X e es pos := by exact ⟨rfl, rfl⟩) :
    PMk X (.Call (.Name "InvalidHouse" p) (e :: es) [] pos) (tErr1 (He.ga X.K "InvalidHouse") "given" ta) := by
  obtain ⟨fd, F, G⟩ := ok_InvalidHouse___init__ (P := X.prog) (w := X.w) (base := X.base) T
  exact pmk_err1 ⟨T.glo 3 rfl, (T.err 2 rfl).ox, (T.err 2 rfl).xf⟩ (T.err 2 rfl).iC (T.err 2 rfl).tI G (hr.mono (by omega)) (F.bindsN fun _ _ _ _ _ _ us hl => match us, hl with | [_, _], _ => rfl) hg ha (by decide) one
theorem ok_InvalidLine___init__ (T : Tx K mg) : ∃ fd, FunD K "__init__" "InvalidLine.__init__" (defArgs st_InvalidLine___init__) (defBody st_InvalidLine___init__) (defScope st_InvalidLine___init__) [] [] (He.ma K (He.ga K "InvalidLine") "__init__") fd ∧ FnOk P w K mg base CX0 1 (He.ma K (He.ga K "InvalidLine") "__init__") fd ["self", "given"] (spE1 (He.ga K "InvalidLine") "given") := by
  obtain ⟨fd, F⟩ := fD_InvalidLine___init__ T
  refine ⟨fd, F, F.ok sc_InvalidLine___init__ (fun vs H Q E h => ?_) (fun cdv A outer s H vs Q E hr h => ?_)⟩
  · obtain ⟨a, v, rfl, _⟩ := h; rfl
  · obtain ⟨a, v, rfl, ha, q⟩ := h
    refine ⟨_, pss_cons (ps_expr (pe_parinit T.par rfl (pa_cons (pv 0) (pa_cons pe_str pa_nil)))) (pss_one (ps_ost (pv 0) (pv 1))), ?_⟩
    refine ⟨_, rfl, _, _, [.str _], rfl, by simp, (T.err 3 rfl).ox, ha, ?_⟩
    exact ⟨_, rfl, _, rfl, a, _, rfl, (T.err 3 rfl).ox, (T.err 3 rfl).no _ (by simp), .inl ⟨ha, fun d hd hne => q d hd hne⟩⟩
theorem pmk_InvalidLine {X : Cx} {k : Nat} {e : Expr} {es : List Expr} {ta : TA} {p pos : Pos} (T : Tx X.K X.mg) (hr : RG (k + 2) X.A) (hg : Gl X "InvalidLine") (ha : PA X (e :: es) ta) (one : OneByOne X e es pos := by exact ⟨rfl, rfl⟩) :
    PMk X (.Call (.Name "InvalidLine" p) (e :: es) [] pos) (tErr1 (He.ga X.K "InvalidLine") "given" ta) := by
  obtain ⟨fd, F, G⟩ := ok_InvalidLine___init__ (P := X.prog) (w := X.w) (base := X.base) T
  exact pmk_err1 ⟨T.glo 4 rfl, (T.err 3 rfl).ox, (T.err 3 rfl).xf⟩ (T.err 3 rfl).iC (T.err 3 rfl).tI G (hr.mono (by omega)) (F.bindsN fun _ _ _ _ _ _ us hl => match us, hl with | [_, _], _ => rfl) hg ha (by decide) one
theorem ok_InvalidHomes___init__ (T : Tx K mg) : ∃ fd, FunD K "__init__" "InvalidHomes.__init__" (defArgs st_InvalidHomes___init__) (defBody st_InvalidHomes___init__) (defScope st_InvalidHomes___init__) [] [] (He.ma K (He.ga K "InvalidHomes") "__init__") fd ∧ FnOk P w K mg base CX0 1 (He.ma K (He.ga K "InvalidHomes") "__init__") fd ["self", "given"] (spE1 (He.ga K "InvalidHomes") "given") := by
  obtain ⟨fd, F⟩ := fD_InvalidHomes___init__ T
  refine ⟨fd, F, F.ok sc_InvalidHomes___init__ (fun vs H Q E h => ?_) (fun cdv A outer s H vs Q E hr h => ?_)⟩
  · obtain ⟨a, v, rfl, _⟩ := h; rfl
  · obtain ⟨a, v, rfl, ha, q⟩ := h
    refine ⟨_, pss_cons (ps_expr (pe_parinit T.par rfl (pa_cons (pv 0) (pa_cons pe_str pa_nil)))) (pss_one (ps_ost (pv 0) (pv 1))), ?_⟩
    refine ⟨_, rfl, _, _, [.str _], rfl, by simp, (T.err 4 rfl).ox, ha, ?_⟩
    exact ⟨_, rfl, _, rfl, a, _, rfl, (T.err 4 rfl).ox, (T.err 4 rfl).no _ (by simp), .inl ⟨ha, fun d hd hne => q d hd hne⟩⟩
theorem pmk_InvalidHomes {X : Cx} {k : Nat} {e : Expr} {es : List Expr} {ta : TA} {p pos : Pos} (T : Tx X.K X.mg) (hr : RG (k + 2) X.A) (hg : Gl X "InvalidHomes") (ha : PA X (e :: es) ta) (one : OneByOne X e es pos := by exact ⟨rfl, rfl⟩) :
    PMk X (.Call (.Name "InvalidHomes" p) (e :: es) [] pos) (tErr1 (He.ga X.K "InvalidHomes") "given" ta) := by
  obtain ⟨fd, F, G⟩ := ok_InvalidHomes___init__ (P := X.prog) (w := X.w) (base := X.base) T
  exact pmk_err1 ⟨T.glo 5 rfl, (T.err 4 rfl).ox, (T.err 4 rfl).xf⟩ (T.err 4 rfl).iC (T.err 4 rfl).tI G (hr.mono (by omega)) (F.bindsN fun _ _ _ _ _ _ us hl => match us, hl with | [_, _], _ => rfl) hg ha (by decide) one
theorem ok_InvalidCells___init__ (T : Tx K mg) : ∃ fd, FunD K "__init__" "InvalidCells.__init__" (defArgs st_InvalidCells___init__) (defBody st_InvalidCells___init__) (defScope st_InvalidCells___init__) [] [] (He.ma K (He.ga K "InvalidCells") "__init__") fd ∧ FnOk P w K mg base CX0 1 (He.ma K (He.ga K "InvalidCells") "__init__") fd ["self", "given"] (spE1 (He.ga K "InvalidCells") "given") := by
  obtain ⟨fd, F⟩ := fD_InvalidCells___init__ T
  refine ⟨fd, F, F.ok sc_InvalidCells___init__ (fun vs H Q E h => ?_) (fun cdv A outer s H vs Q E hr h => ?_)⟩
  · obtain ⟨a, v, rfl, _⟩ := h; rfl
  · obtain ⟨a, v, rfl, ha, q⟩ := h
    refine ⟨_, pss_cons (ps_expr (pe_parinit T.par rfl (pa_cons (pv 0) (pa_cons pe_str pa_nil)))) (pss_one (ps_ost (pv 0) (pv 1))), ?_⟩
    refine ⟨_, rfl, _, _, [.str _], rfl, by simp, (T.err 5 rfl).ox, ha, ?_⟩
    exact ⟨_, rfl, _, rfl, a, _, rfl, (T.err 5 rfl).ox, (T.err 5 rfl).no _ (by simp), .inl ⟨ha, fun d hd hne => q d hd hne⟩⟩
theorem pmk_InvalidCells {X : Cx} {k : Nat} {e : Expr} {es : List Expr} {ta : TA} {p pos : Pos} (T : Tx X.K X.mg) (hr : RG (k + 2) X.A) (hg : Gl X "InvalidCells") (ha : PA X (e :: es) ta) (one : OneByOne X e es pos := by exact ⟨rfl, rfl⟩) :
    PMk X (.Call (.Name "InvalidCells" p) (e :: es) [] pos) (tErr1 (He.ga X.K "InvalidCells") "given" ta) := by
  obtain ⟨fd, F, G⟩ := ok_InvalidCells___init__ (P := X.prog) (w := X.w) (base := X.base) T
  exact pmk_err1 ⟨T.glo 6 rfl, (T.err 5 rfl).ox, (T.err 5 rfl).xf⟩ (T.err 5 rfl).iC (T.err 5 rfl).tI G (hr.mono (by omega)) (F.bindsN fun _ _ _ _ _ _ us hl => match us, hl with | [_, _], _ => rfl) hg ha (by decide) one
theorem ok_InvalidCell___init__ (T : Tx K mg) : ∃ fd, FunD K "__init__" "InvalidCell.__init__" (defArgs st_InvalidCell___init__) (defBody st_InvalidCell___init__) (defScope st_InvalidCell___init__) [] [] (He.ma K (He.ga K "InvalidCell") "__init__") fd ∧ FnOk P w K mg base CX0 1 (He.ma K (He.ga K "InvalidCell") "__init__") fd ["self", "given"] (spE1 (He.ga K "InvalidCell") "given") := by
  obtain ⟨fd, F⟩ := fD_InvalidCell___init__ T
  refine ⟨fd, F, F.ok sc_InvalidCell___init__ (fun vs H Q E h => ?_) (fun cdv A outer s H vs Q E hr h => ?_)⟩
  · obtain ⟨a, v, rfl, _⟩ := h; rfl
  · obtain ⟨a, v, rfl, ha, q⟩ := h
    refine ⟨_, pss_cons (ps_expr (pe_parinit T.par rfl (pa_cons (pv 0) (pa_cons pe_str pa_nil)))) (pss_one (ps_ost (pv 0) (pv 1))), ?_⟩
    refine ⟨_, rfl, _, _, [.str _], rfl, by simp, (T.err 6 rfl).ox, ha, ?_⟩
    exact ⟨_, rfl, _, rfl, a, _, rfl, (T.err 6 rfl).ox, (T.err 6 rfl).no _ (by simp), .inl ⟨ha, fun d hd hne => q d hd hne⟩⟩
theorem pmk_InvalidCell {X : Cx} {k : Nat} {e : Expr} {es : List Expr} {ta : TA} {p pos : Pos} (T : Tx X.K X.mg) (hr : RG (k + 2) X.A) (hg : Gl X "InvalidCell") (ha : PA X (e :: es) ta) (one : OneByOne X e es pos := by exact ⟨rfl, rfl⟩) :
    PMk X (.Call (.Name "InvalidCell" p) (e :: es) [] pos) (tErr1 (He.ga X.K "InvalidCell") "given" ta) := by
  obtain ⟨fd, F, G⟩ := ok_InvalidCell___init__ (P := X.prog) (w := X.w) (base := X.base) T
  exact pmk_err1 ⟨T.glo 7 rfl, (T.err 6 rfl).ox, (T.err 6 rfl).xf⟩ (T.err 6 rfl).iC (T.err 6 rfl).tI G (hr.mono (by omega)) (F.bindsN fun _ _ _ _ _ _ us hl => match us, hl with | [_, _], _ => rfl) hg ha (by decide) one
theorem ok_NotJoined___init__ (T : Tx K mg) : ∃ fd, FunD K "__init__" "NotJoined.__init__" (defArgs st_NotJoined___init__) (defBody st_NotJoined___init__) (defScope st_NotJoined___init__) [] [] (He.ma K (He.ga K "NotJoined") "__init__") fd ∧ FnOk P w K mg base CX0 1 (He.ma K (He.ga K "NotJoined") "__init__") fd ["self", "house"] (spE1 (He.ga K "NotJoined") "house") := by
  obtain ⟨fd, F⟩ := fD_NotJoined___init__ T
  refine ⟨fd, F, F.ok sc_NotJoined___init__ (fun vs H Q E h => ?_) (fun cdv A outer s H vs Q E hr h => ?_)⟩
  · obtain ⟨a, v, rfl, _⟩ := h; rfl
  · obtain ⟨a, v, rfl, ha, q⟩ := h
    refine ⟨_, pss_cons (ps_expr (pe_parinit T.par rfl (pa_cons (pv 0) (pa_cons pe_str pa_nil)))) (pss_one (ps_ost (pv 0) (pv 1))), ?_⟩
    refine ⟨_, rfl, _, _, [.str _], rfl, by simp, (T.err 7 rfl).ox, ha, ?_⟩
    exact ⟨_, rfl, _, rfl, a, _, rfl, (T.err 7 rfl).ox, (T.err 7 rfl).no _ (by simp), .inl ⟨ha, fun d hd hne => q d hd hne⟩⟩
theorem pmk_NotJoined {X : Cx} {k : Nat} {e : Expr} {es : List Expr} {ta : TA} {p pos : Pos} (T : Tx X.K X.mg) (hr : RG (k + 2) X.A) (hg : Gl X "NotJoined") (ha : PA X (e :: es) ta) (one : OneByOne X e es pos := by exact ⟨rfl, rfl⟩) :
    PMk X (.Call (.Name "NotJoined" p) (e :: es) [] pos) (tErr1 (He.ga X.K "NotJoined") "house" ta) := by
  obtain ⟨fd, F, G⟩ := ok_NotJoined___init__ (P := X.prog) (w := X.w) (base := X.base) T
  exact pmk_err1 ⟨T.glo 8 rfl, (T.err 7 rfl).ox, (T.err 7 rfl).xf⟩ (T.err 7 rfl).iC (T.err 7 rfl).tI G (hr.mono (by omega)) (F.bindsN fun _ _ _ _ _ _ us hl => match us, hl with | [_, _], _ => rfl) hg ha (by decide) one
end
end T1

namespace T1
open PySem PySem.Spec PyProof.Rows L2 G
open Evl (Ex)
local macro_rules | `(tactic| walk_at "dd") => `(tactic| (dsimp only [tCB, tCons, tNil, tC, tOp, tUn, tTest, tB, tVar, tAndV, tOrV, tNotV, tIf, tAnd, tOr, tNot, tSeq, tRet, tRetN, tIfS, tAsg, gName, tDrop, tTup, tLst, tChain, tNext, tCall, L2.start]))
section
variable {K : PySem.W.Frag} {H : Hp} {v : V} {d : PyData} {Q : VK}
theorem isi_int (h : Dq K H v d) (q : Q (.bl (isT "int" d)) H) : rIsi K [v, .ty "int"] H Q := rIsi_of h rfl q (.inl rfl)
theorem isi_bool (h : Dq K H v d) (q : Q (.bl (isT "bool" d)) H) : rIsi K [v, .ty "bool"] H Q := rIsi_of h rfl q (.inr (.inl rfl))
theorem isi_tup (h : Dq K H v d) (q : Q (.bl (isT "tuple" d)) H) : rIsi K [v, .ty "tuple"] H Q := rIsi_of h rfl q (.inr (.inr (.inl rfl)))
theorem isi_list (h : Dq K H v d) (q : Q (.bl (isT "list" d)) H) : rIsi K [v, .ty "list"] H Q := rIsi_of h rfl q (.inr (.inr (.inr (.inl rfl))))
theorem isi_str (h : Dq K H v d) (q : Q (.bl (isT "str" d)) H) : rIsi K [v, .ty "str"] H Q := rIsi_of h rfl q (.inr (.inr (.inr (.inr rfl))))
/-- isinstance(x, (list, tuple)) -/
theorem isi_seq {p : Addr} (h : Dq K H v d) (hp : H p = some (.tup [.ty "list", .ty "tuple"])) (q : Q (.bl (isT "list" d || isT "tuple" d)) H) : rIsiT K [v, .ref p] H Q := by
  refine ⟨v, p, [.ty "list", .ty "tuple"], _, [.type "list", .type "tuple"], _, rfl, hp, .cons (.ty _) (.cons (.ty _) .nil), h.ty, ?_, q⟩
  have a := kit_is (K := K) (d := d) (T := "list") (.inr (.inr (.inr (.inl rfl))))
  have b := kit_is (K := K) (d := d) (T := "tuple") (.inr (.inr (.inl rfl)))
  unfold PySem.W.kitAny
  rw [a]
  cases e : isT "list" d with
  | true => rfl
  | false =>
    show PySem.W.kitAny K _ _ = _
    unfold PySem.W.kitAny
    rw [b]
    cases e2 : isT "tuple" d <;> rfl
end
/-- integers of data -/
def isInt : PyData → Bool
  | .int _ => true
  | _ => false
def isIdx (d : PyData) (m : Int) : Bool := match d with
  | .int i => decide (0 ≤ i) && decide (i < m)
  | _ => false
theorem isInt_eq (d : PyData) : (isT "int" d && !isT "bool" d) = isInt d := by cases d <;> rfl
def isSeq : PyData → Bool
  | .list _ => true
  | .tuple _ => true
  | _ => false
def items : PyData → List PyData
  | .list ds => ds
  | .tuple ds => ds
  | _ => []
def sp_is_integer (K : PySem.W.Frag) : Sp := sp1 fun a H Q E => ∃ d, Dq K H a d ∧ Q (.bl (isInt d)) H
section
variable {K : PySem.W.Frag} {mg : Str → Option Value} {P : Program} {w : World} {base : Heap}
theorem ok_is_integer (T : Tx K mg) : Cal P w K mg base CX0 1 "is_integer" ["value"] (sp_is_integer K) := by
  refine cal_of (fD_is_integer T) (T.glo 11 rfl) sc_is_integer (fun _ _ _ _ _ _ us hl => match us, hl with | [_], _ => rfl) (fun vs H Q E h => len1 h) (fun f cdv A outer s H vs Q E hr h => ?_)
  obtain ⟨a, rfl, h⟩ := h
  refine ⟨_, (PSs.nox (pss_one (ps_ret (pe_and (pe_callB (call_isiK' (K := K)) (by rfl) (T.free 6 rfl) (by decide +kernel) (pa_cons (pv 0) (pa_cons (pe_bltn (v := .ty "int") (u := .type "int") (by rfl) (T.free 5 rfl) (by decide +kernel) rfl) pa_nil))) (pe_one (pe_not (pe_callB (call_isiK' (K := K)) (by rfl) (T.free 6 rfl) (by decide +kernel) (pa_cons (pv 0) (pa_cons (pe_bltn (v := .ty "bool") (u := .type "bool") (by rfl) (T.free 3 rfl) (by decide +kernel) rfl) pa_nil))))))))), ?_⟩
  obtain ⟨d, hd, q⟩ := h
  refine ⟨_, rfl, ?_⟩
  walk_at "dd"
  refine isi_int hd ?_
  refine ⟨_, rfl, ?_⟩
  rw [← isInt_eq] at q
  cases e : isT "int" d with
  | false => rw [e] at q; exact q
  | true =>
    rw [e] at q
    refine ⟨_, rfl, ?_⟩
    refine isi_bool hd ?_
    exact ⟨_, rfl, q⟩
end
def sp_is_index (K : PySem.W.Frag) : Sp := sp2 fun a b H Q E => ∃ d m, Dq K H a d ∧ b = .int m ∧ Q (.bl (isIdx d m)) H
section
variable {K : PySem.W.Frag} {mg : Str → Option Value} {P : Program} {w : World} {base : Heap}
theorem ok_is_index (T : Tx K mg) : Cal P w K mg base CX0 2 "is_index" ["value", "many"] (sp_is_index K) := by
  refine cal_of (fD_is_index T) (T.glo 12 rfl) sc_is_index (fun _ _ _ _ _ _ us hl => match us, hl with | [_, _], _ => rfl) (fun vs H Q E h => len2 h) (fun f cdv A outer s H vs Q E hr h => ?_)
  obtain ⟨a, b, rfl, h⟩ := h
  refine ⟨_, (PSs.nox (pss_one (ps_ret (pe_and (pe_c (ok_is_integer T) (hr.mono (by decide)) rfl pass0 (pa_cons (pv 0) pa_nil)) (pe_one (pe_chain op_le op_lt pe_int (pv 0) (pv 1))))))), ?_⟩
  obtain ⟨d, m, hd, rfl, q⟩ := h
  refine ⟨_, rfl, ?_⟩
  refine ⟨_, rfl, d, hd, _, rfl, ?_⟩
  cases d with
  | int i =>
    cases hd
    refine ⟨_, rfl, 0, i, rfl, rfl, _, rfl, ?_⟩
    by_cases c : (0 : Int) ≤ i
    · rw [decide_eq_true c]
      refine ⟨_, rfl, _, _, rfl, rfl, ?_⟩
      simp only [isIdx, decide_eq_true c, Bool.true_and] at q
      exact q
    · rw [decide_eq_false c]
      simp only [isIdx, decide_eq_false c, Bool.false_and] at q
      exact q
  | _ => exact q
end
theorem isSeq_eq (d : PyData) : (isT "list" d || isT "tuple" d) = isSeq d := by cases d <;> rfl
def sp_is_list (K : PySem.W.Frag) : Sp := sp1 fun a H Q E => ∃ d, Dq K H a d ∧ ∀ H', Ex H H' → Q (.bl (isSeq d)) H'
section
variable {K : PySem.W.Frag} {mg : Str → Option Value} {P : Program} {w : World} {base : Heap}
theorem ok_is_list (T : Tx K mg) : Cal P w K mg base CX0 1 "is_list" ["value"] (sp_is_list K) := by
  refine cal_of (fD_is_list T) (T.glo 13 rfl) sc_is_list (fun _ _ _ _ _ _ us hl => match us, hl with | [_], _ => rfl) (fun vs H Q E h => len1 h) (fun f cdv A outer s H vs Q E hr h => ?_)
  obtain ⟨a, rfl, h⟩ := h
  refine ⟨_, (PSs.nox (pss_one (ps_ret (pe_callB (call_isiTK (K := K)) (by rfl) (T.free 6 rfl) (by decide +kernel) (pa_cons (pv 0) (pa_cons (pe_tup (pa_cons (pe_bltn (v := .ty "list") (u := .type "list") (by rfl) (T.free 8 rfl) (by decide +kernel) rfl) (pa_cons (pe_bltn (v := .ty "tuple") (u := .type "tuple") (by rfl) (T.free 17 rfl) (by decide +kernel) rfl) pa_nil))) pa_nil)))))), ?_⟩
  obtain ⟨d, hd, q⟩ := h
  refine ⟨_, rfl, (by show 2 ≤ sizeLine; decide), fun p hp => ?_⟩
  refine isi_seq (hd.mono (Evl.Ex.new hp)) upd_same ?_
  rw [isSeq_eq]
  exact q _ (Evl.Ex.new hp)
end
/-- data that is a list or a tuple, as it lies -/
theorem dq_seq {K : PySem.W.Frag} {H : Hp} {v : V} {d : PyData} (h : Dq K H v d) (hs : isSeq d = true) : ∃ a xs, v = .ref a ∧ (SqL K H a xs ∨ SqT K H a xs) ∧ Dqs K H xs (items d) := by
  cases h with
  | lst h g => exact ⟨_, _, rfl, .inl h, g⟩
  | tup h g => exact ⟨_, _, rfl, .inr h, g⟩
  | _ => cases hs
theorem dqs_nth {K : PySem.W.Frag} {H : Hp} {xs : List V} {ds : List PyData} (h : Dqs K H xs ds) {i : Nat} (hi : i < xs.length) : ∃ d, ds[i]? = some d ∧ Dq K H (G.nth xs i) d := h.get (nth_at hi)
def areIdx (d : PyData) (m : Int) : Bool := isSeq d && (items d).all (isIdx · m)
theorem all_nth {α : Type} (l : List α) (f : α → Bool) (b : Nat → Bool) (h : ∀ i x, l[i]? = some x → b i = f x) : ((List.range l.length).map b).all id = l.all f := by
  refine Bool.eq_iff_iff.mpr (List.all_eq_true.trans (Iff.trans ?_ List.all_eq_true.symm))
  simp only [List.mem_range, List.mem_map, id]
  constructor
  · intro z x hx
    have ⟨i, hi, ex⟩ := List.getElem_of_mem hx
    subst ex
    rw [← h i _ (List.getElem?_eq_getElem hi)]
    exact z _ ⟨i, hi, rfl⟩
  · rintro z _ ⟨i, hi, rfl⟩
    rw [h i _ (List.getElem?_eq_getElem hi)]
    exact z _ (List.getElem_mem hi)
theorem line_big {n : Nat} (h : n ≤ 100000) : n < sizeLine := by rw [sizeLine_eq]; omega
def sp_are_indices (K : PySem.W.Frag) : Sp := sp2 fun a b H Q E => ∃ d m, Dq K H a d ∧ b = .int m ∧ (items d).length ≤ 100000 ∧ ∀ H', Ex H H' → Q (.bl (areIdx d m)) H'
section
variable {K : PySem.W.Frag} {mg : Str → Option Value} {P : Program} {w : World} {base : Heap}
theorem ok_are_indices (T : Tx K mg) : Cal P w K mg base CX0 3 "are_indices" ["value", "many"] (sp_are_indices K) := by
  refine cal_of (fD_are_indices T) (T.glo 14 rfl) sc_are_indices (fun _ _ _ _ _ _ us hl => match us, hl with | [_, _], _ => rfl) (fun vs H Q E h => len2 h) (fun f cdv A outer s H vs Q E hr h => ?_)
  obtain ⟨a, b, rfl, h⟩ := h
  refine ⟨_, (PSs.nox (pss_one (ps_ret (pe_and (pe_c (ok_is_list T) (hr.mono (by decide)) rfl pass0 (pa_cons (pv 0) pa_nil)) (pe_one (pe_callB (cr_allK (K := K) rfl) (by rfl) (T.free 2 rfl) (by decide +kernel) (pa_cons (pe_lc (own := [("item", 2)]) rfl sc_are_indices.nd (pi_seq (pv 0)) (blkOk_by (own := [("item", 2)]) (N := ["value", "many", "item"]) (sc := defScope st_are_indices) (by decide +kernel)) (fun _ _ _ _ _ => (pg_name (i := 2) sc_are_indices.nd rfl (Or.inl rfl))) (fun _ _ _ _ _ => pts_nil) (fun _ _ _ _ _ => (pe_c (ok_is_index T) (hr.mono (by decide)) rfl pass0 (pa_cons (pv 2) (pa_cons (pv 1) pa_nil))))) pa_nil))))))), ?_⟩
  obtain ⟨d, m, hd, rfl, hl, q⟩ := h
  refine ⟨_, rfl, _, rfl, d, hd, fun H1 e1 => ⟨_, rfl, ?_⟩⟩
  unfold areIdx at q
  cases es : isSeq d with
  | false => rw [es] at q; exact q _ e1
  | true =>
    rw [es, Bool.true_and] at q
    obtain ⟨p, xs, rfl, hx, hds⟩ := dq_seq (hd.mono e1) es
    have hn := hds.length
    refine iteT ?_
    walk_at "dd"
    refine lc_at (fun _ => true) (fun i D y H' => y = .bl (isIdx ((items d)[i]?.getD .none) m)) (line_big (n := xs.length) (by omega)) (fun P q => l_seq rfl hx q) (fun _ _ _ _ _ _ h => h) (fun _ _ _ _ _ _ h => h) ?_ ?_
    · intro i D H2 hi hD e2 hacc Ny Nn hy _
      refine ⟨rfl, ?_⟩
      obtain ⟨di, h1, h2⟩ := dqs_nth hds hi
      refine ⟨_, rfl, _, rfl, _, _, rfl, di, m, h2.mono e2, rfl, ?_⟩
      refine hy _ _ rfl (Evl.Ex.refl _) ?_
      rw [h1]; rfl
    · intro D ys H2 hD e2 hd2 f
      rw [range_all] at f
      have ey := F2.map_eq (f := fun i => V.bl (isIdx ((items d)[i]?.getD .none) m)) f
      refine ⟨D, (List.range xs.length).map (fun i => isIdx ((items d)[i]?.getD .none) m), rfl, SqL.of (by rw [hd2, ey, List.map_map]; rfl), ?_⟩
      rw [hn, all_nth (items d) (isIdx · m) _ (fun i x hx => by rw [hx]; rfl)]
      exact q _ (e1.trans e2)
end

end T1

namespace T1
open PySem PySem.Spec PyProof.Rows L2 G
open Evl (Ex)
local macro_rules | `(tactic| walk_at "dd") => `(tactic| (dsimp only [tCB, tCons, tNil, tC, tOp, tUn, tTest, tB, tVar, tAndV, tOrV, tNotV, tIf, tAnd, tOr, tNot, tSeq, tRet, tRetN, tIfS, tAsg, gName, tDrop, tTup, tLst, tChain, tNext, tCall, L2.start]))
def isRd (d : PyData) (m : Int) : Bool := match d with
  | .tuple [.int u, .int v] => (decide (0 ≤ u) && decide (u < m)) && ((decide (0 ≤ v) && decide (v < m)) && decide (u < v))
  | _ => false
theorem isRd_eq (a b : PyData) (m : Int) : isRd (.tuple [a, b]) m = (isIdx a m && (isIdx b m && match a, b with | .int u, .int v => decide (u < v) | _, _ => false)) := by
  cases a <;> cases b <;> simp [isRd, isIdx]
theorem isIdx_int {d : PyData} {m : Int} (h : isIdx d m = true) : ∃ i, d = .int i ∧ 0 ≤ i ∧ i < m := by
  cases d <;> simp [isIdx] at h
  exact ⟨_, rfl, h.1, h.2⟩
def sp_is_road (K : PySem.W.Frag) : Sp := sp2 fun a b H Q E => ∃ d m, Dq K H a d ∧ b = .int m ∧ (items d).length ≤ 100000 ∧ Q (.bl (isRd d m)) H
section
variable {K : PySem.W.Frag} {mg : Str → Option Value} {P : Program} {w : World} {base : Heap}
theorem ok_is_road (T : Tx K mg) : Cal P w K mg base CX0 3 "is_road" ["value", "houses"] (sp_is_road K) := by
  refine cal_of (fD_is_road T) (T.glo 16 rfl) sc_is_road (fun _ _ _ _ _ _ us hl => match us, hl with | [_, _], _ => rfl) (fun vs H Q E h => len2 h) (fun f cdv A outer s H vs Q E hr h => ?_)
  obtain ⟨a, b, rfl, h⟩ := h
  refine ⟨_, (PSs.nox (pss_cons (ps_if (PW.pt (pw_or (pt_not (pt_val (pe_callB (call_isiK' (K := K)) (by rfl) (T.free 6 rfl) (by decide +kernel) (pa_cons (pv 0) (pa_cons (pe_bltn (v := .ty "tuple") (u := .type "tuple") (by rfl) (T.free 17 rfl) (by decide +kernel) rfl) pa_nil))))) (pw_or1 (pt_cmpR op_ne (pe_callB (call_lenK (K := K)) (by rfl) (T.free 7 rfl) (by decide +kernel) (pa_cons (pv 0) pa_nil)) pe_int (nomark _))))) (pss_one (ps_ret pe_bl)) pss_nil)
      (pss_cons (ps_asg (pv 0) (pg_tup (n := 2) rfl (pgs_cons (pg_name (i := 2) sc_is_road.nd rfl (Or.inl rfl)) (pgs_cons (pg_name (i := 3) sc_is_road.nd rfl (Or.inl rfl)) pgs_nil))))
      (pss_one (ps_ret (pe_and (pe_c (ok_is_index T) (hr.mono (by decide)) rfl pass0 (pa_cons (pv 2) (pa_cons (pv 1) pa_nil))) (pe_and (pe_c (ok_is_index T) (hr.mono (by decide)) rfl pass0 (pa_cons (pv 3) (pa_cons (pv 1) pa_nil))) (pe_one (pe_cmpR op_lt (pv 2) (pv 3) (nomark _)))))))))), ?_⟩
  obtain ⟨d, m, hd, rfl, hl, q⟩ := h
  refine ⟨_, rfl, ?_⟩
  walk_at "dd"
  refine isi_tup hd ?_
  refine ⟨_, rfl, ?_⟩
  by_cases et : isT "tuple" d = true
  · obtain ⟨ds, rfl⟩ : ∃ ds, d = .tuple ds := by cases d <;> first | exact ⟨_, rfl⟩ | cases et
    rw [et]
    cases hd with
    | @tup p xs _ hx hds =>
    refine ⟨_, rfl, p, xs, rfl, .inr hx, rfl, _, rfl, ?_⟩
    have hn := hds.length
    by_cases c : ds.length = 2
    · rw [decide_eq_true (show V.int (xs.length : Int) = V.int 2 by rw [hn, c]; rfl)]
      obtain ⟨x, y, rfl⟩ : ∃ x y, ds = [x, y] := by
        match ds, c with
        | [x, y], _ => exact ⟨x, y, rfl⟩
      cases hds with
      | cons h1 h2 =>
      cases h2 with
      | cons h2 h3 =>
      cases h3
      rename_i v1 v2
      refine ⟨_, rfl, p, _, rfl, hx, rfl, _, _, rfl, _, _, rfl, rfl, ?_⟩
      rw [isRd_eq] at q
      refine ⟨_, rfl, _, rfl, _, _, rfl, x, m, h1, rfl, _, rfl, ?_⟩
      cases e1 : isIdx x m with
      | false => rw [e1, Bool.false_and] at q; exact q
      | true =>
        rw [e1, Bool.true_and] at q
        refine ⟨_, rfl, _, rfl, _, _, rfl, y, m, h2, rfl, _, rfl, ?_⟩
        cases e2 : isIdx y m with
        | false => rw [e2, Bool.false_and] at q; exact q
        | true =>
          rw [e2, Bool.true_and] at q
          obtain ⟨i, rfl, _⟩ := isIdx_int e1
          obtain ⟨j, rfl, _⟩ := isIdx_int e2
          cases h1; cases h2
          exact ⟨_, rfl, _, rfl, _, _, rfl, rfl, q⟩
    · rw [decide_eq_false (show ¬ V.int (xs.length : Int) = V.int 2 from fun z => c (by have := V.int.inj z; omega))]
      have : isRd (.tuple ds) m = false := by
        unfold isRd; split
        · rename_i u v e; cases e; exact absurd rfl c
        · rfl
      rw [this] at q
      exact q
  · rw [Bool.not_eq_true] at et
    rw [et]
    have : isRd d m = false := by unfold isRd; cases d <;> first | rfl | cases et
    rw [this] at q
    exact q
end
def rd : PyData → Int × Int
  | .tuple [.int u, .int v] => (u, v)
  | _ => (0, 0)
def ltR (p q : Int × Int) : Bool := decide (p.1 < q.1) || (decide (p.1 = q.1) && decide (p.2 < q.2))
theorem lex_ltR (a b c d : Int) : HT.lexLt [a, b] [c, d] = ltR (a, b) (c, d) := by
  rw [HT.lexLt_cons, HT.lexLt_cons, HT.lexLt_nil_nil]
  unfold ltR
  by_cases h : a = c
  · subst h; rw [if_pos rfl]
    by_cases h2 : b = d
    · subst h2; simp
    · rw [if_neg h2]; simp
  · rw [if_neg h]; simp [h]
/-- ascending, neighbour by neighbour -/
def asc (l : List (Int × Int)) : Bool := ((List.range (l.length - 1)).map fun i => ltR (l[i]?.getD (0, 0)) (l[i + 1]?.getD (0, 0))).all id
def areRds (d : PyData) (m : Int) : Bool := isSeq d && (decide (((items d).length : Int) = m - 1) && ((items d).all (isRd · m) && asc ((items d).map rd)))
theorem isRd_of {d : PyData} {m : Int} (h : isRd d m = true) : ∃ u v, d = .tuple [.int u, .int v] ∧ 0 ≤ u ∧ u < m ∧ 0 ≤ v ∧ v < m ∧ u < v := by
  unfold isRd at h
  split at h
  · simp at h; exact ⟨_, _, rfl, by omega, by omega, by omega, by omega, by omega⟩
  · cases h
theorem ix_seq_at {K : PySem.W.Frag} {H : Hp} {a : Addr} {xs : List V} {i : Nat} {v : V} {Q : VK} (h : SqL K H a xs ∨ SqT K H a xs) (hv : xs[i]? = some v) (q : Q v H) : rIx K (.ref a) (.int (i : Int)) H Q := by
  rcases h with h | h
  · exact .inl ⟨a, xs, _, v, rfl, rfl, h, atI_nat hv, q⟩
  · exact .inr (.inl ⟨a, xs, _, v, rfl, rfl, h, atI_nat hv, q⟩)
theorem pair_at {K : PySem.W.Frag} {H : Hp} {v : V} {i j : Int} (h : Dq K H v (.tuple [.int i, .int j])) : ∃ t, v = .ref t ∧ SqT K H t [.int i, .int j] := by
  cases h with
  | tup h hs =>
    cases hs with
    | cons a hs => cases hs with
      | cons b hs => cases a; cases b; cases hs; exact ⟨_, rfl, h⟩
def sp_are_roads (K : PySem.W.Frag) : Sp := sp2 fun a b H Q E => ∃ d m, Dq K H a d ∧ b = .int m ∧ (items d).length ≤ 100000 ∧ (∀ x ∈ items d, (items x).length ≤ 100000) ∧ ∀ H', Ex H H' → Q (.bl (areRds d m)) H'
section
variable {K : PySem.W.Frag} {mg : Str → Option Value} {P : Program} {w : World} {base : Heap}
theorem ok_are_roads (T : Tx K mg) : Cal P w K mg base CX0 4 "are_roads" ["value", "houses"] (sp_are_roads K) := by
  refine cal_of (fD_are_roads T) (T.glo 17 rfl) sc_are_roads (fun _ _ _ _ _ _ us hl => match us, hl with | [_, _], _ => rfl) (fun vs H Q E h => len2 h) (fun f cdv A outer s H vs Q E hr h => ?_)
  obtain ⟨a, b, rfl, h⟩ := h
  refine ⟨_, (PSs.nox (pss_cons (ps_if (PW.pt (pw_or (pt_not (pt_val (pe_c (ok_is_list T) (hr.mono (by decide)) rfl pass0 (pa_cons (pv 0) pa_nil)))) (pw_or (pt_cmpR op_ne (pe_callB (call_lenK (K := K)) (by rfl) (T.free 7 rfl) (by decide +kernel) (pa_cons (pv 0) pa_nil)) (pe_op op_sub (pv 1) pe_int) (nomark _)) (pw_or1 (pt_not (pt_val (pe_callB (cr_allK (K := K) rfl) (by rfl) (T.free 2 rfl) (by decide +kernel) (pa_cons (pe_lc (own := [("road", 3)]) rfl sc_are_roads.nd (pi_seq (pv 0)) (blkOk_by (own := [("road", 3)]) (N := ["value", "houses", "at", "road"]) (sc := defScope st_are_roads) (by decide +kernel)) (fun _ _ _ _ _ => (pg_name (i := 3) sc_are_roads.nd rfl (Or.inl rfl))) (fun _ _ _ _ _ => pts_nil) (fun _ _ _ _ _ => (pe_c (ok_is_road T) (hr.mono (by decide)) rfl pass0 (pa_cons (pv 3) (pa_cons (pv 1) pa_nil))))) pa_nil)))))))) (pss_one (ps_ret pe_bl)) pss_nil)
      (pss_one (ps_ret (pe_callB (cr_allK (K := K) rfl) (by rfl) (T.free 2 rfl) (by decide +kernel) (pa_cons (pe_lc (own := [("at", 2)]) rfl sc_are_roads.nd (pi_range1 (by rfl) (T.free 11 rfl) (pa_cons (pe_op op_sub (pe_callB (call_lenK (K := K)) (by rfl) (T.free 7 rfl) (by decide +kernel) (pa_cons (pv 0) pa_nil)) pe_int) pa_nil)) (blkOk_by (own := [("at", 2)]) (N := ["value", "houses", "at", "road"]) (sc := defScope st_are_roads) (by decide +kernel)) (fun _ _ _ _ _ => (pg_name (i := 2) sc_are_roads.nd rfl (Or.inl rfl))) (fun _ _ _ _ _ => pts_nil) (fun _ _ _ _ _ => (pe_cmpR (op_ltTK (K := K) (hu0 hr.r)) (pe_ix (ix_seqK (K := K)) (pv 0) (pv 2) (fun _ _ => rfl)) (pe_ix (ix_seqK (K := K)) (pv 0) (pe_op op_add (pv 2) pe_int) (fun _ _ => rfl)) (nomark _)))) pa_nil)))))), ?_⟩
  obtain ⟨d, m, hd, rfl, hl, hl2, q⟩ := h
  refine ⟨_, rfl, _, rfl, d, hd, fun H1 e1 => ⟨_, rfl, ?_⟩⟩
  unfold areRds at q
  cases es : isSeq d with
  | false => rw [es] at q; exact q _ e1
  | true =>
  rw [es, Bool.true_and] at q
  obtain ⟨p, xs, rfl, hx, hds⟩ := dq_seq (hd.mono e1) es
  have hn := hds.length
  refine ⟨_, rfl, p, xs, rfl, hx, ?_⟩
  refine ⟨_, rfl, _, _, rfl, rfl, rfl, _, rfl, ?_⟩
  by_cases c : ¬ ((items d).length : Int) = m - 1
  · rw [decide_eq_false (show ¬ V.int (xs.length : Int) = V.int (m - 1) from fun z => c (by have := V.int.inj z; omega))]
    rw [decide_eq_false c, Bool.false_and] at q
    exact q _ e1
  replace c := Decidable.not_not.mp c
  rw [decide_eq_true (show V.int (xs.length : Int) = V.int (m - 1) by rw [hn, c])]
  rw [decide_eq_true c, Bool.true_and] at q
  refine iteF ?_
  walk_at "dd"
  refine lc_at (fun _ => true) (fun i D y H' => y = .bl (isRd ((items d)[i]?.getD .none) m)) (line_big (n := xs.length) (by omega)) (fun P q => l_seq rfl hx q) (fun _ _ _ _ _ _ h => h) (fun _ _ _ _ _ _ h => h) ?_ ?_
  · intro i D H2 hi hD e2 hacc Ny Nn hy _
    refine ⟨rfl, ?_⟩
    obtain ⟨di, h1, h2⟩ := dqs_nth hds hi
    refine ⟨_, rfl, _, rfl, _, _, rfl, di, m, h2.mono e2, rfl, hl2 _ (List.mem_of_getElem? h1), ?_⟩
    refine hy _ _ rfl (Evl.Ex.refl _) ?_
    rw [h1]; rfl
  · intro D ys H2 hD e2 hd2 f
    rw [range_all] at f
    have ey := F2.map_eq (f := fun i => V.bl (isRd ((items d)[i]?.getD .none) m)) f
    refine ⟨D, (List.range xs.length).map (fun i => isRd ((items d)[i]?.getD .none) m), rfl, SqL.of (by rw [hd2, ey, List.map_map]; rfl), ?_⟩
    rw [hn, all_nth (items d) (isRd · m) _ (fun i x hx => by rw [hx]; rfl)]
    refine ⟨_, rfl, ?_⟩
    cases ea : (items d).all (isRd · m) with
    | false => rw [ea] at q; exact q _ (e1.trans e2)
    | true =>
    rw [ea, Bool.true_and] at q
    have all := List.all_eq_true.mp ea
    have hx2 : SqL K H2 p xs ∨ SqT K H2 p xs := hx.imp (Evl.ex_l e2) (Evl.ex_t e2)
    refine iteF ?_
    refine lc_at (n := xs.length - 1) (item := fun i => .int (0 + i)) (fun _ => true) (fun i D y H' => y = .bl (ltR (rd ((items d)[i]?.getD .none)) (rd ((items d)[i + 1]?.getD .none)))) (line_big (n := xs.length - 1) (by omega)) (fun P q => ?_) (fun _ _ _ _ _ _ h => h) (fun _ _ _ _ _ _ h => h) ?_ ?_
    · refine ⟨_, rfl, p, xs, rfl, hx2, _, _, rfl, rfl, _, rfl, by omega, by omega, ?_⟩
      have e0 : ((xs.length : Int) - 1).toNat = xs.length - 1 := by omega
      rw [e0]
      exact q _ _ (Evl.Ex.refl _) (its_r 0 _)
    · intro i D' H3 hi hD' e3 hacc Ny Nn hy _
      refine ⟨rfl, ?_⟩
      obtain ⟨d1, a1, b1⟩ := dqs_nth hds (i := i) (by omega)
      obtain ⟨d2, a2, b2⟩ := dqs_nth hds (i := i + 1) (by omega)
      obtain ⟨u1, v1, rfl, _⟩ := isRd_of (all _ (List.mem_of_getElem? a1))
      obtain ⟨u2, v2, rfl, _⟩ := isRd_of (all _ (List.mem_of_getElem? a2))
      have e13 := e2.trans e3
      have hx3 : SqL K H3 p xs ∨ SqT K H3 p xs := hx.imp (Evl.ex_l e13) (Evl.ex_t e13)
      have ei : ((0 : Int) + (i : Int)) = ((i : Nat) : Int) := by omega
      have ei' : ((0 : Int) + (i : Int)) + 1 = ((i + 1 : Nat) : Int) := by omega
      refine ⟨_, rfl, _, rfl, ?_⟩
      show rIx K (.ref p) (.int ((0 : Int) + (i : Int))) H3 _
      rw [ei]
      refine ix_seq_at hx3 (nth_at (by omega)) ⟨_, rfl, _, rfl, _, _, rfl, rfl, ?_⟩
      show rIx K (.ref p) (.int ((i : Int) + 1)) H3 _
      rw [show ((i : Int) + 1) = ((i + 1 : Nat) : Int) by omega]
      refine ix_seq_at hx3 (nth_at (by omega)) ?_
      obtain ⟨t1, q1, s1⟩ := pair_at b1
      obtain ⟨t2, q2, s2⟩ := pair_at b2
      refine ⟨t1, t2, [u1, v1], [u2, v2], q1, q2, Evl.ex_t e13 s1, Evl.ex_t e13 s2, ?_⟩
      rw [lex_ltR]
      refine hy _ _ rfl (Evl.Ex.refl _) ?_
      rw [a1, a2]; rfl
    · intro D' ys H3 hD' e3 hd3 f
      rw [range_all] at f
      have ey := F2.map_eq (f := fun i => V.bl (ltR (rd ((items d)[i]?.getD .none)) (rd ((items d)[i + 1]?.getD .none)))) f
      refine ⟨D', (List.range (xs.length - 1)).map (fun i => ltR (rd ((items d)[i]?.getD .none)) (rd ((items d)[i + 1]?.getD .none))), rfl, SqL.of (by rw [hd3, ey, List.map_map]; rfl), ?_⟩
      have z := q _ ((e1.trans e2).trans e3)
      unfold asc at z
      rw [List.length_map, ← hn] at z
      have ef : (List.range (xs.length - 1)).map (fun i => ltR (rd ((items d)[i]?.getD .none)) (rd ((items d)[i + 1]?.getD .none))) = (List.range (xs.length - 1)).map (fun i => ltR (((items d).map rd)[i]?.getD (0, 0)) (((items d).map rd)[i + 1]?.getD (0, 0))) := by
        refine List.map_congr_left ?_
        intro i _
        have g : ∀ j, rd ((items d)[j]?.getD .none) = ((items d).map rd)[j]?.getD (0, 0) := fun j => by
          rw [List.getElem?_map]; cases (items d)[j]? <;> rfl
        rw [g, g]
      rw [ef]; exact z
end

end T1

namespace T1
open PySem PySem.Spec PyProof.Rows L2 G
open Evl (Ex)
local macro_rules | `(tactic| walk_at "dd") => `(tactic| (dsimp only [tCB, tCons, tNil, tC, tOp, tUn, tTest, tB, tVar, tAndV, tOrV, tNotV, tIf, tAnd, tOr, tNot, tSeq, tRet, tRetN, tIfS, tAsg, gName, tDrop, tTup, tLst, tChain, tNext, tCall, L2.start]))
/-- the roads of a list as pairs of naturals -/
def rdN (p : Int × Int) : Nat × Nat := (p.1.toNat, p.2.toNat)
/-- houses u, v have a road -/
def adj (rs : List (Nat × Nat)) (u v : Nat) : Bool := rs.contains (u, v) || rs.contains (v, u)
/-- what the lists of neighbours hold behind the first roads -/
def acc (rs : List (Nat × Nat)) (h : Nat) : List Nat := rs.flatMap fun p => (if p.1 = h then [p.2] else []) ++ (if p.2 = h then [p.1] else [])
def nb (rs : List (Nat × Nat)) (n h : Nat) : List Nat := (List.range n).filter (adj rs h)
def intD (k : Nat) : PyData := .int (k : Int)
def pairD (p : Nat × Nat) : PyData := .tuple [intD p.1, intD p.2]
def rowD (l : List Nat) : PyData := .tuple (l.map intD)
def rowsD (ls : List (List Nat)) : PyData := .tuple (ls.map rowD)
def iV (k : Nat) : V := .int (k : Int)
theorem acc_snoc (rs : List (Nat × Nat)) (p : Nat × Nat) (h : Nat) : acc (rs ++ [p]) h = acc rs h ++ ((if p.1 = h then [p.2] else []) ++ (if p.2 = h then [p.1] else [])) := by
  simp [acc]
/-- roads that are no loop, each once, either way round -/
structure Good (n : Nat) (rs : List (Nat × Nat)) : Prop where
  lt : ∀ p ∈ rs, p.1 < p.2 ∧ p.2 < n
  nd : rs.Nodup
theorem mem_acc {rs : List (Nat × Nat)} {h v : Nat} : v ∈ acc rs h ↔ adj rs h v = true := by
  simp only [acc, List.mem_flatMap, List.mem_append, adj, Bool.or_eq_true, List.contains_iff_mem]
  constructor
  · rintro ⟨⟨a, b⟩, hp, h1 | h1⟩
    · split at h1
      · rename_i c; simp at h1 c; subst h1 c; exact .inl hp
      · cases h1
    · split at h1
      · rename_i c; simp at h1 c; subst h1 c; exact .inr hp
      · cases h1
  · rintro (hp | hp)
    · exact ⟨_, hp, .inl (by simp)⟩
    · exact ⟨_, hp, .inr (by simp)⟩
theorem acc_nodup {n : Nat} : ∀ {rs : List (Nat × Nat)}, Good n rs → ∀ h, (acc rs h).Nodup
  | [], _, h => by simp [acc]
  | p :: rs, G, h => by
    obtain ⟨a, b⟩ := p
    have G' : Good n rs := ⟨fun p hp => G.lt p (List.mem_cons_of_mem _ hp), (List.nodup_cons.mp G.nd).2⟩
    have ih := acc_nodup G' h
    have hn := (List.nodup_cons.mp G.nd).1
    obtain ⟨l1, l2⟩ := G.lt (a, b) (List.mem_cons_self ..)
    simp only at l1 l2
    have noR : (b, a) ∉ rs := fun z => by have := (G'.lt _ z).1; simp only at this; omega
    have e : acc ((a, b) :: rs) h = ((if a = h then [b] else []) ++ (if b = h then [a] else [])) ++ acc rs h := by simp [acc]
    rw [e]
    by_cases c1 : a = h
    · have c2 : b ≠ h := by omega
      subst c1
      rw [if_pos rfl, if_neg c2, List.append_nil, List.singleton_append, List.nodup_cons]
      refine ⟨fun z => ?_, ih⟩
      rw [mem_acc] at z
      simp only [adj, Bool.or_eq_true, List.contains_iff_mem] at z
      exact z.elim hn noR
    · rw [if_neg c1, List.nil_append]
      by_cases c2 : b = h
      · subst c2
        rw [if_pos rfl, List.singleton_append, List.nodup_cons]
        refine ⟨fun z => ?_, ih⟩
        rw [mem_acc] at z
        simp only [adj, Bool.or_eq_true, List.contains_iff_mem] at z
        exact z.elim noR hn
      · rw [if_neg c2, List.nil_append]; exact ih
theorem nb_perm {n : Nat} {rs : List (Nat × Nat)} (G : Good n rs) (h : Nat) : (nb rs n h).Perm (acc rs h) := by
  refine (List.perm_ext_iff_of_nodup (List.nodup_range.filter _) (acc_nodup G h)).mpr fun v => ?_
  rw [mem_acc, List.mem_filter, List.mem_range]
  constructor
  · exact fun z => z.2
  · intro z
    refine ⟨?_, z⟩
    simp only [adj, Bool.or_eq_true, List.contains_iff_mem] at z
    rcases z with z | z
    · exact (G.lt _ z).2
    · have := G.lt _ z; simp only at this; omega
/-- sorted and of the same items: the same -/
theorem sort_unique : ∀ {xs ys : List Int}, xs.Perm ys → xs.Pairwise (· ≤ ·) → ys.Pairwise (· ≤ ·) → xs = ys := fun {xs ys} p h1 h2 =>
  p.eq_of_pairwise (fun a b _ _ h h' => Int.le_antisymm h h') h1 h2
/-! lists in a list, all made here -/
structure Nest (B : Hp) (D : Addr) (qs : List Addr) : Prop where
  fD : B D = none
  fq : ∀ q ∈ qs, B q = none ∧ q ≠ D
  nd : qs.Nodup
structure NestAt (B : Hp) (D : Addr) (qs : List Addr) (f : Nat → List V) (H : Hp) : Prop where
  ex : Ex B H
  hD : H D = some (.lst (qs.map .ref))
  hq : ∀ j q, qs[j]? = some q → H q = some (.lst (f j))
theorem NestAt.push {B H : Hp} {D : Addr} {qs : List Addr} {f : Nat → List V} (N : Nest B D qs) (h : NestAt B D qs f H) {u : Nat} {q : Addr} (hu : qs[u]? = some q) (ys : List V) : NestAt B D qs (fun j => if j = u then ys else f j) (upd H q (.lst ys)) := by
  obtain ⟨n1, n2⟩ := N.fq q (List.mem_of_getElem? hu)
  refine ⟨Evl.Ex.mut h.ex n1, by rw [upd_ne n2.symm]; exact h.hD, fun j q' hj => ?_⟩
  by_cases c : j = u
  · subst c; rw [hu] at hj; cases hj; rw [upd_same, if_pos rfl]
  · have : q' ≠ q := fun z => c (nd_ix N.nd hj (z ▸ hu))
    rw [upd_ne this, if_neg c]; exact h.hq j q' hj
theorem nest_new {B : Hp} {D : Addr} {qs : List Addr} {p : Addr} {H : Hp} (N : Nest B D qs) (h : NestAt B D qs (fun _ => []) H) (hp : H p = none) : Nest B D (qs ++ [p]) ∧ NestAt B D (qs ++ [p]) (fun _ => []) (upd (upd H p (.lst [])) D (.lst (qs.map .ref ++ [.ref p]))) := by
  have pD : p ≠ D := fun z => by rw [z, h.hD] at hp; cases hp
  have pq : p ∉ qs := fun z => by
    obtain ⟨j, hj, e⟩ := List.getElem_of_mem z
    have y := h.hq j p (by rw [List.getElem?_eq_getElem hj, e])
    rw [hp] at y; cases y
  refine ⟨⟨N.fD, fun q hq => ?_, ?_⟩, ⟨Evl.Ex.mut (Evl.Ex.mut h.ex (Evl.fresh_back h.ex hp)) N.fD, by rw [upd_same, List.map_append]; rfl, fun j q hj => ?_⟩⟩
  · rcases List.mem_append.mp hq with z | z
    · exact N.fq q z
    · rw [List.mem_singleton.mp z]; exact ⟨Evl.fresh_back h.ex hp, pD⟩
  · rw [List.nodup_append]
    exact ⟨N.nd, by simp, fun a ha b hb z => pq (by rw [← List.mem_singleton.mp hb, ← z]; exact ha)⟩
  · have hm := List.mem_of_getElem? hj
    rcases List.mem_append.mp hm with z | z
    · have q1 : q ≠ p := fun e => pq (e ▸ z)
      have q2 := (N.fq q z).2
      rw [upd_ne q2, upd_ne q1]
      by_cases c : j < qs.length
      · rw [List.getElem?_append_left c] at hj; exact h.hq j q hj
      · rw [List.getElem?_append_right (by omega)] at hj
        exact absurd (List.mem_singleton.mp (List.mem_of_getElem? hj)) q1
    · rw [List.mem_singleton.mp z, upd_ne pD, upd_same]
theorem take_snoc {α : Type} {l : List α} {i : Nat} {x : α} (h : l[i]? = some x) : l.take (i + 1) = l.take i ++ [x] := by
  rw [List.take_add_one, h]; rfl
theorem w_rng1 {H : Hp} {ta : TA} {σ : L2.St} {n : Nat} {P : It → Hp → Prop} (h : ∀ Q : List V → Hp → Prop, Q [.int (n : Int)] H → ta σ H Q) (hn : n ≤ 100000) (q : ∀ J H1, Ex H H1 → ItS J H n (fun i => .int (0 + i)) → P J H1) : iRng1 ta σ H P :=
  h _ ⟨_, rfl, by omega, by omega, by
    have e : ((n : Int)).toNat = n := by omega
    rw [e]
    exact q _ _ (Evl.Ex.refl _) (its_r 0 n)⟩
theorem acc_len : ∀ (rs : List (Nat × Nat)) (h : Nat), (acc rs h).length ≤ 2 * rs.length
  | [], h => by simp [acc]
  | p :: rs, h => by
    have ih := acc_len rs h
    have e : acc (p :: rs) h = ((if p.1 = h then [p.2] else []) ++ (if p.2 = h then [p.1] else [])) ++ acc rs h := by simp [acc]
    rw [e]
    by_cases c1 : p.1 = h <;> by_cases c2 : p.2 = h <;> simp [c1, c2] <;> omega
theorem f2_dqs {K : PySem.W.Frag} {H : Hp} {f : Nat → PyData} : ∀ {is : List Nat} {ys : List V}, F2 (fun i y => Dq K H y (f i)) is ys → Dqs K H ys (is.map f)
  | _, _, .nil => .nil
  | _, _, .cons h hs => .cons h (f2_dqs hs)
theorem rowV {K : PySem.W.Frag} {H : Hp} : ∀ (l : List Nat), Dqs K H (l.map iV) (l.map intD)
  | [] => .nil
  | k :: l => .cons (.int _) (rowV l)
def sp_joined_by (K : PySem.W.Frag) : Sp := sp2 fun a b H Q E => ∃ (n : Nat) (rs : List (Nat × Nat)) (d : PyData), a = .int (n : Int) ∧ n ≤ 1000 ∧ Dq K H b d ∧ isSeq d = true ∧ items d = rs.map pairD ∧ rs.length ≤ 1000 ∧ Good n rs ∧ ∀ r H', Ex H H' → Dq K H' r (rowsD ((List.range n).map (nb rs n))) → Q r H'
section
variable {K : PySem.W.Frag} {mg : Str → Option Value} {P : Program} {w : World} {base : Heap}
theorem ok_joined_by (T : Tx K mg) : Cal P w K mg base CX0 2 "joined_by" ["houses", "roads"] (sp_joined_by K) := by
  refine cal_of (fD_joined_by T) (T.glo 18 rfl) sc_joined_by (fun _ _ _ _ _ _ us hl => match us, hl with | [_, _], _ => rfl) (fun vs H Q E h => len2 h) (fun f cdv A outer s H vs Q E hr h => ?_)
  obtain ⟨a, b, rfl, h⟩ := h
  refine ⟨_, (PSs.nox (pss_cons (ps_setLc (i := 2) (own := [("_", 5)]) rfl sc_joined_by.nd rfl rfl (sw_true rfl rfl rfl (by decide +kernel)) (pi_range1 (by rfl) (T.free 11 rfl) (pa_cons (pv 0) pa_nil)) (blkOk_by (own := [("_", 5)]) (N := ["houses", "roads", "found", "u", "v", "_", "others"]) (sc := defScope st_joined_by) (by decide +kernel)) (fun _ _ _ _ _ => (pg_name (i := 5) sc_joined_by.nd rfl (Or.inl rfl))) (fun _ _ _ _ _ => pts_nil) (fun _ _ _ _ _ => (pe_lst pa_nil)))
      (pss_cons (ps_for PassesOwn.never rfl (pi_seq (pv 1)) (pg_tup (n := 2) rfl (pgs_cons (pg_name (i := 3) sc_joined_by.nd rfl (Or.inl rfl)) (pgs_cons (pg_name (i := 4) sc_joined_by.nd rfl (Or.inl rfl)) pgs_nil))) (pss_cons (ps_expr (pe_bm PySem.F.plainAttrs_list PySem.F.slot_list_append PySem.F.type_list_append mt_append (pe_ix (ix_listK (K := K)) (pv 2) (pv 3) (fun _ _ => rfl)) (pa_cons (pv 4) pa_nil)))
      (pss_one (ps_expr (pe_bm PySem.F.plainAttrs_list PySem.F.slot_list_append PySem.F.type_list_append mt_append (pe_ix (ix_listK (K := K)) (pv 2) (pv 4) (fun _ _ => rfl)) (pa_cons (pv 3) pa_nil))))))
      (pss_one (ps_ret (pe_callTy (call_tupK (K := K)) (by rfl) (T.free 17 rfl) (by decide +kernel) (pa_cons (pe_lc (own := [("others", 6)]) rfl sc_joined_by.nd (pi_list (pv 2)) (blkOk_by (own := [("others", 6)]) (N := ["houses", "roads", "found", "u", "v", "_", "others"]) (sc := defScope st_joined_by) (by decide +kernel)) (fun _ _ _ _ _ => (pg_name (i := 6) sc_joined_by.nd rfl (Or.inl rfl))) (fun _ _ _ _ _ => pts_nil) (fun _ _ _ _ _ => (pe_callTy (call_tupK (K := K)) (by rfl) (T.free 17 rfl) (by decide +kernel) (pa_cons (pe_callB (cr_sortedIK (K := K)) (by rfl) (T.free 14 rfl) (by decide +kernel) (pa_cons (pv 6) pa_nil)) pa_nil)))) pa_nil))))))), ?_⟩
  obtain ⟨n, rs, d, rfl, hn, hd, hs, hi, hrl, G, q⟩ := h
  obtain ⟨p, xs, rfl, hx, hds⟩ := dq_seq hd hs
  rw [hi] at hds
  refine seq_at (asg_at ?_)
  refine lc_inv (n := n) (item := fun i => .int (0 + i)) (B := H) (fun P q => w_rng1 (fun Q q => ⟨_, rfl, q⟩) (by omega) q) (fun D i H' => ∃ qs : List Addr, qs.length = i ∧ Nest H D qs ∧ NestAt H D qs (fun _ => []) H') ?_ ?_ ?_ ?_
  · exact fun D H1 e1 hD => ⟨[], rfl, ⟨Evl.fresh_back e1 hD, by simp, by simp⟩, ⟨Evl.Ex.mut e1 (Evl.fresh_back e1 hD), upd_same, by simp⟩⟩
  · exact fun D i H' ⟨qs, _, _, z⟩ => z.ex
  · rintro D i H' hi ⟨qs, hl, N, z⟩
    refine ⟨rfl, ?_⟩
    refine ⟨Nat.zero_le _, fun r hr => ⟨qs.map .ref, ?_, ?_, qs ++ [r], by rw [List.length_append, hl]; rfl, nest_new N z hr⟩⟩
    · rw [upd_ne (ne_of_none z.hD hr)]; exact z.hD
    · rw [List.length_map, hl, sizeLine_eq]; omega
  · rintro D H1 ⟨qs, hl, N, z⟩
    dsimp only [gName]
    refine seq_at ?_
    refine for_at (B := H) (n := xs.length) (item := _root_.G.nth xs) (fun P q => w_seq rfl hx z.ex q) (fun k σ' H' => (∃ s3 s4 s5 s6, σ' = [some (.int (n : Int)), some (.ref p), some (.ref D), s3, s4, s5, s6]) ∧ NestAt H D qs (fun j => (acc (rs.take k) j).map iV) H') ?_ ?_ ?_ ?_
    · exact fun H2 e2 => ⟨⟨none, none, none, none, rfl⟩, z.ex.trans e2, e2 _ _ z.hD, fun j q hj => e2 _ _ (z.hq j q hj)⟩
    · exact fun k σ' H' h => h.2.ex
    · rintro k σ' H' hk ⟨⟨s3, s4, s5, s6, rfl⟩, z'⟩
      obtain ⟨d', a1, b1⟩ := dqs_nth hds hk
      rw [List.getElem?_map] at a1
      obtain ⟨⟨u, v⟩, hr, rfl⟩ := Option.map_eq_some_iff.mp a1
      obtain ⟨t, q1, s1⟩ := pair_at b1
      obtain ⟨l1, l2⟩ := G.lt (u, v) (List.mem_of_getElem? hr)
      simp only at l1 l2
      have hu : qs[u]? = some qs[u] := List.getElem?_eq_getElem (by omega)
      have hv : qs[v]? = some qs[v] := List.getElem?_eq_getElem (by omega)
      have hla : ∀ j, (acc (rs.take k) j).length ≤ 2000 := fun j => by
        have h1 := acc_len (rs.take k) j
        have h2 : (rs.take k).length ≤ rs.length := by rw [List.length_take]; omega
        omega
      have line : ∀ (l : List Nat), l.length ≤ 3000 → (l.map iV).length < sizeLine := fun l hl => by rw [List.length_map, sizeLine_eq]; omega
      have z1 := z'.push N hu ((acc (rs.take k) u).map iV ++ [iV v])
      have z2 := z1.push N hv ((acc (rs.take k) v).map iV ++ [iV u])
      refine ⟨t, _, q1, Evl.ex_t z'.ex s1, rfl, _, _, rfl, _, _, rfl, rfl, ?_⟩
      refine ⟨_, rfl, _, rfl, D, qs.map .ref, (u : Int), .ref qs[u], rfl, rfl, SqL.of z'.hD, atI_nat (by rw [List.getElem?_map, hu]; rfl), .inl ⟨rfl, _, SqL.of (z'.hq u _ hu)⟩, _, rfl, qs[u], _, _, rfl, rfl, z'.hq u _ hu, line _ (by have := hla u; omega), ?_⟩
      refine ⟨_, rfl, _, rfl, D, qs.map .ref, (v : Int), .ref qs[v], rfl, rfl, SqL.of z1.hD, atI_nat (by rw [List.getElem?_map, hv]; rfl), .inl ⟨rfl, _, SqL.of (z1.hq v _ hv)⟩, _, rfl, qs[v], (acc (rs.take k) v).map iV, _, rfl, rfl, ?_, line _ (by have := hla v; omega), ?_⟩
      · exact (z1.hq v _ hv).trans (by rw [if_neg (show ¬ v = u by omega)])
      · refine ⟨⟨_, _, _, _, rfl⟩, ?_⟩
        have ef : (fun j => (acc (rs.take (k + 1)) j).map iV) = fun j => if j = v then (acc (rs.take k) v).map iV ++ [iV u] else if j = u then (acc (rs.take k) u).map iV ++ [iV v] else (acc (rs.take k) j).map iV := by
          funext j
          rw [take_snoc hr, acc_snoc]
          by_cases c1 : j = v
          · subst c1; rw [if_pos rfl, if_neg (by simp only; omega), if_pos rfl]; simp
          · rw [if_neg c1]
            by_cases c2 : j = u
            · subst c2; rw [if_pos rfl, if_pos rfl, if_neg (by simp only; omega)]; simp
            · rw [if_neg c2, if_neg (by simp only; omega), if_neg (by simp only; omega)]; simp
        rw [ef]; exact z2
    · rintro σ' H' ⟨⟨s3, s4, s5, s6, rfl⟩, z'⟩
      have hxl : xs.length = rs.length := by rw [hds.length, List.length_map]
      rw [hxl, List.take_length] at z'
      dsimp only
      refine ret_at (cb_at ?_)
      refine lc_at (n := (qs.map V.ref).length) (item := _root_.G.nth (qs.map V.ref)) (fun _ => true) (fun i D' y H2 => ∃ t, y = .ref t ∧ t ≠ D' ∧ H2 t = some (.tup ((nb rs n i).map iV))) (by rw [List.length_map, hl, sizeLine_eq]; omega) (fun P q => l_list rfl (SqL.of z'.hD) q)
        (fun i D' y H2 o _ ⟨t, e, ne, h⟩ => ⟨t, e, ne, by rw [upd_ne ne]; exact h⟩) (fun i D' y H2 H3 e3 ⟨t, e, ne, h⟩ => ⟨t, e, ne, e3 _ _ h⟩) ?_ ?_
      · intro i D' H2 hi hD' e2 ⟨ac, hac⟩ Ny Nn hy _
        rw [List.length_map] at hi
        have hq : qs[i]? = some qs[i] := List.getElem?_eq_getElem hi
        have en : _root_.G.nth (qs.map V.ref) i = .ref qs[i] := by unfold _root_.G.nth; rw [List.getElem?_map, hq]; rfl
        rw [en]
        refine ⟨rfl, ?_⟩
        refine ⟨_, rfl, qs[i], (acc rs i).map (fun (k : Nat) => (k : Int)), rfl, SqL.of (by rw [List.map_map]; exact e2 _ _ (z'.hq i _ hq)), ?_⟩
        intro ns p2 perm ris hp2
        refine ⟨p2, _, rfl, .inl ⟨SqL.of upd_same, fun t ht => ?_⟩⟩
        have ens : ns = (nb rs n i).map (fun (k : Nat) => (k : Int)) := by
          refine sort_unique (perm.trans ((nb_perm G i).symm.map _)) ris ?_
          rw [List.pairwise_map]
          exact (List.pairwise_lt_range.filter _).imp fun h => by omega
        have tp : t ≠ p2 := fun e => by rw [e, upd_same] at ht; cases ht
        have ht0 : H2 t = none := by rw [upd_ne tp] at ht; exact ht
        refine hy _ _ rfl ((Evl.Ex.new hp2).trans (Evl.Ex.new ht)) ⟨t, rfl, fun e => ?_, ?_⟩
        · rw [e, hac] at ht0; cases ht0
        · rw [upd_same, ens, List.map_map]; rfl
      · intro D' ys H2 hD' e2 hd2 f
        rw [range_all] at f
        refine ⟨D', ys, rfl, .inl ⟨SqL.of hd2, fun l hl2 => ?_⟩⟩
        refine q _ _ ((z'.ex.trans e2).trans (Evl.Ex.new hl2)) (.tup (SqT.of upd_same) ?_)
        rw [List.length_map, hl] at f
        refine Dqs.mono (Evl.Ex.new hl2) ?_
        rw [List.map_map]
        refine f2_dqs (f.imp fun i y ⟨t, e, _, h⟩ => ?_)
        rw [e]
        exact .tup (SqT.of h) (rowV _)
end

end T1

namespace T1
open PySem PySem.Spec PyProof.Rows L2 G
open Evl (Ex)
local macro_rules | `(tactic| walk_at "dd") => `(tactic| (dsimp only [tCB, tCons, tNil, tC, tOp, tUn, tTest, tB, tVar, tAndV, tOrV, tNotV, tIf, tAnd, tOr, tNot, tSeq, tRet, tRetN, tIfS, tAsg, gName, tDrop, tTup, tLst, tChain, tNext, tCall, L2.start]))
open M (at_)
/-- a tuple of houses stands at v -/
def TupAt (H : Hp) (p : List Nat) (v : V) : Prop := ∃ t o, v = .ref t ∧ H t = some (.frz o (.tup (p.map iV))) ∧ o.dict = none ∧ o.cls = .type "tuple"
theorem sq_frz {K : PySem.W.Frag} {H : Hp} {a : Addr} {o : Obj} {xs : List V} (h : H a = some (.frz o (.tup xs))) : SqT K H a xs := .inl (.inr ⟨o, h⟩)
/-- a list of tuples of houses stands at A -/
def FA (H : Hp) (A : Addr) (F : List (List Nat)) : Prop := ∃ vs, H A = some (.lst vs) ∧ F2 (TupAt H) F vs
theorem TupAt.mono {H H' : Hp} {p : List Nat} {v : V} (e : Ex H H') (h : TupAt H p v) : TupAt H' p v := let ⟨t, o, a, b, c⟩ := h; ⟨t, o, a, e _ _ b, c⟩
theorem TupAt.updL {H : Hp} {p : List Nat} {v : V} {B : Addr} {ys zs : List V} (hB : H B = some (.lst ys)) (h : TupAt H p v) : TupAt (upd H B (.lst zs)) p v :=
  let ⟨t, o, a, b, c⟩ := h; ⟨t, o, a, by rw [upd_ne (ne_of b hB (by intro z; cases z))]; exact b, c⟩
theorem FA.mono {H H' : Hp} {A : Addr} {F} (e : Ex H H') (h : FA H A F) : FA H' A F := let ⟨vs, a, b⟩ := h; ⟨vs, e _ _ a, b.imp fun _ _ z => z.mono e⟩
theorem FA.updL {H : Hp} {A B : Addr} {F} {ys zs : List V} (hB : H B = some (.lst ys)) (ne : A ≠ B) (h : FA H A F) : FA (upd H B (.lst zs)) A F :=
  let ⟨vs, a, b⟩ := h; ⟨vs, by rw [upd_ne ne]; exact a, b.imp fun _ _ z => z.updL hB⟩
theorem F2.get {α β : Type} {R : α → β → Prop} : ∀ {as : List α} {bs : List β} {i : Nat} {a : α}, F2 R as bs → as[i]? = some a → ∃ b, bs[i]? = some b ∧ R a b
  | _, _, _, _, .nil, seen => by simp at seen
  | _, _, 0, _, .cons h _, e => by simp at e; subst e; exact ⟨_, rfl, h⟩
  | _, _, i + 1, _, .cons _ hs, e => by
    obtain ⟨b, h1, h2⟩ := F2.get (i := i) hs (by simpa using e)
    exact ⟨b, by simpa using h1, h2⟩
theorem F2.set {α β : Type} {R : α → β → Prop} {x : α} {y : β} : ∀ {as : List α} {bs : List β} (i : Nat), F2 R as bs → R x y → F2 R (as.set i x) (bs.set i y)
  | _, _, _, .nil, _ => .nil
  | _, _, 0, .cons _ hs, h => .cons h hs
  | _, _, i + 1, .cons g hs, h => .cons g (F2.set i hs h)
theorem FA.get {H : Hp} {A : Addr} {F : List (List Nat)} {v : Nat} (h : FA H A F) (hv : v < F.length) : ∃ vs t o, H A = some (.lst vs) ∧ vs[v]? = some (.ref t) ∧ H t = some (.frz o (.tup ((at_ F v).map iV))) := by
  obtain ⟨vs, a, b⟩ := h
  obtain ⟨x, h1, t, o, rfl, h2, _⟩ := F2.get b (List.getElem?_eq_getElem hv)
  refine ⟨vs, t, o, a, h1, ?_⟩
  have : at_ F v = F[v] := by unfold at_; rw [List.getElem?_eq_getElem hv]; rfl
  rw [this]; exact h2
theorem FA.len {H : Hp} {A : Addr} {F : List (List Nat)} {vs : List V} (h : FA H A F) (hA : H A = some (.lst vs)) : vs.length = F.length := by
  obtain ⟨ws, a, b⟩ := h
  rw [hA] at a; cases a; exact b.length.symm
theorem FA.set {H : Hp} {A t : Addr} {o : Obj} {F : List (List Nat)} {vs : List V} {v : Nat} {p : List Nat} (h : FA H A F) (hA : H A = some (.lst vs)) (ht : H t = some (.frz o (.tup (p.map iV)))) (od : o.dict = none) (oc : o.cls = .type "tuple") : FA (upd H A (.lst (vs.set v (.ref t)))) A (F.set v p) := by
  obtain ⟨ws, a, b⟩ := h
  rw [hA] at a; cases a
  exact ⟨_, upd_same, (F2.set v b ⟨t, o, rfl, ht, od, oc⟩).imp fun _ _ z => z.updL hA⟩
theorem FA.dq {K : PySem.W.Frag} {H : Hp} {A : Addr} {F : List (List Nat)} {vs : List V} (h : FA H A F) (hA : H A = some (.lst vs)) : Dqs K H vs (F.map rowD) := by
  obtain ⟨ws, a, b⟩ := h
  rw [hA] at a; cases a
  clear hA
  induction b with
  | nil => exact .nil
  | cons h _ ih => obtain ⟨t, o, rfl, ht, _⟩ := h; exact .cons (.tup (sq_frz ht) (rowV _)) ih
/-- a tuple of houses that has no dict -/
def RowF (K : PySem.W.Frag) (H : Hp) (p : List Nat) (v : V) : Prop := ∃ t, v = .ref t ∧ SqT K H t (p.map iV) ∧ FrzT H v
theorem RowF.mono {K : PySem.W.Frag} {H H' : Hp} {p : List Nat} {v : V} (e : Ex H H') (h : RowF K H p v) : RowF K H' p v := let ⟨t, a, b, c⟩ := h; ⟨t, a, Evl.ex_t e b, c.mono e⟩
theorem RowF.del {K : PySem.W.Frag} {H : Hp} {D : Addr} {ac : List V} {p : List Nat} {v : V} (hD : H D = some (.lst ac)) (h : RowF K H p v) : RowF K (L2.del H D) p v := let ⟨t, a, b, c⟩ := h; ⟨t, a, SqT.del b hD, c.del hD⟩
theorem RowF.ins {K : PySem.W.Frag} {H : Hp} {D C dx : Addr} {fs : List (Str × V)} {o : HO} {p : List Nat} {v : V} (hD : H D = some (.ins C dx fs)) (h : RowF K H p v) : RowF K (upd H D o) p v := let ⟨t, a, b, c⟩ := h; ⟨t, a, SqT.ins b hD, c.ins hD⟩
/-- a tuple of such -/
def RF (K : PySem.W.Frag) (H : Hp) (y : V) (F : List (List Nat)) : Prop := ∃ l xs, y = .ref l ∧ SqT K H l xs ∧ F2 (RowF K H) F xs
theorem RF.mono {K : PySem.W.Frag} {H H' : Hp} {y : V} {F} (e : Ex H H') (h : RF K H y F) : RF K H' y F := let ⟨l, xs, a, b, c⟩ := h; ⟨l, xs, a, Evl.ex_t e b, c.imp fun _ _ z => z.mono e⟩
theorem RF.del {K : PySem.W.Frag} {H : Hp} {D : Addr} {ac : List V} {y : V} {F} (hD : H D = some (.lst ac)) (h : RF K H y F) : RF K (L2.del H D) y F := let ⟨l, xs, a, b, c⟩ := h; ⟨l, xs, a, SqT.del b hD, c.imp fun _ _ z => z.del hD⟩
theorem RF.ins {K : PySem.W.Frag} {H : Hp} {D C dx : Addr} {fs : List (Str × V)} {o : HO} {y : V} {F} (hD : H D = some (.ins C dx fs)) (h : RF K H y F) : RF K (upd H D o) y F := let ⟨l, xs, a, b, c⟩ := h; ⟨l, xs, a, SqT.ins b hD, c.imp fun _ _ z => z.ins hD⟩
/-- a tuple of these -/
def RowsF (K : PySem.W.Frag) (H : Hp) (r : V) (Fs : List (List (List Nat))) : Prop := ∃ p ys, r = .ref p ∧ SqT K H p ys ∧ F2 (fun F y => RF K H y F) Fs ys
theorem RowsF.mono {K : PySem.W.Frag} {H H' : Hp} {r : V} {Fs} (e : Ex H H') (h : RowsF K H r Fs) : RowsF K H' r Fs := let ⟨l, xs, a, b, c⟩ := h; ⟨l, xs, a, Evl.ex_t e b, c.imp fun _ _ z => z.mono e⟩
theorem FA.rf {K : PySem.W.Frag} {H : Hp} {A : Addr} {F : List (List Nat)} {vs : List V} (h : FA H A F) (hA : H A = some (.lst vs)) : F2 (RowF K H) F vs := by
  obtain ⟨ws, a, b⟩ := h
  rw [hA] at a; cases a
  exact b.imp fun p v ⟨t, o, is, ht, c⟩ => ⟨t, is, sq_frz ht, ⟨t, o, _, is, ht, c⟩⟩
theorem f2_rep {R : List Nat → V → Prop} {is : List Nat} {ys : List V} : F2 (fun (_ : Nat) y => R [] y) is ys → F2 R (List.replicate is.length []) ys := by
  intro h
  induction h with
  | nil => exact .nil
  | cons h _ ih => exact .cons h ih
theorem shaped_ints (l : List Nat) : SeqAt.shaped (.list (l.map intD)) = true ∧ SeqAt.shaped (.tuple (l.map intD)) = true := by
  have c : PyData.canLayAll0 (l.map intD) = true := by
    induction l with
    | nil => rfl
    | cons k l ih => simp only [List.map_cons, PyData.canLayAll0, ih, Bool.and_true]; rfl
  have d : PyData.depthAll (l.map intD) ≤ 1 := by
    induction l with
    | nil => simp [PyData.depthAll]
    | cons k l ih =>
      simp only [List.map_cons, PyData.canLayAll0, Bool.and_eq_true] at c
      have := ih c.2
      simp only [List.map_cons, PyData.depthAll, intD, PyData.depth]; omega
  constructor <;> (unfold SeqAt.shaped; rw [Bool.and_eq_true, decide_eq_true_eq]; refine ⟨by simpa [PyData.canLay0] using c, ?_⟩; simp only [PyData.depth]; omega)
theorem dp_list {K : PySem.W.Frag} {H : Hp} {a : Addr} {l : List Nat} (h : H a = some (.lst (l.map iV))) : Dp K H (.ref a) (.list (l.map intD)) := Dq.dp (.lst (SqL.of h) (rowV l)) (SeqAt.canLay_of_shaped (shaped_ints l).1)
theorem dp_tupF {K : PySem.W.Frag} {H : Hp} {a : Addr} {o : Obj} {l : List Nat} (h : H a = some (.frz o (.tup (l.map iV)))) : Dp K H (.ref a) (.tuple (l.map intD)) := Dq.dp (.tup (sq_frz h) (rowV l)) (SeqAt.canLay_of_shaped (shaped_ints l).2)
theorem dp_tup {K : PySem.W.Frag} {H : Hp} {a : Addr} {l : List Nat} (h : H a = some (.tup (l.map iV))) : Dp K H (.ref a) (.tuple (l.map intD)) := Dq.dp (.tup (SqT.of h) (rowV l)) (SeqAt.canLay_of_shaped (shaped_ints l).2)
theorem row_at {K : PySem.W.Frag} {H : Hp} {v : V} {l : List Nat} (h : Dq K H v (rowD l)) : ∃ t, v = .ref t ∧ SqT K H t (l.map iV) := by
  unfold rowD at h
  cases h with
  | tup h hs =>
    refine ⟨_, rfl, ?_⟩
    have : ∀ {l : List Nat} {xs : List V}, Dqs K H xs (l.map intD) → xs = l.map iV := by
      intro l
      induction l with
      | nil => intro xs h; cases h; rfl
      | cons k l ih => intro xs h; cases h with | cons a b => cases a; rw [ih b]; rfl
    rw [← this hs]; exact h
theorem rows_at {K : PySem.W.Frag} {H : Hp} {v : V} {ls : List (List Nat)} (h : Dq K H v (rowsD ls)) : ∃ t xs, v = .ref t ∧ SqT K H t xs ∧ Dqs K H xs (ls.map rowD) := by
  unfold rowsD at h
  cases h with
  | tup h hs => exact ⟨_, _, rfl, h, hs⟩
theorem nodup_len {n : Nat} : ∀ {l : List Nat}, l.Nodup → (∀ x ∈ l, x < n) → l.length ≤ n := by
  induction n with
  | zero => intro l _ h; cases l with
    | nil => exact Nat.zero_le _
    | cons a l => exact absurd (h a (List.mem_cons_self ..)) (Nat.not_lt_zero _)
  | succ n ih =>
    intro l nd h
    by_cases c : n ∈ l
    · have z := ih (nd.erase n) fun x hx => by
        have q := (nd.mem_erase_iff).mp hx
        have := h x q.2
        have := q.1
        omega
      rw [List.length_erase_of_mem c] at z
      omega
    · have z := ih nd fun x hx => by
        have := h x hx
        have : x ≠ n := fun e => c (e ▸ hx)
        omega
      omega
def sp_ways_from (K : PySem.W.Frag) : Sp := sp2 fun a b H Q E => ∃ (ls : List (List Nat)) (h : Nat), Dq K H a (rowsD ls) ∧ b = .int (h : Int) ∧ h < ls.length ∧ ls.length ≤ 1000 ∧ (∀ l ∈ ls, ∀ v ∈ l, v < ls.length) ∧ ∀ r H' F, Ex H H' → M.Ways ls h F → Dq K H' r (rowsD F) → FrzT H' r → RF K H' r F → Q r H'
section
variable {K : PySem.W.Frag} {mg : Str → Option Value} {P : Program} {w : World} {base : Heap}
theorem ok_ways_from (T : Tx K mg) : Cal P w K mg base CX0 2 "ways_from" ["near", "house"] (sp_ways_from K) := by
  refine cal_of (fD_ways_from T) (T.glo 19 rfl) sc_ways_from (fun _ _ _ _ _ _ us hl => match us, hl with | [_, _], _ => rfl) (fun vs H Q E h => len2 h) (fun f cdv A outer s H vs Q E hr h => ?_)
  obtain ⟨a, b, rfl, h⟩ := h
  refine ⟨_, (PSs.nox (pss_cons (ps_setLc (i := 2) (own := [("_", 6)]) rfl sc_ways_from.nd rfl rfl (sw_true rfl rfl rfl (by decide +kernel)) (pi_tup (pv 0)) (blkOk_by (own := [("_", 6)]) (N := ["near", "house", "found", "front", "at", "other", "_"]) (sc := defScope st_ways_from) (by decide +kernel)) (fun _ _ _ _ _ => (pg_name (i := 6) sc_ways_from.nd rfl (Or.inl rfl))) (fun _ _ _ _ _ => pts_nil) (fun _ _ _ _ _ => (pe_tupF pa_nil)))
      (pss_cons (ps_asg (pe_tupF (pa_cons (pv 1) pa_nil)) (pg_sub (pv 2) (pv 1) set_list))
      (pss_cons (ps_set (i := 3) sc_ways_from.nd rfl (Or.inl rfl) (pe_lst (pa_cons (pv 1) pa_nil)))
      (pss_cons (ps_while PassesOwn.never (pt_cmpR (op_neDK (K := K) (hu64 hr.r)) (pv 3) (pe_lst pa_nil) (nomark _)) (pss_cons (ps_set (i := 4) sc_ways_from.nd rfl (Or.inl rfl) (pe_bm0 PySem.F.plainAttrs_list PySem.F.slot_list_pop PySem.F.type_list_pop mt_pop (pv 3)))
      (pss_one (ps_for PassesOwn.never rfl (pi_tup (pe_ix (ix_tupK (K := K)) (pv 0) (pv 4) (fun _ _ => rfl))) (pg_name (i := 5) sc_ways_from.nd rfl (Or.inl rfl)) (pss_one (ps_if (pt_cmpR (op_eqDK (K := K) (hu64 hr.r)) (pe_ix (ix_listK (K := K)) (pv 2) (pv 5) (fun _ _ => rfl)) (pe_tupF pa_nil) (nomark _)) (pss_cons (ps_asg (pe_tupF (pa_starK (K := K) (pe_ix (ix_listK (K := K)) (pv 2) (pv 4) (fun _ _ => rfl)) (pa_cons (pv 5) pa_nil))) (pg_sub (pv 2) (pv 5) set_list))
      (pss_one (ps_expr (pe_bm PySem.F.plainAttrs_list PySem.F.slot_list_append PySem.F.type_list_append mt_append (pv 3) (pa_cons (pv 5) pa_nil))))) pss_nil))))))
      (pss_one (ps_ret (pe_callTy (call_tupF (K := K)) (by rfl) (T.free 17 rfl) (by decide +kernel) (pa_cons (pv 2) pa_nil))))))))), ?_⟩
  obtain ⟨ls, h0, hd, rfl, hh, hlen, hlt, q⟩ := h
  obtain ⟨nt, xs, rfl, hx, hds⟩ := rows_at hd
  have hxl : xs.length = ls.length := by rw [hds.length, List.length_map]
  have ltA : ∀ {a w : Nat}, w ∈ at_ ls a → w < ls.length := fun {a w} hw => by
    unfold M.at_ at hw
    cases e : ls[a]? with
    | none => rw [e] at hw; cases hw
    | some l => rw [e] at hw; exact hlt l (List.mem_of_getElem? e) w hw
  have line : ∀ {k : Nat}, k ≤ 5000 → k < sizeLine := fun {k} hk => by rw [sizeLine_eq]; omega
  refine seq_at (asg_at ?_)
  refine lc_at (n := xs.length) (item := _root_.G.nth xs) (fun _ => true) (fun i D y H2 => ∃ t o, y = .ref t ∧ t ≠ D ∧ H2 t = some (.frz o (.tup [])) ∧ o.dict = none ∧ o.cls = .type "tuple") (line (by omega)) (fun P q => l_tup rfl hx q)
    (fun i D' y H2 _ _ ⟨t, o, e, ne, h, c⟩ => ⟨t, o, e, ne, by rw [upd_ne ne]; exact h, c⟩) (fun i D' y H2 H3 e3 ⟨t, o, e, ne, h, c⟩ => ⟨t, o, e, ne, e3 _ _ h, c⟩) ?_ ?_
  · intro i D H2 hi hD e2 ⟨ac, hac⟩ Ny Nn hy _
    exact ⟨rfl, Nat.zero_le _, fun t o ht od oc => hy _ _ rfl (Evl.Ex.new ht) ⟨t, o, rfl, (ne_of_none hac ht).symm, upd_same, od, oc⟩⟩
  intro A ys H1 hA e1 hd1 f
  rw [range_all] at f
  have fa1 : FA H1 A (List.replicate ls.length []) := ⟨ys, hd1, by
    have z := f2_rep (R := TupAt H1) (f.imp fun i y ⟨t, o, e, _, h⟩ => ⟨t, o, e, h⟩)
    rwa [List.length_range, hxl] at z⟩
  have yl := fa1.len hd1
  rw [List.length_replicate] at yl
  dsimp only [gName]
  refine seq_at ?_
  refine ⟨_, rfl, line (by simp), fun t ot ht od oc => ?_⟩
  have tA : A ≠ t := ne_of_none hd1 ht
  have hA1 : upd H1 t (.frz ot (.tup [.int (h0 : Int)])) A = some (.lst ys) := by rw [upd_ne tA]; exact hd1
  refine ⟨_, rfl, _, rfl, A, ys, _, h0, rfl, rfl, hA1, Evl.ixN_nat (by omega), ?_⟩
  have fa2 := (fa1.mono (Evl.Ex.new ht)).set (v := h0) (p := [h0]) hA1 upd_same od oc
  have e2 : Ex H (upd (upd H1 t (.frz ot (.tup [.int (h0 : Int)]))) A (.lst (ys.set h0 (.ref t)))) := Evl.Ex.mut (e1.trans (Evl.Ex.new ht)) hA
  dsimp only
  refine seq_at (asg_at ?_)
  refine ⟨_, rfl, line (by simp), fun B hB => ?_⟩
  have AB : A ≠ B := fun z => by rw [← z, upd_same] at hB; cases hB
  have hB0 : H B = none := Evl.fresh_back e2 hB
  have fa3 := fa2.mono (Evl.Ex.new (o := .lst [.int (h0 : Int)]) hB)
  have e3 := e2.trans (Evl.Ex.new (o := .lst [.int (h0 : Int)]) hB)
  dsimp only [gName]
  refine seq_at ?_
  refine ⟨fun m σ' H' => ∃ F S s4 s5 s6, σ' = [some (.ref nt), some (.int (h0 : Int)), some (.ref A), some (.ref B), s4, s5, s6] ∧ Ex H H' ∧ FA H' A F ∧ H' B = some (.lst (S.map iV)) ∧ M.PI ls h0 F S ∧ m = M.un F + S.length,
    ⟨_, _, [h0], none, none, none, rfl, e3, fa3, upd_same, M.pi_start hh, rfl⟩, ?_⟩
  rintro m σ' H' ⟨F, S, s4, s5, s6, rfl, e, fa, hBS, pi, rfl⟩
  refine ⟨_, rfl, Nat.zero_le _, fun p hp => ?_⟩
  have fa' := fa.mono (Evl.Ex.new (o := .lst []) hp)
  have hBS' := Evl.Ex.new (o := .lst []) hp _ _ hBS
  have e' := e.trans (Evl.Ex.new (o := .lst []) hp)
  refine ⟨.list (S.map intD), .list [], dp_list hBS', dp_list (l := []) upd_same, (shaped_ints S).1, (shaped_ints []).1, _, rfl, ?_⟩
  by_cases c : S = []
  · subst c
    show if (!PyData.eqv (.list []) (.list [])) = true then _ else _
    refine iteF ?_
    dsimp only
    obtain ⟨vs, hvs, f2⟩ := fa'
    refine ret_at (cb_at ?_)
    refine ⟨_, rfl, A, vs, rfl, SqL.of hvs, fun l o hl od oc => ?_⟩
    exact q _ _ F (e'.trans (Evl.Ex.new hl)) (M.pi_end pi) (.tup (.inl (.inr ⟨o, upd_same⟩)) (Dqs.mono (Evl.Ex.new hl) (FA.dq ⟨vs, hvs, f2⟩ hvs))) ⟨l, o, vs, rfl, upd_same, od, oc⟩ ⟨l, vs, rfl, sq_frz upd_same, (FA.rf ⟨vs, hvs, f2⟩ hvs).imp fun _ _ z => z.mono (Evl.Ex.new hl)⟩
  · obtain ⟨S', a, rfl⟩ : ∃ S' a, S = S' ++ [a] := ⟨S.dropLast, S.getLast c, (List.dropLast_concat_getLast c).symm⟩
    have ne : PyData.eqv (.list ((S' ++ [a]).map intD)) (.list []) = false := by
      cases S' <;> rfl
    rw [ne]
    refine iteT ?_
    have pj := M.pj_start pi
    refine ⟨fun σ' H' => ∃ m', m' < M.un F + (S' ++ [a]).length ∧ ∃ F S s4 s5 s6, σ' = [some (.ref nt), some (.int (h0 : Int)), some (.ref A), some (.ref B), s4, s5, s6] ∧ Ex H H' ∧ FA H' A F ∧ H' B = some (.lst (S.map iV)) ∧ M.PI ls h0 F S ∧ m' = M.un F + S.length, fun σ' H' h => h, ?_⟩
    refine seq_at (asg_at ?_)
    have eB : (S' ++ [a]).map iV = S'.map iV ++ [iV a] := by rw [List.map_append]; rfl
    rw [eB] at hBS'
    refine ⟨_, rfl, .inl ⟨rfl, _, SqL.of hBS'⟩, B, _, iV a, rfl, rfl, hBS', by simp, ?_⟩
    rw [List.dropLast_concat]
    dsimp only [gName]
    have al := pj.al
    obtain ⟨d', g1, g2⟩ := dqs_nth hds (i := a) (by omega)
    rw [List.getElem?_map, List.getElem?_eq_getElem al] at g1
    cases g1
    obtain ⟨tr, et, st⟩ := row_at g2
    have ea : at_ ls a = ls[a] := by unfold M.at_; rw [List.getElem?_eq_getElem al]; rfl
    rw [← ea] at st
    have fa4 := FA.updL (zs := S'.map iV) hBS' AB fa'
    have e4 : Ex H (upd (upd H' p (.lst [])) B (.lst (S'.map iV))) := Evl.Ex.mut e' hB0
    refine ⟨_, rfl, _, rfl, nt, xs, _, _, rfl, rfl, Evl.ex_t e4 hx, atI_nat (nth_at (by omega)), tr, et, ⟨_, Evl.ex_t e4 st⟩, ?_⟩
    refine for_gen (its_t st) (fun k σ' H' => ∃ F2 S2 s5 s6, σ' = [some (.ref nt), some (.int (h0 : Int)), some (.ref A), some (.ref B), some (iV a), s5, s6] ∧ Ex H H' ∧ FA H' A F2 ∧ H' B = some (.lst (S2.map iV)) ∧ M.PJ ls h0 a k F2 S2 ∧ M.un F2 + S2.length = M.un F + S'.length)
      ⟨F, S', _, _, rfl, e4, fa4, upd_same, pj, rfl⟩ (fun k σ' H' ⟨_, _, _, _, _, z, _⟩ => z) ?_ ?_
    · rintro k σ' H5 hk ⟨F2, S2, s5, s6, rfl, e5, fa5, hB5, pj5, hm⟩
      rw [List.length_map] at hk
      obtain ⟨w, hw⟩ : ∃ w, (at_ ls a)[k]? = some w := ⟨_, List.getElem?_eq_getElem hk⟩
      have ew : _root_.G.nth ((at_ ls a).map iV) k = iV w := by unfold _root_.G.nth; rw [List.getElem?_map, hw]; rfl
      have hwl := ltA (List.mem_of_getElem? hw)
      rw [ew]
      obtain ⟨vs, t, ou, hvs, hv, htu⟩ := fa5.get (v := w) (by rw [pj5.len]; exact hwl)
      refine ⟨_, rfl, _, rfl, A, vs, _, _, rfl, rfl, SqL.of hvs, atI_nat hv, Nat.zero_le _, fun p2 o2 hp2 _ _ => ?_⟩
      have ex2 := Evl.Ex.new (o := .frz o2 (.tup [])) hp2
      refine ⟨.tuple ((at_ F2 w).map intD), .tuple [], dp_tupF (ex2 _ _ htu), dp_tupF (l := []) upd_same, (shaped_ints _).2, (shaped_ints []).2, _, rfl, ?_⟩
      have fa6 := fa5.mono ex2
      have hB6 := ex2 _ _ hB5
      have hvs6 := ex2 _ _ hvs
      by_cases c2 : at_ F2 w = []
      · rw [c2]
        show if PyData.eqv (.tuple []) (.tuple []) = true then _ else _
        refine iteT ?_
        obtain ⟨vs', ta, oa, hvs', hva, hta⟩ := fa5.get (v := a) (by rw [pj5.len]; exact al)
        rw [hvs] at hvs'; cases hvs'
        obtain ⟨pj7, hm7⟩ := M.pj_add pj5 hw hwl c2
        have wlen : (at_ F2 a).length ≤ 5000 := by
          have nd := (pj5.pa a pj5.af).nd
          have sub : ∀ x ∈ at_ F2 a, x < ls.length := fun x hx => by
            have z := pj5.on a x hx
            by_cases y : x < F2.length
            · rw [← pj5.len]; exact y
            · unfold M.at_ at z; rw [List.getElem?_eq_none (by omega)] at z; exact absurd rfl z
          have := nodup_len nd sub
          omega
        refine seq_at ?_
        refine ⟨_, rfl, _, rfl, A, vs, _, _, rfl, rfl, SqL.of hvs6, atI_nat hva, ta, _, rfl, .inl (sq_frz (ex2 _ _ hta)), _, rfl, by rw [List.length_append, List.length_map]; exact line wlen, fun t8 o8 ht8 d8 c8 => ?_⟩
        have ex8 := Evl.Ex.new (o := .frz o8 (.tup ((at_ F2 a).map iV ++ [iV w]))) ht8
        have hv8 := ex8 _ _ hvs6
        refine ⟨_, rfl, _, rfl, A, vs, _, w, rfl, rfl, hv8, Evl.ixN_nat (by rw [fa5.len hvs, pj5.len]; exact hwl), ?_⟩
        have fa8 := (fa6.mono ex8).set (v := w) (t := t8) (p := at_ F2 a ++ [w]) (o := o8) hv8 (by rw [upd_same, List.map_append]; rfl) d8 c8
        have hB8 : (upd (upd (upd H5 p2 (.frz o2 (.tup []))) t8 (.frz o8 (.tup ((at_ F2 a).map iV ++ [iV w])))) A (.lst (vs.set w (.ref t8)))) B = some (.lst (S2.map iV)) := by
          rw [upd_ne AB.symm]; exact ex8 _ _ hB6
        have e8 := Evl.Ex.mut (o := .lst (vs.set w (.ref t8))) ((e5.trans ex2).trans ex8) hA
        have Sl : S2.length ≤ 3000 := by
          have := nodup_len pj5.sn fun x hx => (pj5.sf x hx).1
          omega
        refine ⟨_, rfl, .inl ⟨rfl, _, SqL.of hB8⟩, _, rfl, B, _, _, rfl, rfl, hB8, by rw [List.length_map]; exact line (by omega), ?_⟩
        refine ⟨_, S2 ++ [w], _, _, rfl, Evl.Ex.mut e8 hB0, fa8.updL hB8 AB, by rw [upd_same, List.map_append]; rfl, pj7, by omega⟩
      · have ne2 : PyData.eqv (.tuple ((at_ F2 w).map intD)) (.tuple []) = false := by
          cases e : at_ F2 w with
          | nil => exact absurd e c2
          | cons x l => rfl
        rw [ne2]
        refine iteF ?_
        exact ⟨F2, S2, _, _, rfl, e5.trans ex2, fa6, hB6, M.pj_skip pj5 hw c2, hm⟩
    · rintro σ' H5 ⟨F2, S2, s5, s6, rfl, e5, fa5, hB5, pj5, hm⟩
      rw [List.length_map] at pj5
      refine ⟨M.un F2 + S2.length, by rw [hm, List.length_append, List.length_singleton]; omega, F2, S2, _, _, _, rfl, e5, fa5, hB5, M.pj_end pj5, rfl⟩
end

end T1

namespace T1
open PySem PySem.Spec PyProof.Rows L2 G
open Evl (Ex)
local macro_rules | `(tactic| walk_at "dd") => `(tactic| (dsimp only [tCB, tCons, tNil, tC, tOp, tUn, tTest, tB, tVar, tAndV, tOrV, tNotV, tIf, tAnd, tOr, tNot, tSeq, tRet, tRetN, tIfS, tAsg, gName, tDrop, tTup, tLst, tChain, tNext, tCall, L2.start]))
/-- the roads of data -/
def rdsOf (d : PyData) : List (Nat × Nat) := (items d).map fun x => rdN (rd x)
/-- the rows of neighbours -/
def nbs (n : Nat) (rs : List (Nat × Nat)) : List (List Nat) := (List.range n).map (nb rs n)
/-- the tree of n houses and the roads rs stands at a -/
structure TreeAt (K : PySem.W.Frag) (H : Hp) (a : Addr) (n : Nat) (rs : List (Nat × Nat)) (Fs : List (List (List Nat))) : Prop where
  at_ : ∃ dx r1 r2 r3, H a = some (.ins (He.ga K "Tree") dx [("houses", iV n), ("roads", r1), ("near", r2), ("ways", r3)]) ∧ Dq K H r1 (.tuple (rs.map pairD)) ∧ Dq K H r2 (rowsD (nbs n rs)) ∧ Dq K H r3 (.tuple (Fs.map rowsD)) ∧ RowsF K H r3 Fs
  fl : Fs.length = n
  fw : ∀ h F, Fs[h]? = some F → M.Ways (nbs n rs) h F
  n1 : 1 ≤ n
  n16 : n ≤ 16
  good : Good n rs
theorem TreeAt.mono {K : PySem.W.Frag} {H H' : Hp} {a : Addr} {n : Nat} {rs Fs} (e : Ex H H') (h : TreeAt K H a n rs Fs) : TreeAt K H' a n rs Fs := by
  obtain ⟨⟨dx, r1, r2, r3, z, h1, h2, h3, h4⟩, b1, b2, b3, b4, b5⟩ := h
  exact ⟨⟨dx, r1, r2, r3, e _ _ z, h1.mono e, h2.mono e, h3.mono e, h4.mono e⟩, b1, b2, b3, b4, b5⟩
/-- an error x with one field stands in dict d -/
def Err1 (K : PySem.W.Frag) (E : XK) (H : Hp) (x f : Str) (v : V) : Prop := ∀ d H', Ex H H' → H' d = some (.xd [(f, v)]) → E (.ref (He.ga K x)) (some d) H'
def okN (d : PyData) : Bool := match d with
  | .int i => decide (1 ≤ i) && decide (i ≤ 16)
  | _ => false
/-- the promise of Tree(houses, roads), H the heap before -/
def treeP (K : PySem.W.Frag) (hv rv : V) (H : Hp) (Q : Addr → Hp → Prop) (E : XK) (a : Addr) : Prop := ∃ d1 d2, Dq K H hv d1 ∧ Dq K H rv d2 ∧ (items d2).length ≤ 100000 ∧ (∀ x ∈ items d2, (items x).length ≤ 100000) ∧
  (okN d1 = false → Err1 K E H "InvalidHouses" "given" hv) ∧
  (∀ n : Nat, d1 = .int n → 1 ≤ n → n ≤ 16 → areRds d2 n = false → Err1 K E H "InvalidRoads" "given" rv) ∧
  (∀ (n : Nat) F j, d1 = .int n → 1 ≤ n → n ≤ 16 → areRds d2 n = true → M.Ways (nbs n (rdsOf d2)) 0 F → j < n → M.at_ F j = [] → (∀ m, m < j → M.at_ F m ≠ []) → Err1 K E H "NotJoined" "house" (.int j)) ∧
  (∀ (n : Nat) Fs H', d1 = .int n → areRds d2 n = true → Ex H H' → TreeAt K H' a n (rdsOf d2) Fs → (∀ F, Fs[0]? = some F → ∀ v, v < n → M.at_ F v ≠ []) → Q a H')
theorem asc_lt : ∀ {l : List (Int × Int)}, asc l = true → l.Pairwise fun p q => ltR p q = true := by
  have tr : ∀ {a b c : Int × Int}, ltR a b = true → ltR b c = true → ltR a c = true := fun {a b c} h1 h2 => by
    unfold ltR at *; simp at *; omega
  intro l h
  unfold asc at h
  rw [all_range_map] at h
  have st : ∀ i, i + 1 < l.length → ltR (l[i]?.getD (0, 0)) (l[i + 1]?.getD (0, 0)) = true := fun i hi => by
    simp at h; exact h i (by omega)
  clear h
  induction l with
  | nil => exact .nil
  | cons a l ih =>
    have ih' := ih fun i hi => by have z := st (i + 1) (by simp only [List.length_cons]; omega); simpa using z
    refine List.pairwise_cons.mpr ⟨?_, ih'⟩
    cases l with
    | nil => simp
    | cons b l =>
      have ab : ltR a b = true := by have z := st 0 (by simp); simpa using z
      intro c hc
      rcases List.mem_cons.1 hc with rfl | hc
      · exact ab
      · exact tr ab ((List.pairwise_cons.mp ih').1 c hc)
/-- roads that are right -/
theorem rds_good {d : PyData} {n : Nat} (h : areRds d n = true) : isSeq d = true ∧ Good n (rdsOf d) ∧ items d = (rdsOf d).map pairD ∧ ((rdsOf d).length : Int) = n - 1 := by
  unfold areRds at h
  simp only [Bool.and_eq_true, decide_eq_true_eq, List.all_eq_true] at h
  obtain ⟨h1, h2, h3, h4⟩ := h
  have pr : ∀ x ∈ items d, x = pairD (rdN (rd x)) ∧ (rdN (rd x)).1 < (rdN (rd x)).2 ∧ (rdN (rd x)).2 < n := fun x hx => by
    obtain ⟨u, v, rfl, a1, a2, a3, a4, a5⟩ := isRd_of (h3 x hx)
    refine ⟨?_, ?_, ?_⟩
    · simp only [rd, rdN, pairD, intD]
      rw [Int.toNat_of_nonneg a1, Int.toNat_of_nonneg a3]
    · simp only [rd, rdN]; omega
    · simp only [rd, rdN]; omega
  refine ⟨h1, ⟨fun p hp => ?_, ?_⟩, ?_, by rw [rdsOf, List.length_map]; exact h2⟩
  · obtain ⟨x, hx, rfl⟩ := List.mem_map.mp hp
    exact (pr x hx).2
  · have z := asc_lt h4
    rw [List.pairwise_map] at z
    rw [rdsOf, List.Nodup, List.pairwise_map]
    refine z.imp_of_mem fun {x y} hx hy l e => ?_
    have e1 := (pr x hx).1
    have e2 := (pr y hy).1
    rw [e] at e1
    have : x = y := e1.trans e2.symm
    subst this
    unfold ltR at l; simp at l
  · rw [rdsOf, List.map_map]
    exact ((List.map_congr_left fun x hx => ((pr x hx).1).symm).trans (List.map_id _)).symm
theorem canLay_ints (l : List Nat) : PyData.canLayAll0 (l.map intD) = true := by
  induction l with
  | nil => rfl
  | cons k l ih => simp only [List.map_cons, PyData.canLayAll0, ih, Bool.and_true]; rfl
theorem depth_ints (l : List Nat) : PyData.depthAll (l.map intD) ≤ 1 := by
  induction l with
  | nil => simp [PyData.depthAll]
  | cons k l ih => simp only [List.map_cons, PyData.depthAll, intD, PyData.depth]; omega
theorem tups_ints (l : List Nat) : tupsAll (l.map intD) = true := by
  induction l with
  | nil => rfl
  | cons k l ih => simp only [List.map_cons, tupsAll, ih, Bool.and_true]; rfl
theorem tups_row (l : List Nat) : tups (rowD l) = true := by unfold rowD; rw [tups]; exact tups_ints l
theorem tups_rows (F : List (List Nat)) : tups (rowsD F) = true := by
  unfold rowsD; rw [tups, tupsAll_iff]
  intro d hd
  obtain ⟨l, _, rfl⟩ := List.mem_map.mp hd
  exact tups_row l
theorem shaped_rows (F : List (List Nat)) : SeqAt.shaped (rowsD F) = true := by
  have a : PyData.canLayAll0 (F.map rowD) = true ∧ PyData.depthAll (F.map rowD) ≤ 2 := by
    induction F with
    | nil => exact ⟨rfl, by simp [PyData.depthAll]⟩
    | cons l F ih =>
      have := depth_ints l
      refine ⟨?_, ?_⟩
      · simp only [List.map_cons, PyData.canLayAll0, ih.1, Bool.and_true, rowD, PyData.canLay0]; exact canLay_ints l
      · simp only [List.map_cons, PyData.depthAll, rowD, PyData.depth]; omega
  unfold SeqAt.shaped rowsD
  rw [Bool.and_eq_true, decide_eq_true_eq]
  exact ⟨by simpa [PyData.canLay0] using a.1, by simp only [PyData.depth]; omega⟩
theorem eqv_row (l : List Nat) : PyData.eqv (rowD l) (.tuple []) = l.isEmpty := by
  cases l <;> rfl
theorem any_row (F : List (List Nat)) : ((F.map rowD).any fun z => PyData.eqv z (.tuple [])) = F.any (·.isEmpty) := by
  rw [List.any_map]
  congr 1
  funext l
  exact eqv_row l
theorem at_of {F : List (List Nat)} {v : Nat} {l : List Nat} (h : F[v]? = some l) : M.at_ F v = l := by unfold M.at_; rw [h]; rfl
def sp_Tree___init__ (K : PySem.W.Frag) : Sp := sp3 fun a b c H Q E => ∃ H0 s dx, a = .ref s ∧ Ex H0 H ∧ H0 s = none ∧ H s = some (.ins (He.ga K "Tree") dx []) ∧ treeP K b c H0 (fun _ H' => Q .non H') E s
section
variable {K : PySem.W.Frag} {mg : Str → Option Value} {P : Program} {w : World} {base : Heap}
theorem ok_Tree___init__ (T : Tx K mg) : ∃ fd, FunD K "__init__" "Tree.__init__" (defArgs st_Tree___init__) (defBody st_Tree___init__) (defScope st_Tree___init__) [] [] (He.ma K (He.ga K "Tree") "__init__") fd ∧ FG P w K mg base (L2.CX P w) 5 (He.ma K (He.ga K "Tree") "__init__") fd ["self", "houses", "roads"] (sp_Tree___init__ K) := by
  obtain ⟨fd, F⟩ := fD_Tree___init__ T
  refine ⟨fd, F, fg_of F sc_Tree___init__ (fun vs H Q E h => len3 h) (fun cdv A outer s H vs Q E hr h => ?_)⟩
  obtain ⟨a, b, c, rfl, h⟩ := h
  refine ⟨_, (pss_cons (ps_if (PW.pt (pw_or (pt_not (pt_val (pe_c (ok_is_integer T) (hr.mono (by decide)) rfl pass0 (pa_cons (pv 1) pa_nil)))) (pw_or1 (pt_not (pt_chain op_le op_le pe_int (pv 1) (pe_glob (v := .int 16) rfl (T.con_MOST_HOUSES).choose_spec ⟨_, rfl⟩)))))) (pss_one (ps_raise rfl (takes_of rfl rfl rfl rfl) (pmk_InvalidHouses T hr rfl (pa_cons (pv 1) pa_nil)))) pss_nil)
      (pss_cons (ps_if (pt_not (pt_val (pe_c (ok_are_roads T) (hr.mono (by decide)) rfl pass0 (pa_cons (pv 2) (pa_cons (pv 1) pa_nil))))) (pss_one (ps_raise rfl (takes_of rfl rfl rfl rfl) (pmk_InvalidRoads T hr rfl (pa_cons (pv 2) pa_nil)))) pss_nil)
      (pss_cons (ps_fld (pv 0) (pv 1) rfl)
      (pss_cons (ps_fld (pv 0) (pe_callTy (call_tupK (K := K)) (by rfl) (T.free 17 rfl) (by decide +kernel) (pa_cons (pv 2) pa_nil)) rfl)
      (pss_cons (ps_fld (pv 0) (pe_c (ok_joined_by T) (hr.mono (by decide)) rfl pass0 (pa_cons (pv 1) (pa_cons (pv 2) pa_nil))) rfl)
      (pss_cons (ps_fld (pv 0) (pe_callTy (call_tupK (K := K)) (by rfl) (T.free 17 rfl) (by decide +kernel) (pa_cons (pe_lc (own := [("house", 3)]) rfl sc_Tree___init__.nd (pi_range1 (by rfl) (T.free 11 rfl) (pa_cons (pv 1) pa_nil)) (blkOk_by (own := [("house", 3)]) (N := ["self", "houses", "roads", "house"]) (sc := defScope st_Tree___init__) (by decide +kernel)) (fun _ _ _ _ _ => (pg_name (i := 3) sc_Tree___init__.nd rfl (Or.inl rfl))) (fun _ _ _ _ _ => pts_nil) (fun _ _ _ _ _ => (pe_c (ok_ways_from T) (hr.mono (by decide)) rfl pass0 (pa_cons (pe_fldK (K := K) (pv 0)) (pa_cons (pv 3) pa_nil))))) pa_nil)) rfl)
      (pss_one (ps_if (pt_cmpR (op_inT (K := K) (hu65 hr.r)) (pe_tup pa_nil) (pe_ix (ix_tupK (K := K)) (pe_fldK (K := K) (pv 0)) pe_int (fun _ _ => rfl)) (by with_unfolding_all rfl)) (pss_one (ps_raise rfl (takes_of rfl rfl rfl rfl) (pmk_NotJoined T hr rfl (pa_cons (pe_bmT PySem.F.plainAttrs_tuple PySem.F.slot_tuple_index PySem.F.type_tuple_index (mt_indexT (K := K) (hu65 hr.r)) (pe_ix (ix_tupK (K := K)) (pe_fldK (K := K) (pv 0)) pe_int (fun _ _ => rfl)) (pa_cons (pe_tup pa_nil) pa_nil)) pa_nil)))) pss_nil)))))))), ?_⟩
  obtain ⟨H0, s0, dx, rfl, e0, hs0, hs, d1, d2, hd1, hd2, hl, hl2, q1, q2, q3, q4⟩ := h
  refine seq_at ?_
  refine ⟨_, rfl, _, rfl, d1, hd1.mono e0, _, rfl, ?_⟩
  cases hi : isInt d1 with
  | false =>
    refine iteT (iteT ?_)
    exact ⟨_, rfl, _, rfl, fun d H' _ e hx => q1 (by cases d1 <;> first | rfl | cases hi) d H' (e0.trans e) hx⟩
  | true =>
  obtain ⟨i, rfl⟩ : ∃ i, d1 = .int i := by cases d1 <;> first | exact ⟨_, rfl⟩ | cases hi
  cases hd1
  refine iteF ?_
  refine ⟨_, rfl, 1, i, rfl, rfl, _, rfl, ?_⟩
  by_cases c1 : (1 : Int) ≤ i
  · rw [decide_eq_true c1]
    refine iteT ⟨i, 16, rfl, rfl, _, rfl, ?_⟩
    by_cases c2 : i ≤ 16
    · rw [decide_eq_true c2]
      refine iteF ?_
      obtain ⟨n, rfl⟩ : ∃ n : Nat, i = n := ⟨i.toNat, by omega⟩
      dsimp only [tNext]
      refine seq_at ?_
      have n1 : 1 ≤ n := by omega
      have n16 : n ≤ 16 := by omega
      refine ⟨_, rfl, _, rfl, _, _, rfl, d2, n, hd2.mono e0, rfl, hl, hl2, fun H1 e1 => ⟨_, rfl, ?_⟩⟩
      have e01 := e0.trans e1
      cases ar : areRds d2 n with
      | false =>
        refine iteT ?_
        exact ⟨_, rfl, _, rfl, fun d H' _ e hx => q2 n rfl n1 n16 ar d H' (e01.trans e) hx⟩
      | true =>
      refine iteF ?_
      obtain ⟨isq, G, ie, rl⟩ := rds_good ar
      dsimp only [tNext]
      refine seq_at ?_
      refine ⟨_, rfl, _, rfl, s0, _, dx, [], rfl, e1 _ _ hs, cl_Tree T, no_Tree_houses T, by decide, ?_⟩
      dsimp only
      refine seq_at ?_
      have e02 := Evl.Ex.mut (o := .ins (He.ga K "Tree") dx (putF "houses" (.int (n : Int)) [])) e01 hs0
      obtain ⟨p, xs, rfl, hx, hds⟩ := dq_seq hd2 isq
      rw [ie] at hds
      refine fld_at (cb_at ⟨_, rfl, ?_⟩)
      refine tup_any (hx.imp (Evl.ex_l e02) (Evl.ex_t e02)) (hds.mono e02) fun r1 H2 e2 hr1 => ?_
      refine ⟨_, rfl, s0, _, dx, _, rfl, e2 _ _ upd_same, cl_Tree T, no_Tree_roads T, (by decide : (1 : Nat) < 1000), ?_⟩
      dsimp only
      refine seq_at ?_
      have g2 := e2 _ _ (upd_same (H := H1) (a := s0) (o := .ins (He.ga K "Tree") dx (putF "houses" (.int (n : Int)) [])))
      have e03 := Evl.Ex.mut (o := .ins (He.ga K "Tree") dx (putF "roads" r1 (putF "houses" (.int (n : Int)) []))) (e02.trans e2) hs0
      have hr1' := Dq.ins (o := .ins (He.ga K "Tree") dx (putF "roads" r1 (putF "houses" (.int (n : Int)) []))) g2 hr1
      refine ⟨_, rfl, _, rfl, _, _, rfl, n, rdsOf d2, d2, rfl, by omega, hd2.mono e03, isq, ie, by omega, G, fun r2 H3 e3 hr2 => ?_⟩
      have g3 := e3 _ _ (upd_same (H := H2) (a := s0) (o := .ins (He.ga K "Tree") dx (putF "roads" r1 (putF "houses" (.int (n : Int)) []))))
      refine ⟨_, rfl, s0, _, dx, _, rfl, g3, cl_Tree T, no_Tree_near T, (by show 2 < 1000; decide), ?_⟩
      have e04 := Evl.Ex.mut (o := .ins (He.ga K "Tree") dx (putF "near" r2 (putF "roads" r1 (putF "houses" (.int (n : Int)) [])))) (e03.trans e3) hs0
      have hr1'' := Dq.ins (o := .ins (He.ga K "Tree") dx (putF "near" r2 (putF "roads" r1 (putF "houses" (.int (n : Int)) [])))) g3 (hr1'.mono e3)
      have hr2' := Dq.ins (o := .ins (He.ga K "Tree") dx (putF "near" r2 (putF "roads" r1 (putF "houses" (.int (n : Int)) [])))) g3 hr2
      dsimp only
      refine seq_at (fld_at (cb_at ?_))
      refine lc_at (n := n) (item := fun i => .int (0 + i)) (fun _ => true) (fun i D y H' => ∃ F, M.Ways (nbs n (rdsOf d2)) i F ∧ Dq K (L2.del H' D) y (rowsD F) ∧ FrzT (L2.del H' D) y ∧ RF K (L2.del H' D) y F) (line_big (by omega)) (fun P q => w_rng1 (fun Q q => ⟨_, rfl, q⟩) (by omega) fun J H1 e S => q J H1 e (S.mono e)) ?_ ?_ ?_ ?_
      · rintro i D y H' o _ ⟨F, h1, h2⟩
        exact ⟨F, h1, by rw [del_upd]; exact h2⟩
      · rintro i D y H' H'' e ⟨F, h1, h2⟩
        exact ⟨F, h1, h2.1.mono (Ex.del e), h2.2.1.mono (Ex.del e), h2.2.2.mono (Ex.del e)⟩
      · rintro i D H5 hi hD e5 ⟨ac, hac⟩ Ny Nn hy _
        refine ⟨rfl, ?_⟩
        have ei : ((0 : Int) + (i : Int)) = ((i : Nat) : Int) := by omega
        have ln : (nbs n (rdsOf d2)).length = n := by unfold nbs; rw [List.length_map, List.length_range]
        refine ⟨_, rfl, s0, _, dx, _, _, rfl, e5 _ _ upd_same, cl_Tree T, no_Tree_near T, rfl, _, rfl, _, _, rfl, nbs n (rdsOf d2), i, hr2'.mono e5, by rw [ei], by rw [ln]; exact hi, by rw [ln]; omega, ?_, fun r H6 F e6 hF hr hz hrf => ?_⟩
        · rw [ln]
          intro l hl v hv
          obtain ⟨h, _, rfl⟩ := List.mem_map.mp hl
          unfold nb at hv
          exact List.mem_range.mp (List.mem_filter.mp hv).1
        · exact hy _ _ rfl e6 ⟨F, hF, hr.del (e6 _ _ hac) (tups_rows F), hz.del (e6 _ _ hac), RF.del (e6 _ _ hac) hrf⟩
      · intro D ys H5 hD e5 hd5 f
        rw [range_all] at f
        obtain ⟨Fs, f1, f2⟩ := f2_choose f
        obtain ⟨fl, fw⟩ := f2_range f1
        have fd := (f2_dq (f2.imp fun _ _ h => h.1)).mono Ex.ofDel
        have fz : ∀ i v, ys[i]? = some v → FrzT H5 v := fun i v hv => by
          have g : ∀ {cs : List (List (List Nat))} {vs : List V}, F2 (fun F y => Dq K (L2.del H5 D) y (rowsD F) ∧ FrzT (L2.del H5 D) y ∧ RF K (L2.del H5 D) y F) cs vs → ∀ {i : Nat} {v : V}, vs[i]? = some v → FrzT H5 v := by
            intro cs vs h
            induction h with
            | nil => intro i v hv; simp at hv
            | cons h _ ih =>
              intro i v hv
              cases i with
              | zero => simp at hv; subst hv; exact h.2.1.mono Ex.ofDel
              | succ i => exact ih (by simpa using hv)
          exact g f2 hv
        have rf : F2 (fun F y => RF K H5 y F) Fs ys := f2.imp fun _ _ h => h.2.2.mono Ex.ofDel
        refine ⟨D, ys, rfl, .inl ⟨SqL.of hd5, fun p3 hl3 => ?_⟩⟩
        have e6 := Evl.Ex.new (o := .tup ys) hl3
        have sq3 : SqT K (upd H5 p3 (.tup ys)) p3 ys := SqT.of upd_same
        generalize upd H5 p3 (.tup ys) = H6 at e6 sq3 ⊢
        have e06 := e5.trans e6
        refine ⟨_, rfl, s0, _, dx, _, rfl, e06 _ _ upd_same, cl_Tree T, no_Tree_ways T, (by show 3 < 1000; decide), ?_⟩
        dsimp only
        have e05 := e04.trans e06
        generalize hF5 : HO.ins (He.ga K "Tree") dx (putF "ways" (.ref p3) (putF "near" r2 (putF "roads" r1 (putF "houses" (.int (n : Int)) [])))) = o5
        have t1 := Dq.ins (o := o5) (e06 _ _ upd_same) (hr1''.mono e06)
        have t2 := Dq.ins (o := o5) (e06 _ _ upd_same) (hr2'.mono e06)
        have hx3 := SqT.ins (o := o5) sq3 (e06 _ _ upd_same)
        have hds3 := Dqs.ins (o := o5) (e06 _ _ upd_same) (fd.mono e6)
        have rf7 : F2 (fun F y => RF K (upd H6 s0 o5) y F) Fs ys := rf.imp fun _ _ h => RF.ins (e06 _ _ upd_same) (h.mono e6)
        have fz7 : ∀ i v, ys[i]? = some v → FrzT (upd H6 s0 o5) v := fun i v hv => ((fz i v hv).mono e6).ins (e06 _ _ upd_same)
        have e7 := Evl.Ex.mut (o := o5) e05 hs0
        generalize hH7 : upd H6 s0 o5 = H7 at *
        have g7 : H7 s0 = some o5 := by rw [← hH7]; exact upd_same
        obtain ⟨F0, hF0⟩ : ∃ F0, Fs[0]? = some F0 := ⟨_, List.getElem?_eq_getElem (by omega)⟩
        have hW := fw 0 F0 hF0
        subst hF5
        obtain ⟨v0, hv0, hq0⟩ := hds3.at_ (i := 0) (d := rowsD F0) (by rw [List.getElem?_map, hF0]; rfl)
        refine ⟨Nat.zero_le _, fun p7 hp7 => ?_⟩
        have e8 := Evl.Ex.new (o := .tup []) hp7
        refine ⟨_, rfl, s0, _, dx, _, _, rfl, e8 _ _ g7, cl_Tree T, no_Tree_ways T, rfl, p3, ys, 0, v0, rfl, rfl, Evl.ex_t e8 hx3, atI_nat (j := 0) hv0, ?_⟩
        have sh0 : SeqAt.shaped (.tuple (F0.map rowD)) = true := shaped_rows F0
        refine ⟨.tuple [], F0.map rowD, dp_tup (l := []) upd_same, (hq0.mono e8).dp (SeqAt.canLay_of_shaped sh0), (shaped_ints []).2, sh0, _, rfl, ?_⟩
        rw [any_row]
        cases ea : F0.any (·.isEmpty) with
        | false =>
          refine iteF ?_
          have al : ∀ v, v < n → M.at_ F0 v ≠ [] := fun v hv => by
            have lF : F0.length = n := by rw [hW.len]; unfold nbs; rw [List.length_map, List.length_range]
            intro z
            have hm : F0[v]? = some F0[v] := List.getElem?_eq_getElem (by omega)
            rw [at_of hm] at z
            have : F0.any (·.isEmpty) = true := List.any_eq_true.mpr ⟨_, List.mem_of_getElem? hm, by rw [z]; rfl⟩
            rw [ea] at this; cases this
          refine q4 n Fs _ rfl ar (e7.trans e8) ?_ fun F hF => by rw [hF0] at hF; cases hF; exact al
          exact TreeAt.mono e8 ⟨⟨dx, r1, r2, _, g7, t1, t2, .tup hx3 hds3, ⟨p3, ys, rfl, hx3, rf7⟩⟩, fl, fw, n1, n16, G⟩
        | true =>
          refine iteT ?_
          have lF : F0.length = n := by rw [hW.len]; unfold nbs; rw [List.length_map, List.length_range]
          obtain ⟨a0, xs0, rfl, hx0⟩ : ∃ a0 xs0, v0 = .ref a0 ∧ SqT K H7 a0 xs0 := by
            unfold rowsD at hq0
            cases hq0 with
            | tup h hs => exact ⟨_, _, rfl, h⟩
          have jl : F0.findIdx (·.isEmpty) < F0.length := List.findIdx_lt_length.mpr (by simpa using List.any_eq_true.mp ea)
          have jn := List.findIdx_getElem (w := jl)
          refine ⟨_, rfl, s0, _, dx, _, _, rfl, e8 _ _ g7, cl_Tree T, no_Tree_ways T, rfl, p3, ys, 0, _, rfl, rfl, Evl.ex_t e8 hx3, atI_nat (j := 0) hv0, ?_⟩
          refine ⟨(fz7 _ _ hv0).mono e8, Nat.zero_le _, fun p9 hp9 => ?_⟩
          have e9 := e8.trans (Evl.Ex.new (o := .tup []) hp9)
          refine ⟨_, _, .tuple [], F0.map rowD, F0.findIdx (·.isEmpty), rowD (F0[F0.findIdx (·.isEmpty)]), rfl, rfl, (hq0.mono e9).dp (SeqAt.canLay_of_shaped sh0), dp_tup (l := []) upd_same, sh0, (shaped_ints []).2, ?_, ?_, ?_, ?_⟩
          · rw [List.getElem?_map, List.getElem?_eq_getElem jl]; rfl
          · rw [eqv_row]; exact jn
          · intro m z' hm hz
            rw [List.getElem?_map] at hz
            obtain ⟨l, h1, rfl⟩ := Option.map_eq_some_iff.mp hz
            rw [eqv_row]
            have := List.not_of_lt_findIdx hm
            obtain ⟨hml, h2⟩ := List.getElem?_eq_some_iff.mp h1
            rw [h2] at this
            simpa using this
          · refine ⟨_, rfl, fun d H' _ e hx => q3 n F0 (F0.findIdx (·.isEmpty)) rfl n1 n16 ar hW (by omega) ?_ ?_ d H' ((e7.trans e9).trans e) hx⟩
            · rw [at_of (List.getElem?_eq_getElem jl)]; simpa using jn
            · intro m hm z
              have hml : m < F0.length := by omega
              rw [at_of (List.getElem?_eq_getElem hml)] at z
              have := List.not_of_lt_findIdx hm
              rw [z] at this; simp at this
    · rw [decide_eq_false c2]
      refine iteT ?_
      exact ⟨_, rfl, _, rfl, fun d H' _ e hx => q1 (by simp [okN, c2]) d H' (e0.trans e) hx⟩
  · rw [decide_eq_false c1]
    refine iteF ⟨_, rfl, iteT ?_⟩
    exact ⟨_, rfl, _, rfl, fun d H' _ e hx => q1 (by simp [okN, c1]) d H' (e0.trans e) hx⟩
end

end T1

namespace T1
open PySem PySem.Spec PyProof.Rows L2 G
open Evl (Ex)
local macro_rules | `(tactic| walk_at "dd") => `(tactic| (dsimp only [tCB, tCons, tNil, tC, tOp, tUn, tTest, tB, tVar, tAndV, tOrV, tNotV, tIf, tAnd, tOr, tNot, tSeq, tRet, tRetN, tIfS, tAsg, gName, tDrop, tTup, tLst, tChain, tNext, tCall, L2.start]))
def sp_Tree___contains__ (K : PySem.W.Frag) : Sp := sp2 fun a b H Q E => ∃ s n rs Fs d, a = .ref s ∧ TreeAt K H s n rs Fs ∧ Dq K H b d ∧ Q (.bl (isIdx d n)) H
section
variable {K : PySem.W.Frag} {mg : Str → Option Value} {P : Program} {w : World} {base : Heap}
theorem ok_Tree___contains__ (T : Tx K mg) : ∃ fd, FunD K "__contains__" "Tree.__contains__" (defArgs st_Tree___contains__) (defBody st_Tree___contains__) (defScope st_Tree___contains__) [] [] (He.ma K (He.ga K "Tree") "__contains__") fd ∧ FG P w K mg base CX0 3 (He.ma K (He.ga K "Tree") "__contains__") fd ["self", "value"] (sp_Tree___contains__ K) := by
  obtain ⟨fd, F⟩ := fD_Tree___contains__ T
  refine ⟨fd, F, fg_of F sc_Tree___contains__ (fun vs H Q E h => len2 h) (fun cdv A outer s H vs Q E hr h => ?_)⟩
  obtain ⟨a, b, rfl, h⟩ := h
  refine ⟨_, (PSs.nox (pss_one (ps_ret (pe_c (ok_is_index T) (hr.mono (by decide)) rfl pass0 (pa_cons (pv 1) (pa_cons (pe_fldK (K := K) (pv 0)) pa_nil)))))), ?_⟩
  obtain ⟨s0, n, rs, Fs, d, rfl, t, hd, q⟩ := h
  obtain ⟨dx, r1, r2, r3, g, _⟩ := t.at_
  exact ⟨_, rfl, _, rfl, s0, _, dx, _, _, rfl, g, cl_Tree T, no_Tree_houses T, rfl, _, _, rfl, d, n, hd, rfl, q⟩
end
def sp_Tree___len__ (K : PySem.W.Frag) : Sp := sp1 fun a H Q E => ∃ s n rs Fs, a = .ref s ∧ TreeAt K H s n rs Fs ∧ Q (.int (n : Int)) H
section
variable {K : PySem.W.Frag} {mg : Str → Option Value} {P : Program} {w : World} {base : Heap}
theorem ok_Tree___len__ (T : Tx K mg) : ∃ fd, FunD K "__len__" "Tree.__len__" (defArgs st_Tree___len__) (defBody st_Tree___len__) (defScope st_Tree___len__) [] [] (He.ma K (He.ga K "Tree") "__len__") fd ∧ FG P w K mg base CX0 1 (He.ma K (He.ga K "Tree") "__len__") fd ["self"] (sp_Tree___len__ K) := by
  obtain ⟨fd, F⟩ := fD_Tree___len__ T
  refine ⟨fd, F, fg_of F sc_Tree___len__ (fun vs H Q E h => len1 h) (fun cdv A outer s H vs Q E hr h => ?_)⟩
  obtain ⟨a, rfl, h⟩ := h
  refine ⟨_, (PSs.nox (pss_one (ps_ret (pe_callB (call_lenK (K := K)) (by rfl) (T.free 7 rfl) (by decide +kernel) (pa_cons (pe_fldK (K := K) (pv 0)) pa_nil))))), ?_⟩
  obtain ⟨s0, n, rs, Fs, rfl, t, q⟩ := h
  obtain ⟨dx, r1, r2, r3, g, _, g2, _⟩ := t.at_
  obtain ⟨t2, xs, rfl, sx, ds⟩ := rows_at g2
  refine ⟨_, rfl, s0, _, dx, _, _, rfl, g, cl_Tree T, no_Tree_near T, rfl, t2, xs, rfl, .inr sx, ?_⟩
  have e : xs.length = n := by rw [ds.length]; unfold nbs; rw [List.length_map, List.length_map, List.length_range]
  rw [e]; exact q
end
section
variable {X : Cx} {K : PySem.W.Frag}
theorem bind1 {x qual : Str} {params : Arguments} {body : List Stmt} {scope : Scope} {kws : List (Str × V)} {f : Addr} {fd : FuncData} {ps : List Str} (F : FunD K x qual params body scope [] kws f fd)
    (hb : ∀ (kV doc pm : Value) (an : Option Addr) (cdv ct : Value) (us : List Value), us.length = ps.length → bindArgs (PySem.W.fnOf x qual params body scope .none kV doc pm an cdv ct) ⟨us, []⟩ = pure (ps.zip us)) : Binds K fd ps [] := F.bindsN hb
theorem tree_nin (T : Tx X.K X.mg) (hr : RG 3 X.A) (h : X.K = K := by rfl) : OpR X (compareOp .NotIn) (rInO (He.ga K "Tree") true (sp_Tree___contains__ K) E0) := by
  subst h
  obtain ⟨fd, F, G⟩ := ok_Tree___contains__ (P := X.prog) (w := X.w) (base := X.base) T
  exact op_ninO ⟨(me_Tree___contains__ T).at_, (me_Tree___contains__ T).fn.symm⟩ G hr (F.bindsN fun _ _ _ _ _ _ us hl => match us, hl with | [_, _], _ => rfl) pass0
theorem tree_in (T : Tx X.K X.mg) (hr : RG 3 X.A) (h : X.K = K := by rfl) : OpR X (compareOp .In) (rInO (He.ga K "Tree") false (sp_Tree___contains__ K) E0) := by
  subst h
  obtain ⟨fd, F, G⟩ := ok_Tree___contains__ (P := X.prog) (w := X.w) (base := X.base) T
  exact op_inO ⟨(me_Tree___contains__ T).at_, (me_Tree___contains__ T).fn.symm⟩ G hr (F.bindsN fun _ _ _ _ _ _ us hl => match us, hl with | [_, _], _ => rfl) pass0
theorem tree_len (T : Tx X.K X.mg) (hr : RG 2 X.A) (h : X.K = K := by rfl) : CallR X (.builtin "len") (rLenO (He.ga K "Tree") (sp_Tree___len__ K) E0) := by
  subst h
  obtain ⟨fd, F, G⟩ := ok_Tree___len__ (P := X.prog) (w := X.w) (base := X.base) T
  exact call_lenO ⟨(me_Tree___len__ T).at_, (me_Tree___len__ T).fn.symm⟩ G hr (F.bindsN fun _ _ _ _ _ _ us hl => match us, hl with | [_], _ => rfl) pass0
end
theorem TreeAt.ins {K : PySem.W.Frag} {H : Hp} {a : Addr} {n : Nat} {rs Fs} (h : TreeAt K H a n rs Fs) : InsAt (He.ga K "Tree") a H := let ⟨dx, _, _, _, g, _⟩ := h.at_; ⟨dx, _, g⟩
def sp_check_house (K : PySem.W.Frag) : Sp := sp2 fun a b H Q E => ∃ s n rs Fs d, a = .ref s ∧ TreeAt K H s n rs Fs ∧ Dq K H b d ∧ (isIdx d n = true → Q .non H) ∧ (isIdx d n = false → Err1 K E H "InvalidHouse" "given" b)
section
variable {K : PySem.W.Frag} {mg : Str → Option Value} {P : Program} {w : World} {base : Heap}
theorem ok_check_house (T : Tx K mg) : Cal P w K mg base (L2.CX P w) 4 "check_house" ["tree", "house"] (sp_check_house K) := by
  refine cal_of (fD_check_house T) (T.glo 20 rfl) sc_check_house (fun _ _ _ _ _ _ us hl => match us, hl with | [_, _], _ => rfl) (fun vs H Q E h => len2 h) (fun f cdv A outer s H vs Q E hr h => ?_)
  obtain ⟨a, b, rfl, h⟩ := h
  refine ⟨_, (pss_one (ps_if (pt_cmpR (tree_nin (K := K) T (hr.mono (by decide))) (pv 1) (pv 0) (by with_unfolding_all rfl)) (pss_one (ps_raise rfl (takes_of rfl rfl rfl rfl) (pmk_InvalidHouse T hr rfl (pa_cons (pv 1) pa_nil)))) pss_nil)), ?_⟩
  obtain ⟨s0, n, rs, Fs, d, rfl, t, hd, q1, q2⟩ := h
  refine ⟨_, rfl, _, rfl, s0, rfl, t.ins, _, _, rfl, s0, n, rs, Fs, d, rfl, t, hd, _, rfl, _, rfl, ?_⟩
  cases e : isIdx d n with
  | true => refine iteF ?_; exact q1 e
  | false =>
    refine iteT ?_
    exact ⟨_, rfl, _, rfl, fun d H' _ e' hx => q2 e d H' e' hx⟩
end

end T1

namespace T1
open PySem PySem.Spec PyProof.Rows L2 G
open Evl (Ex)
local macro_rules | `(tactic| walk_at "dd") => `(tactic| (dsimp only [tCB, tCons, tNil, tC, tOp, tUn, tTest, tB, tVar, tAndV, tOrV, tNotV, tIf, tAnd, tOr, tNot, tSeq, tRet, tRetN, tIfS, tAsg, gName, tDrop, tTup, tLst, tChain, tNext, tCall, L2.start]))
open M (at_)
def wy (Fs : List (List (List Nat))) (i j : Nat) : List Nat := at_ (Fs[i]?.getD []) j
structure TrF (K : PySem.W.Frag) (H : Hp) (s : Addr) (n : Nat) (rs : List (Nat × Nat)) (Fs : List (List (List Nat))) (dx t1 t2 t3 : Addr) (xs ys : List V) : Prop where
  g : ∃ r1, r1 = V.ref t1 ∧ H s = some (.ins (He.ga K "Tree") dx [("houses", iV n), ("roads", r1), ("near", .ref t2), ("ways", .ref t3)])
  rd : Dq K H (.ref t1) (.tuple (rs.map pairD))
  nx : SqT K H t2 xs
  nl : xs.length = n
  ni : ∀ i, i < n → ∃ tr, xs[i]? = some (.ref tr) ∧ SqT K H tr ((nb rs n i).map iV)
  wx : SqT K H t3 ys
  wi : ∀ i, i < n → ∃ ta zs, ys[i]? = some (.ref ta) ∧ SqT K H ta zs ∧ ∀ j, j < n → ∃ tr, zs[j]? = some (.ref tr) ∧ SqT K H tr ((wy Fs i j).map iV) ∧ FrzT H (.ref tr)
theorem TreeAt.f {K : PySem.W.Frag} {H : Hp} {s : Addr} {n : Nat} {rs Fs} (t : TreeAt K H s n rs Fs) : ∃ dx t1 t2 t3 xs ys, TrF K H s n rs Fs dx t1 t2 t3 xs ys := by
  obtain ⟨dx, r1, r2, r3, g, g1, g2, g3, g4⟩ := t.at_
  obtain ⟨t2, xs, rfl, sx, ds⟩ := rows_at g2
  have g1' := g1
  cases g1 with
  | @tup t1 _ _ h1 hs1 =>
  obtain ⟨t3, ys, rfl, h3, hs3⟩ := g4
  have ln : (nbs n rs).length = n := by unfold nbs; rw [List.length_map, List.length_range]
  refine ⟨dx, t1, t2, t3, xs, ys, ⟨⟨_, rfl, g⟩, g1', sx, by rw [ds.length, List.length_map, ln], fun i hi => ?_, h3, fun i hi => ?_⟩⟩
  · have e : ((nbs n rs).map rowD)[i]? = some (rowD (nb rs n i)) := by
      unfold nbs
      rw [List.getElem?_map, List.getElem?_map, List.getElem?_range hi]; rfl
    obtain ⟨v, h1, h2⟩ := ds.at_ e
    obtain ⟨tr, rfl, h⟩ := row_at h2
    exact ⟨tr, h1, h⟩
  · have hf : i < Fs.length := by rw [t.fl]; exact hi
    have eF : Fs[i]? = some Fs[i] := List.getElem?_eq_getElem hf
    obtain ⟨v, h1, ta, zs, rfl, sz, dz⟩ := F2.get hs3 eF
    refine ⟨ta, zs, h1, sz, fun j hj => ?_⟩
    have lF : Fs[i].length = n := by rw [(t.fw i _ eF).len, ln]
    have ej : Fs[i][j]? = some (Fs[i][j]'(by omega)) := List.getElem?_eq_getElem (by omega)
    obtain ⟨v, h1, tr, rfl, h2, h3⟩ := F2.get dz ej
    have same : wy Fs i j = Fs[i][j]'(by omega) := by unfold wy; rw [eF]; exact at_of ej
    exact ⟨tr, h1, same ▸ h2, h3⟩
theorem idx_nat {d : PyData} {n : Nat} (h : isIdx d n = true) : ∃ i : Nat, d = .int (i : Int) ∧ i < n := by
  obtain ⟨i, rfl, h1, h2⟩ := isIdx_int h
  exact ⟨i.toNat, by rw [Int.toNat_of_nonneg h1], by omega⟩
theorem isIdx_nat {i n : Nat} (h : i < n) : isIdx (.int (i : Int)) n = true := by
  simp only [isIdx, Bool.and_eq_true, decide_eq_true_eq]; omega
theorem inV_iff (k : Nat) (l : List Nat) : inV (iV k) (l.map iV) = l.contains k := by
  unfold inV
  rw [List.any_map, Bool.eq_iff_iff, List.any_eq_true, List.contains_iff_mem]
  constructor
  · rintro ⟨x, hx, e⟩
    have e' : ((x : Int) == (k : Int)) = true := e
    have : x = k := by have := beq_iff_eq.mp e'; omega
    exact this ▸ hx
  · exact fun h => ⟨k, h, by show ((k : Int) == (k : Int)) = true; simp⟩
theorem flat_iV (l : List Nat) : (l.map iV).all flatV = true := by
  rw [List.all_map]; exact List.all_eq_true.mpr fun _ _ => rfl
/-- an error of two fields -/
def Err2 (K : PySem.W.Frag) (E : XK) (H : Hp) (x f g : Str) (v u : V) : Prop := ∀ d H', Ex H H' → H' d = some (.xd [(g, u), (f, v)]) → E (.ref (He.ga K x)) (some d) H'

end T1

namespace T1
open PySem PySem.Spec PyProof.Rows L2 G
open Evl (Ex)
local macro_rules | `(tactic| walk_at "dd") => `(tactic| (dsimp only [tCB, tCons, tNil, tC, tOp, tUn, tTest, tB, tVar, tAndV, tOrV, tNotV, tIf, tAnd, tOr, tNot, tSeq, tRet, tRetN, tIfS, tAsg, gName, tDrop, tTup, tLst, tChain, tNext, tCall, L2.start]))
theorem shaped_rds (rs : List (Nat × Nat)) : SeqAt.shaped (.tuple (rs.map pairD)) = true := by
  have a : PyData.canLayAll0 (rs.map pairD) = true ∧ PyData.depthAll (rs.map pairD) ≤ 2 := by
    induction rs with
    | nil => exact ⟨rfl, by simp [PyData.depthAll]⟩
    | cons l F ih =>
      refine ⟨?_, ?_⟩
      · simp only [List.map_cons, PyData.canLayAll0, ih.1, Bool.and_true]; rfl
      · have : (pairD l).depth ≤ 2 := by simp [pairD, intD, PyData.depth, PyData.depthAll]
        simp only [List.map_cons, PyData.depthAll]; omega
  unfold SeqAt.shaped
  rw [Bool.and_eq_true, decide_eq_true_eq]
  exact ⟨by simpa [PyData.canLay0] using a.1, by simp only [PyData.depth]; omega⟩
theorem eqv_pair (p q : Nat × Nat) : PyData.eqv (pairD p) (pairD q) = decide (p = q) := by
  obtain ⟨a, b⟩ := p; obtain ⟨c, d⟩ := q
  have : PyData.eqv (pairD (a, b)) (pairD (c, d)) = (((a : Int) == c) && (((b : Int) == d) && true)) := rfl
  rw [this, Bool.and_true, Bool.eq_iff_iff]; simp; omega
theorem eqv_rds : ∀ (rs qs : List (Nat × Nat)), PyData.eqv (.tuple (rs.map pairD)) (.tuple (qs.map pairD)) = decide (rs = qs)
  | [], [] => rfl
  | [], _ :: _ => rfl
  | _ :: _, [] => rfl
  | p :: rs, q :: qs => by
    have e : PyData.eqv (.tuple ((p :: rs).map pairD)) (.tuple ((q :: qs).map pairD)) = (PyData.eqv (pairD p) (pairD q) && PyData.eqv (.tuple (rs.map pairD)) (.tuple (qs.map pairD))) := rfl
    rw [e, eqv_pair, eqv_rds rs qs, Bool.eq_iff_iff]; simp
def sp_Tree___eq__ (K : PySem.W.Frag) : Sp := sp2 fun a b H Q E => ∃ s n rs Fs, a = .ref s ∧ TreeAt K H s n rs Fs ∧ ((∃ s2 n2 rs2 Fs2, b = .ref s2 ∧ TreeAt K H s2 n2 rs2 Fs2 ∧ Q (.bl (decide (n = n2) && decide (rs = rs2))) H) ∨ (((∃ d, Dq K H b d) ∨ ∃ st, b = .ref st ∧ InsAt (He.ga K "Store") st H) ∧ Q (.bl false) H))
section
variable {K : PySem.W.Frag} {mg : Str → Option Value} {P : Program} {w : World} {base : Heap}
theorem ok_Tree___eq__ (T : Tx K mg) : ∃ fd, FunD K "__eq__" "Tree.__eq__" (defArgs st_Tree___eq__) (defBody st_Tree___eq__) (defScope st_Tree___eq__) [] [] (He.ma K (He.ga K "Tree") "__eq__") fd ∧ FG P w K mg base CX0 1 (He.ma K (He.ga K "Tree") "__eq__") fd ["self", "other"] (sp_Tree___eq__ K) := by
  obtain ⟨fd, F⟩ := fD_Tree___eq__ T
  refine ⟨fd, F, fg_of F sc_Tree___eq__ (fun vs H Q E h => len2 h) (fun cdv A outer s H vs Q E hr h => ?_)⟩
  obtain ⟨a, b, rfl, h⟩ := h
  refine ⟨_, (PSs.nox (pss_one (ps_ret (pe_and (pe_callB (call_isiK' (K := K)) (by rfl) (T.free 6 rfl) (by decide +kernel) (pa_cons (pv 1) (pa_cons (pe_glob (v := .ref (He.ga K "Tree")) rfl (T.glo 9 rfl) rfl) pa_nil))) (pe_and (pe_cmpR op_eq (pe_fldK (K := K) (pv 0)) (pe_fldK (K := K) (pv 1)) (nomark _)) (pe_one (pe_cmpR (op_eqDK (K := K) (hu64 hr.r)) (pe_fldK (K := K) (pv 0)) (pe_fldK (K := K) (pv 1)) (nomark _)))))))), ?_⟩
  obtain ⟨s0, n, rs, Fs, rfl, t, h⟩ := h
  rcases h with ⟨s2, n2, rs2, Fs2, rfl, t2, q⟩ | ⟨⟨d, hd⟩ | ⟨st, rfl, hst⟩, q⟩
  · refine ⟨_, rfl, ?_⟩
    walk_at "dd"
    refine isi_own_o (y := "Tree") (T.own 0 rfl) (T.own 0 rfl) (cl_Tree T) (by decide) t2.ins ⟨_, rfl, ?_⟩
    refine iteT ?_
    obtain ⟨dx, u1, u2, u3, xs, ys, f⟩ := t.f
    obtain ⟨_, rfl, g⟩ := f.g
    obtain ⟨dx2, w1, w2, w3, xs2, ys2, f2⟩ := t2.f
    obtain ⟨_, rfl, g2⟩ := f2.g
    refine ⟨_, rfl, s0, _, dx, _, _, rfl, g, cl_Tree T, no_Tree_houses T, rfl, _, rfl, s2, _, dx2, _, _, rfl, g2, cl_Tree T, no_Tree_houses T, rfl, rfl, _, rfl, ?_⟩
    by_cases c : n = n2
    · subst c
      rw [decide_eq_true (show iV n = iV n from rfl)]
      refine iteT ?_
      refine ⟨_, rfl, s0, _, dx, _, _, rfl, g, cl_Tree T, no_Tree_roads T, rfl, _, rfl, s2, _, dx2, _, _, rfl, g2, cl_Tree T, no_Tree_roads T, rfl, ?_⟩
      refine ⟨_, _, f.rd.dp (SeqAt.canLay_of_shaped (shaped_rds rs)), f2.rd.dp (SeqAt.canLay_of_shaped (shaped_rds rs2)), shaped_rds rs, shaped_rds rs2, ?_⟩
      rw [eqv_rds]
      simpa using q
    · rw [decide_eq_false (show ¬ iV n = iV n2 from fun z => c (by have := V.int.inj z; omega))]
      refine iteF ?_
      simpa [c] using q
  · refine ⟨_, rfl, ?_⟩
    walk_at "dd"
    refine isi_own_d (T.own 0 rfl) hd ⟨_, rfl, ?_⟩
    exact q
  · refine ⟨_, rfl, ?_⟩
    walk_at "dd"
    refine isi_own_o (y := "Store") (T.own 0 rfl) (T.own 1 rfl) (cl_Store T) (by decide) hst ⟨_, rfl, ?_⟩
    exact q
end

end T1

namespace T1
open PySem PySem.Spec PyProof.Rows L2 G
open Evl (Ex)
local macro_rules | `(tactic| walk_at "dd") => `(tactic| (dsimp only [tCB, tCons, tNil, tC, tOp, tUn, tTest, tB, tVar, tAndV, tOrV, tNotV, tIf, tAnd, tOr, tNot, tSeq, tRet, tRetN, tIfS, tAsg, gName, tDrop, tTup, tLst, tChain, tNext, tCall, L2.start]))
/-- a box of draws stands at A, with at most c of its own draws taken -/
def BoxAt (H : Hp) (A : Addr) (c : Nat) : Prop := ∃ (x : Int) (b : Bool) (y : Int) (k : Int), H A = some (.lst [.int x, .bl b, .int y, .int k]) ∧ 0 ≤ x ∧ 0 ≤ y ∧ y < 2147483648 ∧ 0 ≤ k ∧ k ≤ c
theorem BoxAt.mono {H H' : Hp} {A : Addr} {c : Nat} (e : Ex H H') (h : BoxAt H A c) : BoxAt H' A c := let ⟨x, b, y, k, z, r⟩ := h; ⟨x, b, y, k, e _ _ z, r⟩
theorem BoxAt.up {H : Hp} {A : Addr} {c d : Nat} (h : BoxAt H A c) (l : c ≤ d) : BoxAt H A d := let ⟨x, b, y, k, z, h1, h2, h3, h4, h5⟩ := h; ⟨x, b, y, k, z, h1, h2, h3, h4, by omega⟩
theorem BoxAt.some {H : Hp} {A : Addr} {c : Nat} (h : BoxAt H A c) : ∃ l, H A = some (.lst l) := let ⟨_, _, _, _, z, _⟩ := h; ⟨_, z⟩
theorem ex_upd_del {H H' : Hp} {A : Addr} {o : HO} (e : Ex (L2.del H A) H') : Ex (L2.del H A) (upd H' A o) := Evl.Ex.mut e del_same
theorem ex_of_del {B H H' : Hp} {A : Addr} (b : Ex B H) (n : B A = none) (e : Ex (L2.del H A) H') : Ex B H' := fun a o z => by
  refine e a o ?_
  rw [del_ne (fun q => by rw [q, n] at z; cases z)]
  exact b a o z
def sp__law_cell (K : PySem.W.Frag) : Sp := sp2 fun a b H Q E => ∃ (p : Addr) (ns : List Int) (k : Nat), a = .ref p ∧ SqL K H p (ns.map V.int) ∧ b = .int (k : Int) ∧ ∀ z H', Ex H H' → Q (.int z) H'
section
variable {K : PySem.W.Frag} {mg : Str → Option Value} {P : Program} {w : World} {base : Heap}
theorem ok__law_cell (T : Tx K mg) : Cal P w K mg base CX0 1 "_law_cell" ["_law_script", "_law_k"] (sp__law_cell K) := by
  refine cal_of (fD__law_cell T) (T.glo 27 rfl) sc__law_cell (fun _ _ _ _ _ _ us hl => match us, hl with | [_, _], _ => rfl) (fun vs H Q E h => len2 h) (fun f cdv A outer s H vs Q E hr h => ?_)
  obtain ⟨a, b, rfl, h⟩ := h
  refine ⟨_, (PSs.nox (pss_one (ps_ret (pe_ifExp (pt_cmpR op_lt (pv 1) (pe_callB (call_lenK (K := K)) (by rfl) (T.free 7 rfl) (by decide +kernel) (pa_cons (pv 0) pa_nil)) (nomark _)) (pe_ix (ix_listK (K := K)) (pv 0) (pv 1) (fun _ _ => rfl)) (pe_op op_add (pe_op op_mul pe_int (pv 1)) (pe_op op_mod (pe_callB (cr_sumK (K := K) rfl) (by rfl) (T.free 16 rfl) (by decide +kernel) (pa_cons (pe_slice (sl_listK (K := K)) (pv 0) po_none (po_some pe_int)) pa_nil)) pe_int)))))), ?_⟩
  obtain ⟨p, ns, k, rfl, hs, rfl, q⟩ := h
  refine ⟨_, rfl, _, rfl, p, _, rfl, .inl hs, _, _, rfl, rfl, _, rfl, ?_⟩
  rw [List.length_map]
  by_cases c : (k : Int) < (ns.length : Int)
  · rw [decide_eq_true c]
    refine iteT ?_
    exact ⟨_, rfl, _, rfl, p, _, _, _, rfl, rfl, hs, atI_nat (j := k) (v := .int (ns[k]'(by omega))) (by rw [List.getElem?_map, List.getElem?_eq_getElem]; rfl), q _ _ (Evl.Ex.refl _)⟩
  · rw [decide_eq_false c]
    refine iteF ?_
    refine ⟨_, rfl, 6011, k, rfl, rfl, .inl (by omega), ?_⟩
    refine ⟨_, rfl, 1, rfl, p, _, rfl, hs, fun l hl => ?_⟩
    have ec : cutV (ns.map V.int) none (some 1) = ((ns.drop (HT.sIx (ns.map V.int).length 0 none)).take (HT.sIx (ns.map V.int).length (ns.map V.int).length (some 1) - HT.sIx (ns.map V.int).length 0 none)).map V.int := by
      unfold cutV; rw [List.map_take, List.map_drop]
    refine ⟨l, _, rfl, SqL.of (by rw [upd_same, ec]), ?_⟩
    exact ⟨_, _, rfl, rfl, by omega, _, _, rfl, rfl, q _ _ (Evl.Ex.new hl)⟩
end
def sp__law_box (K : PySem.W.Frag) : Sp := sp1 fun a H Q E => ∃ i, a = .int i ∧ ∀ A H', H A = none → Ex H H' → BoxAt H' A 0 → Q (.ref A) H'
section
variable {K : PySem.W.Frag} {mg : Str → Option Value} {P : Program} {w : World} {base : Heap}
theorem ok__law_box (T : Tx K mg) : Cal P w K mg base CX0 1 "_law_box" ["_law_great"] (sp__law_box K) := by
  refine cal_of (fD__law_box T) (T.glo 28 rfl) sc__law_box (fun _ _ _ _ _ _ us hl => match us, hl with | [_], _ => rfl) (fun vs H Q E h => len1 h) (fun f cdv A outer s H vs Q E hr h => ?_)
  obtain ⟨a, rfl, h⟩ := h
  refine ⟨_, (PSs.nox (pss_one (ps_ret (pe_lst (pa_cons (pe_callB call_abs (by rfl) (T.free 1 rfl) (by decide +kernel) (pa_cons (pv 0) pa_nil)) (pa_cons (pe_cmpR op_ge (pe_callB call_abs (by rfl) (T.free 1 rfl) (by decide +kernel) (pa_cons (pv 0) pa_nil)) (pe_op op_pow pe_int pe_int) (nomark _)) (pa_cons (pe_op op_mod (pe_callTy call_int1 (by rfl) (T.free 5 rfl) (by decide +kernel) (pa_cons (pe_callB call_abs (by rfl) (T.free 1 rfl) (by decide +kernel) (pa_cons (pv 0) pa_nil)) pa_nil)) pe_int) (pa_cons pe_int pa_nil)))))))), ?_⟩
  obtain ⟨i, rfl, q⟩ := h
  refine ⟨_, rfl, i, rfl, _, rfl, i, rfl, 10, 18, rfl, rfl, ⟨by decide, by decide, by decide⟩, _, _, rfl, rfl, _, rfl, i, rfl, .inl ⟨_, rfl, _, _, rfl, rfl, (by show (0 : Int) < 2147483629; decide), (by show 4 ≤ sizeLine; decide), fun A hA => ?_⟩⟩
  refine q A _ hA (Evl.Ex.new hA) ⟨_, _, _, _, upd_same, ?_, Int.emod_nonneg _ (by decide), ?_, by decide, by decide⟩
  · split <;> omega
  · exact Int.lt_trans (Int.emod_lt_of_pos _ (by decide)) (by decide)
end
theorem take_some {m : Nat} {z : Int} (h1 : 0 ≤ z) (h2 : z < m) : ∃ i : Nat, z = i ∧ i < m := ⟨z.toNat, by omega, by omega⟩
def sp__law_take (K : PySem.W.Frag) : Sp := sp2 fun a b H Q E => ∃ (A : Addr) (m c : Nat), a = .ref A ∧ b = .int (m : Int) ∧ 1 ≤ m ∧ m ≤ 1000000 ∧ c ≤ 1000000 ∧ BoxAt H A c ∧ ∀ (i : Nat) H', i < m → Ex (L2.del H A) H' → BoxAt H' A (c + 1) → Q (.int (i : Int)) H'
section
variable {K : PySem.W.Frag} {mg : Str → Option Value} {P : Program} {w : World} {base : Heap}
theorem ok__law_take (T : Tx K mg) : Cal P w K mg base CX0 1 "_law_take" ["_law_box_here", "_law_many"] (sp__law_take K) := by
  refine cal_of (fD__law_take T) (T.glo 29 rfl) sc__law_take (fun _ _ _ _ _ _ us hl => match us, hl with | [_, _], _ => rfl) (fun vs H Q E h => len2 h) (fun f cdv A outer s H vs Q E hr h => ?_)
  obtain ⟨a, b, rfl, h⟩ := h
  refine ⟨_, (PSs.nox (pss_cons (ps_if (PW.pt (pw_and (pt_val (pe_ix (ix_listK (K := K)) (pv 0) pe_int (fun _ _ => rfl))) (pw_and1 (pt_cmpR op_gt (pe_ix (ix_listK (K := K)) (pv 0) pe_int (fun _ _ => rfl)) pe_int (nomark _))))) (pss_cons (ps_set (i := 2) sc__law_take.nd rfl (Or.inl rfl) (pe_op op_mod (pe_callTy call_int1 (by rfl) (T.free 5 rfl) (by decide +kernel) (pa_cons (pe_ix (ix_listK (K := K)) (pv 0) pe_int (fun _ _ => rfl)) pa_nil)) (pv 1)))
      (pss_cons (ps_asg (pe_op op_fdiv (pe_ix (ix_listK (K := K)) (pv 0) pe_int (fun _ _ => rfl)) (pv 1)) (pg_sub (pv 0) pe_int set_list))
      (pss_one (ps_ret (pv 2))))) pss_nil)
      (pss_cons (ps_asg (pe_op op_add (pe_ix (ix_listK (K := K)) (pv 0) pe_int (fun _ _ => rfl)) pe_int) (pg_sub (pv 0) pe_int set_list))
      (pss_cons (ps_set (i := 3) sc__law_take.nd rfl (Or.inl rfl) (pe_op op_mod (pe_callTy call_int1 (by rfl) (T.free 5 rfl) (by decide +kernel) (pa_cons (pe_op op_pow (pe_op op_add (pe_op op_add (pe_ix (ix_listK (K := K)) (pv 0) pe_int (fun _ _ => rfl)) (pe_op op_mul pe_int (pe_ix (ix_listK (K := K)) (pv 0) pe_int (fun _ _ => rfl)))) pe_int) pe_int) pa_nil)) pe_int))
      (pss_one (ps_ret (pe_op op_mod (pe_op op_fdiv (pe_op op_mod (pe_callTy call_int1 (by rfl) (T.free 5 rfl) (by decide +kernel) (pa_cons (pe_op op_pow (pe_op op_add (pe_op op_mul (pv 3) pe_int) (pe_op op_mul pe_int (pe_ix (ix_listK (K := K)) (pv 0) pe_int (fun _ _ => rfl)))) pe_int) pa_nil)) pe_int) pe_int) (pv 1)))))))), ?_⟩
  obtain ⟨A, m, c, rfl, rfl, m1, m2, c2, ⟨x, b, y, k, hA, x0, y0, y1, k0, k1⟩, q⟩ := h
  refine seq_at ?_
  have lA := SqL.of (K := K) hA
  refine ⟨_, rfl, A, _, 1, _, rfl, rfl, lA, rfl, _, rfl, ?_⟩
  have fin : ∀ (Z : Int) H', Ex (L2.del H A) H' → BoxAt H' A (c + 1) → Q (.int (Z % (m : Int))) H' := fun Z H' e hb => by
    obtain ⟨i, e1, hi⟩ := take_some (m := m) (Int.emod_nonneg Z (by omega)) (Int.emod_lt_of_pos Z (by omega))
    rw [e1]; exact q i H' hi e hb
  cases b with
  | false =>
    refine iteF (iteF ?_)
    dsimp only [tNext]
    refine seq_at ?_
    refine ⟨_, rfl, A, _, 3, _, rfl, rfl, lA, rfl, _, _, rfl, rfl, _, rfl, A, _, 3, 3, rfl, rfl, hA, rfl, ?_⟩
    have hA1 : upd H A (.lst ([V.int x, .bl false, .int y, .int k].set 3 (.int (k + 1)))) A = some (.lst [.int x, .bl false, .int y, .int (k + 1)]) := upd_same
    have eA1 : Ex (L2.del H A) (upd H A (.lst ([V.int x, .bl false, .int y, .int k].set 3 (.int (k + 1))))) := ex_upd_del Ex.ofDel
    generalize upd H A (.lst ([V.int x, .bl false, .int y, .int k].set 3 (.int (k + 1)))) = H1 at hA1 eA1 ⊢
    have l1 := SqL.of (K := K) hA1
    dsimp only
    refine seq_at (asg_at ?_)
    refine ⟨_, rfl, A, _, 2, _, rfl, rfl, l1, rfl, _, rfl, A, _, 3, _, rfl, rfl, l1, rfl, _, _, rfl, rfl, .inl ⟨by decide, by decide⟩, _, _, rfl, rfl, _, _, rfl, rfl, _, 5, rfl, rfl, ⟨by decide, by decide, by omega⟩, .inl ⟨_, rfl, _, 2147483647, rfl, rfl, (by show (0 : Int) < 2147483647; decide), ?_⟩⟩
    have z0 : ∀ z : Int, 0 ≤ z % 2147483647 ∧ z % 2147483647 < 2147483647 := fun z => ⟨Int.emod_nonneg _ (by decide), Int.emod_lt_of_pos _ (by decide)⟩
    generalize ((y + 15485867 * (k + 1) + 179424691) ^ (5 : Int).toNat) = z1
    have z2 := z0 z1
    generalize z1 % 2147483647 = z at z2 ⊢
    dsimp only [gName]
    refine ret_at ?_
    refine ⟨_, rfl, _, _, rfl, rfl, .inr ⟨by decide, by decide⟩, _, rfl, A, _, 3, _, rfl, rfl, l1, rfl, _, _, rfl, rfl, .inl ⟨by decide, by decide⟩, _, _, rfl, rfl, _, 3, rfl, rfl, ⟨by decide, by decide, by omega⟩, .inl ⟨_, rfl, _, 2147483587, rfl, rfl, (by show (0 : Int) < 2147483587; decide), _, 64, rfl, rfl, ⟨by decide, by decide⟩, _, rfl, _, _, rfl, rfl, (by show (0 : Int) < (m : Int); omega), ?_⟩⟩
    exact fin _ _ eA1 ⟨x, false, y, k + 1, hA1, x0, y0, y1, by omega, by omega⟩
  | true =>
    refine iteT ?_
    refine ⟨_, rfl, A, _, 0, _, rfl, rfl, lA, rfl, _, _, rfl, rfl, _, rfl, ?_⟩
    by_cases hx : 0 < x
    · rw [decide_eq_true hx]
      refine iteT ?_
      refine seq_at (asg_at ?_)
      refine ⟨_, rfl, A, _, 0, _, rfl, rfl, lA, rfl, .inl ⟨_, rfl, _, rfl, _, _, rfl, rfl, (by show (0 : Int) < (m : Int); omega), ?_⟩⟩
      dsimp only [gName]
      refine seq_at ?_
      refine ⟨_, rfl, A, _, 0, _, rfl, rfl, lA, rfl, _, rfl, _, _, rfl, rfl, ⟨by omega, by omega⟩, _, rfl, A, _, 0, 0, rfl, rfl, hA, rfl, ?_⟩
      have dv : 0 ≤ x / (m : Int) := Int.ediv_nonneg x0 (by omega)
      exact ⟨_, rfl, fin x _ (ex_upd_del Ex.ofDel) ⟨x / (m : Int), true, y, k, upd_same, dv, y0, y1, k0, by omega⟩⟩
    rw [decide_eq_false hx]
    refine iteF ?_
    dsimp only [tNext]
    refine seq_at ?_
    refine ⟨_, rfl, A, _, 3, _, rfl, rfl, lA, rfl, _, _, rfl, rfl, _, rfl, A, _, 3, 3, rfl, rfl, hA, rfl, ?_⟩
    have hA1 : upd H A (.lst ([V.int x, .bl true, .int y, .int k].set 3 (.int (k + 1)))) A = some (.lst [.int x, .bl true, .int y, .int (k + 1)]) := upd_same
    have eA1 : Ex (L2.del H A) (upd H A (.lst ([V.int x, .bl true, .int y, .int k].set 3 (.int (k + 1))))) := ex_upd_del Ex.ofDel
    generalize upd H A (.lst ([V.int x, .bl true, .int y, .int k].set 3 (.int (k + 1)))) = H1 at hA1 eA1 ⊢
    have l1 := SqL.of (K := K) hA1
    dsimp only
    refine seq_at (asg_at ?_)
    refine ⟨_, rfl, A, _, 2, _, rfl, rfl, l1, rfl, _, rfl, A, _, 3, _, rfl, rfl, l1, rfl, _, _, rfl, rfl, .inl ⟨by decide, by decide⟩, _, _, rfl, rfl, _, _, rfl, rfl, _, 5, rfl, rfl, ⟨by decide, by decide, by omega⟩, .inl ⟨_, rfl, _, 2147483647, rfl, rfl, (by show (0 : Int) < 2147483647; decide), ?_⟩⟩
    have z0 : ∀ z : Int, 0 ≤ z % 2147483647 ∧ z % 2147483647 < 2147483647 := fun z => ⟨Int.emod_nonneg _ (by decide), Int.emod_lt_of_pos _ (by decide)⟩
    generalize ((y + 15485867 * (k + 1) + 179424691) ^ (5 : Int).toNat) = z1
    have z2 := z0 z1
    generalize z1 % 2147483647 = z at z2 ⊢
    dsimp only [gName]
    refine ret_at ?_
    refine ⟨_, rfl, _, _, rfl, rfl, .inr ⟨by decide, by decide⟩, _, rfl, A, _, 3, _, rfl, rfl, l1, rfl, _, _, rfl, rfl, .inl ⟨by decide, by decide⟩, _, _, rfl, rfl, _, 3, rfl, rfl, ⟨by decide, by decide, by omega⟩, .inl ⟨_, rfl, _, 2147483587, rfl, rfl, (by show (0 : Int) < 2147483587; decide), _, 64, rfl, rfl, ⟨by decide, by decide⟩, _, rfl, _, _, rfl, rfl, (by show (0 : Int) < (m : Int); omega), ?_⟩⟩
    exact fin _ _ eA1 ⟨x, true, y, k + 1, hA1, x0, y0, y1, by omega, by omega⟩
end

end T1

namespace T1
open PySem PySem.Spec PyProof.Rows L2 G
open Evl (Ex)
local macro_rules | `(tactic| walk_at "dd") => `(tactic| (dsimp only [tCB, tCons, tNil, tC, tOp, tUn, tTest, tB, tVar, tAndV, tOrV, tNotV, tIf, tAnd, tOr, tNot, tSeq, tRet, tRetN, tIfS, tAsg, gName, tDrop, tTup, tLst, tChain, tNext, tCall, L2.start]))
theorem del_get {H H' : Hp} {A C : Addr} {o : HO} (e : Ex (L2.del H A) H') (n : C ≠ A) (h : H C = some o) : H' C = some o := e C o (by rw [del_ne n]; exact h)
theorem erase_map {α β : Type} (f : α → β) : ∀ (l : List α) (i : Nat), (l.map f).eraseIdx i = (l.eraseIdx i).map f
  | [], _ => rfl
  | _ :: _, 0 => rfl
  | a :: l, i + 1 => by simp only [List.map_cons, List.eraseIdx_cons_succ, erase_map f l i]
theorem erase_perm {α : Type} : ∀ {l : List α} {i : Nat} (h : i < l.length), (l[i] :: l.eraseIdx i).Perm l
  | _ :: _, 0, _ => .refl _
  | a :: l, i + 1, h => by
    have z := erase_perm (l := l) (i := i) (by simpa using h)
    simp only [List.getElem_cons_succ, List.eraseIdx_cons_succ]
    exact (List.Perm.swap ..).trans (z.cons a)
theorem seqIndex_nat {i n : Nat} (h : i < n) : seqIndex? (i : Int) n = some i := by
  unfold seqIndex?
  have h1 : ¬ (i : Int) < 0 := by omega
  simp only [h1, if_false]
  rw [if_pos (by simp; omega)]; rfl
def sp__law_mixed (K : PySem.W.Frag) : Sp := sp2 fun a b H Q E => ∃ (A p : Addr) (ns : List Nat) (c : Nat), a = .ref A ∧ b = .ref p ∧ SqL K H p (ns.map iV) ∧ ns.length ≤ 100 ∧ c + ns.length ≤ 1000000 ∧ BoxAt H A c ∧
  ∀ (f : Addr) (ms : List Nat) H', ms.Perm ns → H f = none → Ex (L2.del H A) H' → H' f = some (.lst (ms.map iV)) → BoxAt H' A (c + ns.length) → Q (.ref f) H'
section
variable {K : PySem.W.Frag} {mg : Str → Option Value} {P : Program} {w : World} {base : Heap}
theorem ok__law_mixed (T : Tx K mg) : Cal P w K mg base CX0 2 "_law_mixed" ["_law_box_here", "_law_items"] (sp__law_mixed K) := by
  refine cal_of (fD__law_mixed T) (T.glo 30 rfl) sc__law_mixed (fun _ _ _ _ _ _ us hl => match us, hl with | [_, _], _ => rfl) (fun vs H Q E h => len2 h) (fun f cdv A outer s H vs Q E hr h => ?_)
  obtain ⟨a, b, rfl, h⟩ := h
  refine ⟨_, (PSs.nox (pss_cons (ps_par (i := 2) (j := 3) rfl sc__law_mixed.nd rfl rfl (by decide) rfl rfl (pa_cons (pe_callTy (call_listK (K := K)) (by rfl) (T.free 8 rfl) (by decide +kernel) (pa_cons (pv 1) pa_nil)) (pa_cons (pe_lst pa_nil) pa_nil)) (by rfl))
      (pss_cons (ps_while PassesOwn.never (pt_cmpR (op_neDK (K := K) (hu64 hr.r)) (pv 2) (pe_lst pa_nil) (nomark _)) (pss_one (ps_expr (pe_bm PySem.F.plainAttrs_list PySem.F.slot_list_append PySem.F.type_list_append mt_append (pv 3) (pa_cons (pe_bm PySem.F.plainAttrs_list PySem.F.slot_list_pop PySem.F.type_list_pop mt_popAt (pv 2) (pa_cons (pe_c (ok__law_take T) (hr.mono (by decide)) rfl pass0 (pa_cons (pv 0) (pa_cons (pe_callB (call_lenK (K := K)) (by rfl) (T.free 7 rfl) (by decide +kernel) (pa_cons (pv 2) pa_nil)) pa_nil))) pa_nil)) pa_nil)))))
      (pss_one (ps_ret (pv 3)))))), ?_⟩
  obtain ⟨A, p, ns, c, rfl, rfl, hp, nl, c2, hb, q⟩ := h
  obtain ⟨l0, hA⟩ := hb.some
  refine seq_at ?_
  refine ⟨_, rfl, p, _, rfl, .inl hp, fun L hL => ⟨Nat.zero_le _, fun F hF => ⟨_, _, rfl, ?_⟩⟩⟩
  have LA : L ≠ A := fun z => by rw [z, hA] at hL; cases hL
  have FA : F ≠ A := fun z => by rw [z, upd_ne LA.symm, hA] at hF; cases hF
  have FL : F ≠ L := fun z => by rw [z, upd_same] at hF; cases hF
  have hF0 : H F = none := by rw [upd_ne FL] at hF; exact hF
  have hFd : L2.del H A F = none := by rw [del_ne FA]; exact hF0
  have hLd : L2.del H A L = none := by rw [del_ne LA]; exact hL
  dsimp only
  refine seq_at ?_
  refine ⟨fun m σ' H' => ∃ ls fs : List Nat, σ' = [some (.ref A), some (.ref p), some (.ref L), some (.ref F)] ∧ Ex (L2.del H A) H' ∧ BoxAt H' A (c + fs.length) ∧ H' L = some (.lst (ls.map iV)) ∧ H' F = some (.lst (fs.map iV)) ∧ (fs ++ ls).Perm ns ∧ m = ls.length,
    ⟨_, ns, [], rfl, Evl.Ex.mut (Evl.Ex.mut Ex.ofDel hLd) hFd, (hb.mono (Evl.Ex.new hL)).mono (Evl.Ex.new hF), ?_, upd_same, .refl _, rfl⟩, ?_⟩
  · rw [upd_ne FL.symm, upd_same]
  rintro m σ' H' ⟨ls, fs, rfl, e, hbx, hLl, hFf, pm, rfl⟩
  refine ⟨_, rfl, Nat.zero_le _, fun d hd => ?_⟩
  have ed := Evl.Ex.new (o := .lst []) hd
  refine ⟨.list (ls.map intD), .list [], dp_list (ed _ _ hLl), dp_list (l := []) upd_same, (shaped_ints ls).1, (shaped_ints []).1, _, rfl, ?_⟩
  have hln : fs.length + ls.length = ns.length := by rw [← List.length_append]; exact pm.length_eq
  by_cases c0 : ls = []
  · subst c0
    show if (!PyData.eqv (.list []) (.list [])) = true then _ else _
    refine iteF ?_
    dsimp only
    refine ⟨_, rfl, q F fs _ (by simpa using pm) hF0 (e.trans ed) (ed _ _ hFf) ?_⟩
    have : fs.length = ns.length := by simpa using hln
    rw [← this]; exact hbx.mono ed
  · have ne : PyData.eqv (.list (ls.map intD)) (.list []) = false := by
      cases ls with
      | nil => exact absurd rfl c0
      | cons x l => rfl
    rw [ne]
    refine iteT ?_
    have lp : 1 ≤ ls.length := by cases ls; exact absurd rfl c0; simp
    refine ⟨fun σ' H' => ∃ m', m' < ls.length ∧ ∃ ls fs : List Nat, σ' = [some (.ref A), some (.ref p), some (.ref L), some (.ref F)] ∧ Ex (L2.del H A) H' ∧ BoxAt H' A (c + fs.length) ∧ H' L = some (.lst (ls.map iV)) ∧ H' F = some (.lst (fs.map iV)) ∧ (fs ++ ls).Perm ns ∧ m' = ls.length, fun σ' H' h => h, ?_⟩
    refine ⟨_, rfl, .inl ⟨rfl, _, SqL.of (ed _ _ hFf)⟩, _, rfl, .inl ⟨rfl, _, SqL.of (ed _ _ hLl)⟩, _, rfl, _, rfl, L, _, rfl, .inl (SqL.of (ed _ _ hLl)), _, _, rfl, A, ls.length, c + fs.length, rfl, by rw [List.length_map], lp, by omega, by omega, hbx.mono ed, fun i H2 hi e2 hb2 => ?_⟩
    have hL2 := del_get e2 LA (ed _ _ hLl)
    have hF2 := del_get e2 FA (ed _ _ hFf)
    have e02 := ex_of_del (e.trans ed) del_same e2
    refine ⟨L, _, (i : Int), i, iV ls[i], rfl, rfl, hL2, by omega, by omega, ?_, ?_, ?_⟩
    · rw [List.length_map]; exact seqIndex_nat hi
    · rw [List.getElem?_map, List.getElem?_eq_getElem hi]; rfl
    · refine ⟨F, fs.map iV, _, rfl, rfl, ?_, ?_, ls.length - 1, by omega, ls.eraseIdx i, fs ++ [ls[i]], rfl, Evl.Ex.mut (Evl.Ex.mut e02 hLd) hFd, ?_, ?_, ?_, ?_, ?_⟩
      · rw [upd_ne FL]; exact hF2
      · rw [List.length_map]; exact line_big (by omega)
      · rw [List.length_append, List.length_singleton, ← Nat.add_assoc]
        obtain ⟨x, b, y, k, z, r⟩ := hb2
        exact ⟨x, b, y, k, by rw [upd_ne FA.symm, upd_ne LA.symm]; exact z, r⟩
      · rw [upd_ne FL.symm, upd_same, erase_map]
      · rw [upd_same, List.map_append]; rfl
      · refine List.Perm.trans ?_ pm
        rw [List.append_assoc]
        exact (erase_perm hi).append_left fs
      · rw [List.length_eraseIdx, if_pos hi]
end

end T1

namespace T1
open PySem PySem.Spec PyProof.Rows L2 G
open Evl (Ex)
local macro_rules | `(tactic| walk_at "dd") => `(tactic| (dsimp only [tCB, tCons, tNil, tC, tOp, tUn, tTest, tB, tVar, tAndV, tOrV, tNotV, tIf, tAnd, tOr, tNot, tSeq, tRet, tRetN, tIfS, tAsg, gName, tDrop, tTup, tLst, tChain, tNext, tCall, L2.start]))
section
variable {X : Cx} {K : PySem.W.Frag}
theorem tree_eq (T : Tx X.K X.mg) (hr : RG 1 X.A) (h : X.K = K := by rfl) : OpR X (compareOp .Eq) (rCmpO K (He.ga K "Tree") false (sp_Tree___eq__ K) E0) := by
  subst h
  obtain ⟨fd, F, G⟩ := ok_Tree___eq__ (P := X.prog) (w := X.w) (base := X.base) T
  exact op_eqO ⟨(me_Tree___eq__ T).at_, (me_Tree___eq__ T).fn.symm⟩ G hr (F.bindsN fun _ _ _ _ _ _ us hl => match us, hl with | [_, _], _ => rfl) pass0
theorem tree_ne (T : Tx X.K X.mg) (hr : RG 2 X.A) (h : X.K = K := by rfl) : OpR X (compareOp .NotEq) (rCmpO K (He.ga K "Tree") true (sp_Tree___eq__ K) E0) := by
  subst h
  obtain ⟨fd, F, G⟩ := ok_Tree___eq__ (P := X.prog) (w := X.w) (base := X.base) T
  exact op_neO ⟨(me_Tree___eq__ T).at_, (me_Tree___eq__ T).fn.symm⟩ (T.own 0 rfl).ne (T.own 0 rfl).hm G hr (F.bindsN fun _ _ _ _ _ _ us hl => match us, hl with | [_, _], _ => rfl) pass0
/-- Tree(a, b) where it is known to succeed -/
theorem tree_mk {a b : Expr} {ta : TA} {p pos : Pos} (T : Tx X.K X.mg) (hr : RG 6 X.A) (hg : Gl X "Tree") (ha : PA X [a, b] ta) (h : X.K = K := by rfl)
    (one : OneByOne X a [b] pos := by exact ⟨rfl, rfl⟩) :
    PE X (.Call (.Name "Tree" p) [a, b] [] pos) (tGM (He.ga K "Tree") 2 0 (sp_Tree___init__ K) (fun us _ => us) E0 ta tNil) := by
  subst h
  obtain ⟨fd, F, G⟩ := ok_Tree___init__ (P := X.prog) (w := X.w) (base := X.base) T
  exact pe_gmk (mk_Tree T) G hr hg (T.glo 9 rfl) (kb_of F 3 [] (fun us _ => us) (fun r _ => r) fun _ _ _ _ _ _ us ws hl hl2 => match us, ws, hl, hl2 with | [_, _, _], [], _, _ => rfl) passL ha (by decide) one
end
def optV : Option Nat → V
  | none => .non
  | some n => .int (n : Int)
def optD : Option Nat → PyData
  | none => .none
  | some n => .int (n : Int)
theorem optVD {K : PySem.W.Frag} {H : Hp} (o : Option Nat) : Dq K H (optV o) (optD o) := by
  cases o
  · exact .non
  · exact .int _
theorem digits_tl : TL.tl "0123456789" = [48, 49, 50, 51, 52, 53, 54, 55, 56, 57] := by decide +kernel
theorem dig_mem (c : Nat) : decide (c ∈ ("0123456789" : Str).cps.toList) = TT.dig c := by
  have e : ("0123456789" : Str).cps.toList = [48, 49, 50, 51, 52, 53, 54, 55, 56, 57] := digits_tl
  rw [e, Bool.eq_iff_iff, decide_eq_true_eq, TT.dig_iff]
  simp only [List.mem_cons, List.not_mem_nil, or_false]
  omega
theorem num_cases (w : Str) : (w = Str.ofString "" → TT.num w = none) ∧ ((TL.tl w).all TT.dig = false → TT.num w = none) ∧
    (w ≠ Str.ofString "" → (TL.tl w).all TT.dig = true → ∃ c, (TL.tl w)[0]? = some c ∧ PySem.intText? w = some ((NumText.digitsVal (TL.tl w) : Nat) : Int) ∨ 4300 < w.length) := by
  refine ⟨fun e => by rw [e]; rfl, fun h => ?_, fun ne all => ?_⟩
  · unfold TT.num
    cases e : TL.tl w with
    | nil => rw [e] at h; cases h
    | cons c r => rw [e] at h; rw [TT.numS_cons, h, Bool.false_and]; rfl
  · cases e : TL.tl w with
    | nil => exact absurd (TL.ext_tl (e.trans (show [] = TL.tl (Str.ofString "") by decide +kernel))) ne
    | cons c r =>
      refine ⟨c, ?_⟩
      by_cases c2 : w.length ≤ 4300
      · refine .inl ⟨rfl, ?_⟩
        have z := intText_digits (x := w) (fun d hd => TT.dig_iff.mp (List.all_eq_true.mp all d hd)) (by show TL.tl w ≠ []; rw [e]; simp) c2
        rw [← e]; exact z
      · exact .inr (by omega)
theorem len_size (w : Str) : w.cps.size = w.length := rfl
theorem sgn_at {w : Str} {i : Nat} {c : Nat} (h : (TL.tl w)[i]? = some c) : sgn w i = .str ⟨#[c]⟩ := by
  unfold sgn
  have : w.cps[i]? = some c := by rw [← Array.getElem?_toList]; exact h
  rw [this]; rfl
theorem one_str {c d : Nat} : ((⟨#[c]⟩ : Str) = ⟨#[d]⟩) ↔ c = d := by simp
theorem str_one (w : Str) (c : Nat) : w = ⟨#[c]⟩ ↔ TL.tl w = [c] := ⟨fun e => by rw [e], fun e => TL.ext_tl e⟩
def sp_count_in (K : PySem.W.Frag) : Sp := sp1 fun a H Q E => ∃ w : Str, a = .str w ∧ w.length ≤ 600 ∧ ∀ H', Ex H H' → Q (optV (TT.num w)) H'
section
variable {K : PySem.W.Frag} {mg : Str → Option Value} {P : Program} {w : World} {base : Heap}
theorem ok_count_in (T : Tx K mg) : Cal P w K mg base CX0 1 "count_in" ["word"] (sp_count_in K) := by
  refine cal_of (fD_count_in T) (T.glo 15 rfl) sc_count_in (fun _ _ _ _ _ _ us hl => match us, hl with | [_], _ => rfl) (fun vs H Q E h => len1 h) (fun f cdv A outer s H vs Q E hr h => ?_)
  obtain ⟨a, rfl, h⟩ := h
  refine ⟨_, (PSs.nox (pss_cons (ps_if (PW.pt (pw_or (pt_cmpR op_eq (pv 0) pe_str (nomark _)) (pw_or1 (pt_not (pt_val (pe_callB (cr_allK (K := K) rfl) (by rfl) (T.free 2 rfl) (by decide +kernel) (pa_cons (pe_lc (own := [("sign", 1)]) rfl sc_count_in.nd (pi_str (pv 0)) (blkOk_by (own := [("sign", 1)]) (N := ["word", "sign"]) (sc := defScope st_count_in) (by decide +kernel)) (fun _ _ _ _ _ => (pg_name (i := 1) sc_count_in.nd rfl (Or.inl rfl))) (fun _ _ _ _ _ => pts_nil) (fun _ _ _ _ _ => (pe_cmpR op_in_sign (pv 1) (pe_glob (v := .str "0123456789") rfl (T.con_DIGITS).choose_spec ⟨_, rfl⟩) (by with_unfolding_all rfl)))) pa_nil))))))) (pss_one (ps_ret pe_non)) pss_nil)
      (pss_one (ps_ret (pe_ifExp (PW.pt (pw_or (pt_cmpR op_eq (pv 0) pe_str (nomark _)) (pw_or1 (pt_cmpR op_ne (pe_ix ix_str (pv 0) pe_int (fun _ _ => rfl)) pe_str (nomark _))))) (pe_callTy call_int_str (by rfl) (T.free 5 rfl) (by decide +kernel) (pa_cons (pv 0) pa_nil)) pe_non))))), ?_⟩
  obtain ⟨w, rfl, hl, q⟩ := h
  obtain ⟨n1, n2, n3⟩ := num_cases w
  refine seq_at ?_
  refine ⟨_, rfl, rfl, ?_⟩
  refine ⟨_, rfl, ?_⟩
  by_cases c0 : w = Str.ofString ""
  · rw [decide_eq_true (show V.str w = V.str (Str.ofString "") by rw [c0])]
    refine iteT (iteT ?_)
    have z := q H (Ex.refl _)
    rw [n1 c0] at z
    exact z
  · rw [decide_eq_false (show ¬ V.str w = V.str (Str.ofString "") from fun z => c0 (V.str.inj z))]
    refine iteF ?_
    walk_at "dd"
    have ln : (TL.tl w).length = w.cps.size := (TL.len_tl w).symm
    have at_ : ∀ i, i < w.cps.size → ∃ c, (TL.tl w)[i]? = some c := fun i hi => ⟨_, List.getElem?_eq_getElem (by omega)⟩
    refine lc_at (fun _ => true) (fun i D y H' => y = .bl (TT.dig ((TL.tl w)[i]?.getD 0))) (line_big (n := w.cps.size) (by rw [len_size]; omega)) (fun P q => l_str rfl q) (fun _ _ _ _ _ _ h => h) (fun _ _ _ _ _ _ h => h) ?_ ?_
    · intro i D H2 hi hD e2 hacc Ny Nn hy _
      refine ⟨rfl, ?_⟩
      obtain ⟨c, hc⟩ := at_ i hi
      refine ⟨_, rfl, c, _, by rw [sgn_at hc], rfl, ?_⟩
      rw [dig_mem]
      exact hy _ _ rfl (Ex.refl _) (by rw [hc]; rfl)
    · intro D ys H2 hD e2 hd2 f
      rw [range_all] at f
      have ey := F2.map_eq (f := fun i => V.bl (TT.dig ((TL.tl w)[i]?.getD 0))) f
      refine ⟨D, (List.range w.cps.size).map (fun i => TT.dig ((TL.tl w)[i]?.getD 0)), rfl, SqL.of (by rw [hd2, ey, List.map_map]; rfl), ?_⟩
      rw [← ln, all_nth (TL.tl w) TT.dig _ (fun i x hx => by rw [hx]; rfl)]
      refine ⟨_, rfl, ?_⟩
      cases al : (TL.tl w).all TT.dig with
      | false =>
        refine iteT ?_
        have z := q H2 e2
        rw [n2 al] at z
        exact z
      | true =>
        refine iteF ?_
        obtain ⟨c, ⟨hc, it⟩ | big⟩ := n3 c0 al
        · have num_is : TT.num w = if ((TL.tl w).tail.isEmpty || c != 48) = true then some (NumText.digitsVal (TL.tl w)) else none := by
            unfold TT.num
            cases e : TL.tl w with
            | nil => rw [e] at hc; cases hc
            | cons c' r =>
              rw [e] at hc al
              cases hc
              rw [TT.numS_cons, al, Bool.true_and]; rfl
          have fine : TT.num w = some (NumText.digitsVal (TL.tl w)) → Q (V.int ((NumText.digitsVal (TL.tl w) : Nat) : Int)) H2 := fun e => by
            have z := q H2 e2
            rw [e] at z
            exact z
          refine ⟨_, rfl, rfl, _, rfl, ?_⟩
          by_cases w0 : w = Str.ofString "0"
          · rw [decide_eq_true (show V.str w = V.str (Str.ofString "0") by rw [w0])]
            refine iteT (iteT ⟨_, rfl, _, _, rfl, it, by omega, fine ?_⟩)
            rw [num_is, w0]; rfl
          · rw [decide_eq_false (show ¬ V.str w = V.str (Str.ofString "0") from fun z => w0 (V.str.inj z))]
            refine iteF ⟨_, rfl, w, 0, c, rfl, rfl, Nat.le_of_lt (line_big (by omega)), atI_nat (j := 0) hc, rfl, _, rfl, ?_⟩
            by_cases c48 : c = 48
            · subst c48
              rw [decide_eq_true (show V.str (⟨#[48]⟩ : Str) = V.str (Str.ofString "0") by decide +kernel)]
              refine iteF ?_
              have z := q H2 e2
              have tail : (TL.tl w).tail.isEmpty = false := by
                cases e : TL.tl w with
                | nil => rw [e] at hc; cases hc
                | cons c' r =>
                  rw [e] at hc
                  cases hc
                  cases r with
                  | nil => exact absurd (TL.ext_tl (e.trans (show [48] = TL.tl (Str.ofString "0") by decide +kernel))) w0
                  | cons => rfl
              rw [num_is, tail] at z
              exact z
            · rw [decide_eq_false (show ¬ V.str (⟨#[c]⟩ : Str) = V.str (Str.ofString "0") from fun z => c48 (by
                have y : (⟨#[c]⟩ : Str) = ⟨#[48]⟩ := (V.str.inj z).trans (show Str.ofString "0" = ⟨#[48]⟩ by decide +kernel)
                exact one_str.mp y))]
              refine iteT ⟨_, rfl, _, _, rfl, it, by omega, fine ?_⟩
              rw [num_is, if_pos]
              rw [Bool.or_eq_true]
              exact .inr (by simpa using c48)
        · omega
end

end T1

namespace T1
open PySem PySem.Spec PyProof.Rows L2 G
open Evl (Ex)
local macro_rules | `(tactic| walk_at "dd") => `(tactic| (dsimp only [tCB, tCons, tNil, tC, tOp, tUn, tTest, tB, tVar, tAndV, tOrV, tNotV, tIf, tAnd, tOr, tNot, tSeq, tRet, tRetN, tIfS, tAsg, gName, tDrop, tTup, tLst, tChain, tNext, tCall, L2.start]))
def wD (w : Str) : PyData := .tuple ((Txt.split w "-").map fun p => optD (TT.num p))
def wsD (ws : List Str) : PyData := .list (ws.map wD)
/-- every house is reached -/
def Joined (n : Nat) (rs : List (Nat × Nat)) : Prop := ∀ v, v < n → ∃ p, M.Path (nbs n rs) 0 v p
/-- what a line is read as -/
def Reads (z : Str) (n : Nat) (rs : List (Nat × Nat)) : Prop := ∃ f ws, Txt.split z " " = f :: ws ∧ TT.first f = some n ∧ 1 ≤ n ∧ n ≤ 16 ∧ ws.length + 1 = n ∧ TT.Roads n ws rs ∧ Joined n rs
theorem two_of {α : Type} : ∀ {ps : List α}, ps.length = 2 → ∃ p q, ps = [p, q]
  | [p, q], _ => ⟨p, q, rfl⟩
theorem its_lm {K : PySem.W.Frag} {H : Hp} {a : Addr} {α : Type} {f : α → V} {l : List α} (h : SqL K H a (l.map f)) : ItS (Itl K a) H l.length (_root_.G.nth (l.map f)) := by
  have S := its_l h
  rwa [List.length_map] at S
theorem nth_map {α : Type} {f : α → V} {l : List α} {i : Nat} {x : α} (h : l[i]? = some x) : _root_.G.nth (l.map f) i = f x := by unfold _root_.G.nth; rw [List.getElem?_map, h]; rfl
theorem wD_pair {w : Str} {p : Nat × Nat} : wD w = pairD p ↔ TT.road w = some p := by
  obtain ⟨a, b⟩ := p
  constructor
  · intro h
    have e : (Txt.split w "-").map (fun p => optD (TT.num p)) = [.int a, .int b] := PyData.tuple.inj h
    have inj : ∀ {o : Option Nat} {k : Nat}, optD o = .int (k : Int) → o = some k := fun {o k} e => by
      cases o with
      | none => cases e
      | some j => have z : (j : Int) = k := PyData.int.inj e; rw [show j = k by omega]
    have f : (Txt.split w "-").map TT.num = [some a, some b] := by
      generalize Txt.split w "-" = ps at e
      obtain ⟨p, q, is⟩ := two_of (by have len := congrArg List.length e; rwa [List.length_map] at len)
      subst is
      simp only [List.map_cons, List.map_nil, List.cons.injEq, and_true] at e ⊢
      exact ⟨inj e.1, inj e.2⟩
    unfold TT.road
    rw [f]
  · intro h
    unfold wD
    rw [(TT.road_back h).1]
    simp only [List.map_cons, List.map_nil, TT.num_str]
    rfl
theorem map_pairs : ∀ {ws : List Str} {rs : List (Nat × Nat)}, ws.map wD = rs.map pairD ↔ ws.map TT.road = rs.map some
  | [], [] => by simp
  | [], _ :: _ => by simp
  | _ :: _, [] => by simp
  | w :: ws, p :: rs => by
    simp only [List.map_cons, List.cons.injEq]
    rw [wD_pair, map_pairs]
theorem rd_pair (p : Nat × Nat) : rd (pairD p) = ((p.1 : Int), (p.2 : Int)) := rfl
theorem asc_of {l : List (Int × Int)} (h : l.Pairwise fun p q => ltR p q = true) : asc l = true := by
  unfold asc
  rw [all_range_map, decide_eq_true_eq]
  intro i hi
  have h1 : i < l.length := by omega
  have h2 : i + 1 < l.length := by omega
  rw [List.getElem?_eq_getElem h1, List.getElem?_eq_getElem h2]
  exact List.pairwise_iff_getElem.mp h i (i + 1) h1 h2 (by omega)
theorem ltP_R (p q : Nat × Nat) : ltR ((p.1 : Int), (p.2 : Int)) ((q.1 : Int), (q.2 : Int)) = TT.ltP p q := by
  unfold ltR TT.ltP
  rw [Bool.eq_iff_iff]
  simp only [Bool.or_eq_true, Bool.and_eq_true, decide_eq_true_eq]
  omega
theorem areRds_iff {ws : List Str} {n : Nat} : areRds (wsD ws) n = true ↔ ws.length + 1 = n ∧ ∃ rs, TT.Roads n ws rs := by
  constructor
  · intro h
    obtain ⟨_, G, e, l⟩ := rds_good h
    have e' : ws.map wD = (rdsOf (wsD ws)).map pairD := e
    have ll : ws.length = (rdsOf (wsD ws)).length := by have := congrArg List.length e'; simpa using this
    refine ⟨by omega, rdsOf (wsD ws), map_pairs.mp e', G.lt, ?_⟩
    have z := h
    unfold areRds at z
    simp only [Bool.and_eq_true] at z
    have up := asc_lt z.2.2.2
    rw [show items (wsD ws) = (rdsOf (wsD ws)).map pairD from e, List.map_map, List.pairwise_map] at up
    exact up.imp fun {p q} s => by rw [← ltP_R]; exact s
  · rintro ⟨l, rs, R⟩
    have e : items (wsD ws) = rs.map pairD := map_pairs.mpr R.eq
    have ll : ws.length = rs.length := by have := congrArg List.length R.eq; simpa using this
    unfold areRds
    rw [e]
    simp only [Bool.and_eq_true, decide_eq_true_eq, List.length_map]
    refine ⟨rfl, by omega, ?_, ?_⟩
    · rw [List.all_map, List.all_eq_true]
      intro p hp
      obtain ⟨h1, h2⟩ := R.lt p hp
      obtain ⟨a, b⟩ := p
      simp only at h1 h2
      show isRd (.tuple [.int (a : Int), .int (b : Int)]) n = true
      rw [isRd_eq]
      simp only [isIdx, Bool.and_eq_true, decide_eq_true_eq]
      omega
    · rw [List.map_map]
      refine asc_of (List.pairwise_map.mpr (R.up.imp fun {p q} s => ?_))
      rw [← ltP_R] at s
      exact s
theorem rds_rs {ws : List Str} {n : Nat} {rs : List (Nat × Nat)} (R : TT.Roads n ws rs) : rdsOf (wsD ws) = rs := by
  unfold rdsOf
  rw [show items (wsD ws) = rs.map pairD from map_pairs.mpr R.eq, List.map_map]
  refine (List.map_congr_left fun p _ => ?_).trans (List.map_id _)
  show rdN (rd (pairD p)) = p
  rw [rd_pair]; rfl
theorem Reads.one {z : Str} {n m : Nat} {rs qs} (h : Reads z n rs) (g : Reads z m qs) : n = m ∧ rs = qs := by
  obtain ⟨f, ws, e, a, _, _, _, R, _⟩ := h
  obtain ⟨f', ws', e', a', _, _, _, R', _⟩ := g
  rw [e] at e'
  cases e'
  rw [a] at a'
  cases a'
  exact ⟨rfl, R.one R'⟩
theorem joined_ways {n : Nat} {rs : List (Nat × Nat)} {F : List (List Nat)} (W : M.Ways (nbs n rs) 0 F) : Joined n rs ↔ ∀ v, v < n → M.at_ F v ≠ [] :=
  ⟨fun J v hv => let ⟨_, P⟩ := J v hv; W.reach P, fun h v hv => ⟨_, W.pa v (h v hv)⟩⟩
theorem empty_app (x : Str) : Str.empty ++ x = x := TL.ext_tl (by rw [TL.tl_append]; rfl)
def sp_numbers_in (K : PySem.W.Frag) : Sp := sp1 fun a H Q E => ∃ w : Str, a = .str w ∧ w.length ≤ 600 ∧ ∀ r H', Ex H H' → Dq K H' r (wD w) → Q r H'
section
variable {K : PySem.W.Frag} {mg : Str → Option Value} {P : Program} {w : World} {base : Heap}
theorem ok_numbers_in (T : Tx K mg) : Cal P w K mg base CX0 2 "numbers_in" ["word"] (sp_numbers_in K) := by
  refine cal_of (fD_numbers_in T) (T.glo 21 rfl) sc_numbers_in (fun _ _ _ _ _ _ us hl => match us, hl with | [_], _ => rfl) (fun vs H Q E h => len1 h) (fun f cdv A outer s H vs Q E hr h => ?_)
  obtain ⟨a, rfl, h⟩ := h
  refine ⟨_, (PSs.nox (pss_one (ps_ret (pe_callTy (call_tupK (K := K)) (by rfl) (T.free 17 rfl) (by decide +kernel) (pa_cons (pe_lc (own := [("part", 1)]) rfl sc_numbers_in.nd (pi_list (pe_split (pv 0) pe_str)) (blkOk_by (own := [("part", 1)]) (N := ["word", "part"]) (sc := defScope st_numbers_in) (by decide +kernel)) (fun _ _ _ _ _ => (pg_name (i := 1) sc_numbers_in.nd rfl (Or.inl rfl))) (fun _ _ _ _ _ => pts_nil) (fun _ _ _ _ _ => (pe_c (ok_count_in T) (hr.mono (by decide)) rfl pass0 (pa_cons (pv 1) pa_nil)))) pa_nil))))), ?_⟩
  obtain ⟨w, rfl, hl, q⟩ := h
  refine ret_at (cb_at ?_)
  have few := TT.split_len TT.tl_dash (by decide) w
  refine lc_at (n := (Txt.split w "-").length) (item := _root_.G.nth ((Txt.split w "-").map V.str)) (fun _ => true) (fun i D y H' => y = optV (TT.num ((Txt.split w "-")[i]?.getD Str.empty))) (line_big (by omega))
    (fun P q => ⟨_, rfl, ⟨_, rfl⟩, w, Str.ofString "-", rfl, rfl, rfl, by have := line_big (n := w.length + 2) (by omega); omega, fun p hp => ⟨p, rfl, ⟨_, SqL.of upd_same⟩, q _ _ (Ex.new hp) (its_lm (SqL.of upd_same))⟩⟩) (fun _ _ _ _ _ _ h => h) (fun _ _ _ _ _ _ h => h) ?_ ?_
  · intro i D H2 hi hD e2 hacc Ny Nn hy _
    refine ⟨rfl, ?_⟩
    have at_i : (Txt.split w "-")[i]? = some (Txt.split w "-")[i] := List.getElem?_eq_getElem hi
    rw [nth_map at_i]
    refine ⟨_, rfl, _, rfl, _, rfl, Nat.le_trans (TT.split_part TT.tl_dash (by decide) w _ (List.getElem_mem hi)) hl, fun H3 e3 => hy _ _ rfl e3 ?_⟩
    rw [at_i]; rfl
  · intro D ys H2 hD e2 hd2 f
    rw [range_all] at f
    have ey := F2.map_eq (f := fun i => optV (TT.num ((Txt.split w "-")[i]?.getD Str.empty))) f
    refine ⟨D, ys, rfl, .inl ⟨SqL.of hd2, fun l hl => q _ _ (e2.trans (Ex.new hl)) (.tup (SqT.of upd_same) ?_)⟩⟩
    have em : ys = (Txt.split w "-").map fun p => optV (TT.num p) := by
      rw [ey]
      refine List.ext_getElem? fun i => ?_
      rw [List.getElem?_map]; rw [List.getElem?_map]
      by_cases c : i < (Txt.split w "-").length
      · rw [List.getElem?_range c, List.getElem?_eq_getElem c, Option.map_some, Option.map_some, List.getElem?_eq_getElem c]; rfl
      · rw [List.getElem?_eq_none (Nat.le_of_not_lt c), List.getElem?_eq_none (by rw [List.length_range]; omega)]; rfl
    rw [em]
    have all : ∀ ps : List Str, Dqs K (upd H2 l (.tup ((Txt.split w "-").map fun p => optV (TT.num p)))) (ps.map fun p => optV (TT.num p)) (ps.map fun p => optD (TT.num p)) := fun ps => by
      induction ps with
      | nil => exact .nil
      | cons p ps ih => exact .cons (optVD _) ih
    exact all _
end

end T1

namespace T1
open PySem PySem.Spec PyProof.Rows L2 G
open Evl (Ex)
local macro_rules | `(tactic| walk_at "dd") => `(tactic| (dsimp only [tCB, tCons, tNil, tC, tOp, tUn, tTest, tB, tVar, tAndV, tOrV, tNotV, tIf, tAnd, tOr, tNot, tSeq, tRet, tRetN, tIfS, tAsg, gName, tDrop, tTup, tLst, tChain, tNext, tCall, L2.start]))
theorem str_len {n : Nat} (h : n < 1000) : (TT.str n).length ≤ 3 := by
  rw [TL.len_tl, TT.tl_str]
  exact TL.numL_len (by decide) (by omega)
theorem nat_log {n : Nat} (h : n < 1000) : (n : Int).natAbs.log2 < 1920 := by
  rw [Int.natAbs_natCast]
  exact Nat.lt_of_le_of_lt (Nat.log2_le_self n) (by omega)
theorem app_len (x y : Str) : (x ++ y).length = x.length + y.length := by rw [TL.len_tl, TL.tl_append, List.length_append, ← TL.len_tl, ← TL.len_tl]
theorem colon_len : (Str.ofString ":").length = 1 := rfl
theorem dash_len : (Str.ofString "-").length = 1 := rfl
def sp_Tree_line (K : PySem.W.Frag) : Sp := sp1 fun a H Q E => ∃ s n rs Fs, a = .ref s ∧ TreeAt K H s n rs Fs ∧ ∀ H', Ex H H' → Q (.str (TT.line n rs)) H'
section
variable {K : PySem.W.Frag} {mg : Str → Option Value} {P : Program} {w : World} {base : Heap}
theorem ok_Tree_line (T : Tx K mg) : ∃ fd, FunD K "line" "Tree.line" (defArgs st_Tree_line) (defBody st_Tree_line) (defScope st_Tree_line) [] [] (He.ma K (He.ga K "Tree") "line") fd ∧ FG P w K mg base CX0 1 (He.ma K (He.ga K "Tree") "line") fd ["self"] (sp_Tree_line K) := by
  obtain ⟨fd, F⟩ := fD_Tree_line T
  refine ⟨fd, F, fg_of F sc_Tree_line (fun vs H Q E h => len1 h) (fun cdv A outer s H vs Q E hr h => ?_)⟩
  obtain ⟨a, rfl, h⟩ := h
  refine ⟨_, (PSs.nox (pss_one (ps_ret (pe_joinK (K := K) pe_str (pe_lst (pa_cons (pe_joined (PJ.cons (pe_fmt (pe_fldK (K := K) (pv 0))) (PJ.cons pe_str PJ.nil))) (pa_starK (K := K) (pe_lc (own := [("u", 1), ("v", 2)]) rfl sc_Tree_line.nd (pi_tup (pe_fldK (K := K) (pv 0))) (blkOk_by (own := [("u", 1), ("v", 2)]) (N := ["self", "u", "v"]) (sc := defScope st_Tree_line) (by decide +kernel)) (fun _ _ _ _ _ => (pg_tupK (K := K) (n := 2) rfl (pgs_cons (pg_name (i := 1) sc_Tree_line.nd rfl (Or.inl rfl) (.inr rfl)) (pgs_cons (pg_name (i := 2) sc_Tree_line.nd rfl (Or.inl rfl) (.inr rfl)) pgs_nil)))) (fun _ _ _ _ _ => pts_nil) (fun _ _ _ _ _ => (pe_joined (PJ.cons (pe_fmt (pv 1)) (PJ.cons pe_str (PJ.cons (pe_fmt (pv 2)) PJ.nil)))))) pa_nil))))))), ?_⟩
  obtain ⟨s0, n, rs, Fs, rfl, t, q⟩ := h
  obtain ⟨dx, t1, t2, t3, xs, ys, f⟩ := t.f
  obtain ⟨_, rfl, g⟩ := f.g
  have n16 := t.n16
  obtain ⟨t1', xs1, e1, sx, ds⟩ : ∃ t1' xs1, V.ref t1 = .ref t1' ∧ SqT K H t1' xs1 ∧ Dqs K H xs1 (rs.map pairD) := by
    have z := f.rd
    cases z with
    | tup h hs => exact ⟨_, _, rfl, h, hs⟩
  cases e1
  have len : xs1.length = rs.length := by rw [ds.length, List.length_map]
  have few : rs.length ≤ 300 := by
    have z : (rs.map fun p => p.1 * 16 + p.2).length ≤ 256 := nodup_len (List.pairwise_map.mpr (t.good.nd.imp_of_mem fun {p q} hp hq ne e => ne (by
      have a := t.good.lt p hp
      have b := t.good.lt q hq
      refine Prod.ext ?_ ?_ <;> omega))) fun x hx => by
        obtain ⟨p, hp, rfl⟩ := List.mem_map.mp hx
        have a := t.good.lt p hp
        omega
    rw [List.length_map] at z; omega
  have at_ : ∀ k, k < rs.length → ∃ p tp, rs[k]? = some p ∧ _root_.G.nth xs1 k = .ref tp ∧ SqT K H tp [iV p.1, iV p.2] ∧ p.1 < 16 ∧ p.2 < 16 := fun k hk => by
    obtain ⟨d, h1, h2⟩ := dqs_nth ds (i := k) (by omega)
    rw [List.getElem?_map, List.getElem?_eq_getElem hk] at h1
    cases h1
    obtain ⟨tp, e, sp⟩ := pair_at h2
    have a := t.good.lt _ (List.getElem_mem hk)
    exact ⟨rs[k], tp, List.getElem?_eq_getElem hk, e, sp, by omega, by omega⟩
  refine ret_at ?_
  have sl : ∀ {k : Nat}, k ≤ 1000 → k ≤ sizeLine := fun {k} h => by rw [sizeLine_eq]; omega
  have l3 : ∀ {k : Nat}, k ≤ 16 → (TT.str k).length ≤ 3 := fun {k} h => str_len (by omega)
  refine ⟨⟨_, rfl⟩, ?_⟩
  refine ⟨_, rfl, s0, _, dx, _, _, rfl, g, cl_Tree T, no_Tree_houses T, rfl, .inr ⟨(n : Int), rfl, nat_log (by omega), TT.str n, rfl, ?_, ?_⟩⟩
  · rw [empty_app]; exact sl (by have := l3 n16; omega)
  refine ⟨Str.ofString ":", rfl, ?_, ?_⟩
  · rw [empty_app, app_len]; exact sl (by have := l3 n16; rw [colon_len]; omega)
  rw [empty_app]
  dsimp only [tJs, StX.tStar]
  refine lc_at (n := rs.length) (item := _root_.G.nth xs1) (fun _ => true) (fun i D y H' => y = .str (TT.str (rs[i]?.getD (0, 0)).1 ++ "-" ++ TT.str (rs[i]?.getD (0, 0)).2)) (line_big (by omega))
    (fun P q => ⟨_, rfl, s0, _, dx, _, _, rfl, g, cl_Tree T, no_Tree_roads T, rfl, t1, rfl, ⟨_, sx⟩, q _ _ (Ex.refl _) (len ▸ its_t sx)⟩) (fun _ _ _ _ _ _ h => h) (fun _ _ _ _ _ _ h => h) ?_ ?_
  · intro i D H2 hi hD e2 hacc Ny Nn hy _
    obtain ⟨p, tp, hp, en, sp, p1, p2⟩ := at_ i hi
    rw [en]
    refine ⟨tp, _, rfl, Evl.ex_t e2 sp, rfl, _, _, rfl, _, _, rfl, rfl, rfl, ?_⟩
    refine ⟨_, rfl, .inr ⟨(p.1 : Int), rfl, nat_log (by omega), TT.str p.1, rfl, ?_, ?_⟩⟩
    · rw [empty_app]; exact sl (by have := l3 (k := p.1) (by omega); omega)
    refine ⟨Str.ofString "-", rfl, ?_, ?_⟩
    · rw [empty_app, app_len]; exact sl (by have := l3 (k := p.1) (by omega); rw [dash_len]; omega)
    refine ⟨_, rfl, .inr ⟨(p.2 : Int), rfl, nat_log (by omega), TT.str p.2, rfl, ?_, ?_⟩⟩
    · rw [empty_app, app_len, app_len]; exact sl (by have := l3 (k := p.1) (by omega); have := l3 (k := p.2) (by omega); rw [dash_len]; omega)
    rw [empty_app]
    exact hy _ _ rfl (Ex.refl _) (by rw [hp]; rfl)
  · intro D ys H2 hD e2 hd2 f2
    rw [range_all] at f2
    have ey := F2.map_eq (f := fun i => V.str (TT.str (rs[i]?.getD (0, 0)).1 ++ "-" ++ TT.str (rs[i]?.getD (0, 0)).2)) f2
    have em : ys = (rs.map fun p => TT.str p.1 ++ "-" ++ TT.str p.2).map V.str := by
      rw [ey]
      refine List.ext_getElem? fun i => ?_
      rw [List.getElem?_map, List.getElem?_map, List.getElem?_map]
      by_cases c : i < rs.length
      · rw [List.getElem?_range c, List.getElem?_eq_getElem c, Option.map_some, Option.map_some, List.getElem?_eq_getElem c]; rfl
      · rw [List.getElem?_eq_none (Nat.le_of_not_lt c), List.getElem?_eq_none (by rw [List.length_range]; omega)]; rfl
    have el : TT.line n rs = Txt.join (Str.ofString " ") ((TT.str n ++ Str.ofString ":") :: (rs.map fun p => TT.str p.1 ++ "-" ++ TT.str p.2)) := rfl
    rw [el] at q
    have wl : ((rs.map fun p => TT.str p.1 ++ "-" ++ TT.str p.2).map (·.length)).sum ≤ rs.length * 10 := by
      have all : ∀ qs : List (Nat × Nat), (∀ p ∈ qs, p.1 < p.2 ∧ p.2 < n) → ((qs.map fun p => TT.str p.1 ++ "-" ++ TT.str p.2).map (·.length)).sum ≤ qs.length * 10 := fun qs => by
        induction qs with
        | nil => intro _; simp
        | cons p qs ih =>
          intro h
          have z := ih fun x hx => h x (List.mem_cons_of_mem _ hx)
          have b := h p List.mem_cons_self
          have l1 := l3 (k := p.1) (by omega)
          have l2 := l3 (k := p.2) (by omega)
          have l0 : (TT.str p.1 ++ "-" ++ TT.str p.2).length ≤ 7 := by rw [app_len, app_len, dash_len]; omega
          simp only [List.sum_cons, List.map_cons, List.length_cons]
          omega
      exact all rs t.good.lt
    have hl0 : (TT.str n ++ Str.ofString ":").length ≤ 4 := by have := l3 n16; rw [app_len, colon_len]; omega
    have wn : (rs.map fun p => TT.str p.1 ++ "-" ++ TT.str p.2).length = rs.length := List.length_map ..
    rw [em] at hd2
    clear el ey f2 em
    generalize (TT.str n ++ Str.ofString ":") = f0 at q hl0 ⊢
    generalize (rs.map fun p => TT.str p.1 ++ "-" ++ TT.str p.2) = ws0 at q wl wn hd2 ⊢
    refine ⟨D, ws0.map V.str, rfl, .inr (SqL.of hd2), ?_, fun l hl => ?_⟩
    · rw [List.length_cons, List.length_append, List.length_map, wn]; exact sl (by simp; omega)
    rw [List.append_nil]
    refine ⟨_, l, f0 :: ws0, rfl, rfl, .inl (SqL.of upd_same), ?_, q _ (e2.trans (Ex.new hl))⟩
    rw [List.map_cons, List.sum_cons, List.length_cons, wn]
    have : (Str.ofString " ").length = 1 := rfl
    rw [this]; omega
end

end T1

namespace T1
open PySem PySem.Spec PyProof.Rows L2 G
open Evl (Ex)
local macro_rules | `(tactic| walk_at "dd") => `(tactic| (dsimp only [tCB, tCons, tNil, tC, tOp, tUn, tTest, tB, tVar, tAndV, tOrV, tNotV, tIf, tAnd, tOr, tNot, tSeq, tRet, tRetN, tIfS, tAsg, gName, tDrop, tTup, tLst, tChain, tNext, tCall, L2.start]))
theorem ifs_at {t : L2.TT} {a b : TS} {D : Ends} {σ : L2.St} {H : Hp} (h : t σ H fun c H1 => if c = true then a D σ H1 else b D σ H1) : tIfS t a b D σ H := h
theorem not_at {t : L2.TT} {σ : L2.St} {H : Hp} {Q : Bool → Hp → Prop} (h : t σ H fun c H1 => Q (!c) H1) : tNot t σ H Q := h
theorem b_at {te : TE} {σ : L2.St} {H : Hp} {Q : Bool → Hp → Prop} (h : te σ H fun x H1 => ∃ c, x = .bl c ∧ Q c H1) : tB te σ H Q := h
theorem cb2_at {r : List V → Hp → VK → Prop} {te : TE} {c : V} {σ : L2.St} {H : Hp} {Q : VK} (h : te σ H fun v H1 => r [v, c] H1 Q) : tCB r (tCons te (tCons (tC c) tNil)) σ H Q := h
theorem nbs_ln {n : Nat} {rs : List (Nat × Nat)} : (nbs n rs).length = n := by unfold nbs; rw [List.length_map, List.length_range]
theorem tups_wD (w : Str) : tups (wD w) = true := by
  unfold wD
  rw [tups, tupsAll_iff]
  intro d hd
  obtain ⟨p, _, rfl⟩ := List.mem_map.mp hd
  cases TT.num p <;> rfl
theorem isT_str {d : PyData} (h : isT "str" d = true) : ∃ z, d = .str z := by
  cases d <;> first | exact ⟨_, rfl⟩ | cases h
section
variable {X : Cx} {k : Nat} {e : Expr} {es : List Expr} {ta : TA} {p pos : Pos}
theorem pmkN_InvalidLine (T : Tx X.K X.mg) (hr : RG (k + 2) X.A) (hg : Gl X "InvalidLine") (ha : PA X (e :: es) ta) (one : OneByOne X e es pos := by exact ⟨rfl, rfl⟩) :
    L2N.PMk X (.Call (.Name "InvalidLine" p) (e :: es) [] pos) (tErr1 (He.ga X.K "InvalidLine") "given" ta) := by
  obtain ⟨fd, F, G⟩ := ok_InvalidLine___init__ (P := X.prog) (w := X.w) (base := X.base) T
  exact pmkN_err1 ⟨T.glo 4 rfl, (T.err 3 rfl).ox, (T.err 3 rfl).xf⟩ (T.err 3 rfl).iC (T.err 3 rfl).tI G (hr.mono (by omega)) (F.bindsN fun _ _ _ _ _ _ us hl => match us, hl with | [_, _], _ => rfl) hg ha (by decide) one
end
def sp_read_tree (K : PySem.W.Frag) : Sp := sp1 fun a H Q E => ∃ d, Dq K H a d ∧ (∀ z, d = .str z → z.length ≤ 500) ∧ ((∀ z, d = .str z → ¬ ∃ n rs, Reads z n rs) → Err1 K E H "InvalidLine" "given" a) ∧
  (∀ z n rs Fs s H', d = .str z → Reads z n rs → Ex H H' → TreeAt K H' s n rs Fs → H s = none → Q (.ref s) H')
section
variable {K : PySem.W.Frag} {mg : Str → Option Value} {P : Program} {w : World} {base : Heap}
theorem ok_read_tree (T : Tx K mg) : Cal P w K mg base (L2N.CX P w) 7 "read_tree" ["line"] (sp_read_tree K) := by
  refine cal_of (fD_read_tree T) (T.glo 22 rfl) sc_read_tree (fun _ _ _ _ _ _ us hl => match us, hl with | [_], _ => rfl) (fun vs H Q E h => len1 h) (fun f cdv A outer s H vs Q E hr h => ?_)
  obtain ⟨a, rfl, h⟩ := h
  refine ⟨_, (pss_cons (ps_if (pt_not (pt_val (pe_callB (call_isiK' (K := K)) (by rfl) (T.free 6 rfl) (by decide +kernel) (pa_cons (pv 0) (pa_cons (pe_bltn (v := .ty "str") (u := .type "str") (by rfl) (T.free 15 rfl) (by decide +kernel) rfl) pa_nil))))) (pss_one (L2N.ps_raise rfl (L2N.takes_of rfl rfl rfl rfl) (pmkN_InvalidLine T hr rfl (pa_cons (pv 0) pa_nil)))) pss_nil)
      (pss_cons (ps_asg (pe_split (pv 0) pe_str) (pg_starK (K := K) rfl (pgs_cons (pg_name (i := 1) sc_read_tree.nd rfl (Or.inl rfl)) (pgs_starLast (pg_name (i := 2) sc_read_tree.nd rfl (Or.inl rfl))))))
      (pss_cons (ps_set (i := 3) sc_read_tree.nd rfl (Or.inl rfl) (pe_ifExp (pt_val (pe_m1 PySem.F.slot_str_endswith PySem.F.type_str_endswith mt_endswith (pv 1) pe_str)) (pe_c (ok_count_in T) (hr.mono (by decide)) rfl pass0 (pa_cons (pe_slice sl_str (pv 1) po_none (po_some (pe_un un_neg pe_int))) pa_nil)) pe_non))
      (pss_cons (ps_setLc (i := 4) (own := [("word", 5)]) rfl sc_read_tree.nd rfl rfl (sw_true rfl rfl rfl (by decide +kernel)) (pi_list (pv 2)) (blkOk_by (own := [("word", 5)]) (N := ["line", "first", "words", "houses", "roads", "word"]) (sc := defScope st_read_tree) (by decide +kernel)) (fun _ _ _ _ _ => (pg_name (i := 5) sc_read_tree.nd rfl (Or.inl rfl))) (fun _ _ _ _ _ => pts_nil) (fun _ _ _ _ _ => (pe_c (ok_numbers_in T) (hr.mono (by decide)) rfl pass0 (pa_cons (pv 5) pa_nil))))
      (pss_cons (ps_if (PW.pt (pw_or (pt_cmpR op_isN (pv 3) pe_non (nomark _)) (pw_or (pt_not (pt_chain op_le op_le pe_int (pv 3) (pe_glob (v := .int 16) rfl (T.con_MOST_HOUSES).choose_spec ⟨_, rfl⟩))) (pw_or1 (pt_not (pt_val (pe_c (ok_are_roads T) (hr.mono (by decide)) rfl pass0 (pa_cons (pv 4) (pa_cons (pv 3) pa_nil))))))))) (pss_one (L2N.ps_raise rfl (L2N.takes_of rfl rfl rfl rfl) (pmkN_InvalidLine T hr rfl (pa_cons (pv 0) pa_nil)))) pss_nil)
      (pss_cons (ps_if (pt_cmpR (op_inT (K := K) (hu65 hr.r)) (pe_tup pa_nil) (pe_c (ok_ways_from T) (hr.mono (by decide)) rfl pass0 (pa_cons (pe_c (ok_joined_by T) (hr.mono (by decide)) rfl pass0 (pa_cons (pv 3) (pa_cons (pv 4) pa_nil))) (pa_cons pe_int pa_nil))) (by with_unfolding_all rfl)) (pss_one (L2N.ps_raise rfl (L2N.takes_of rfl rfl rfl rfl) (pmkN_InvalidLine T hr rfl (pa_cons (pv 0) pa_nil)))) pss_nil)
      (pss_one (ps_ret (tree_mk (K := K) T (hr.mono (by decide)) rfl (pa_cons (pv 3) (pa_cons (pv 4) pa_nil))))))))))), ?_⟩
  obtain ⟨d, hd, hl, q1, q2⟩ := h
  refine seq_at ?_
  refine ifs_at (not_at (b_at (cb2_at ⟨_, rfl, isi_str hd ⟨_, rfl, ?_⟩⟩)))
  cases ed : isT "str" d with
  | false =>
    refine iteT ?_
    exact ⟨_, rfl, _, rfl, fun d' H' _ e' hx => q1 (fun z e => by rw [e] at ed; cases ed) d' H' e' hx⟩
  | true =>
  refine iteF ?_
  obtain ⟨z, rfl⟩ := isT_str ed
  cases hd
  have zl := hl z rfl
  replace q1 : (¬ ∃ n rs, Reads z n rs) → _ := fun h => q1 fun z' e => by cases e; exact h
  replace q2 := fun n rs Fs s H' => q2 z n rs Fs s H' rfl
  have sl := TT.split_len TT.tl_blank (by decide) z
  have sn := TT.split_ne TT.tl_blank (by decide) z
  have sp := TT.split_part TT.tl_blank (by decide) z
  obtain ⟨f, ws, es⟩ : ∃ f ws, Txt.split z " " = f :: ws := by
    cases e : Txt.split z " " with
    | nil => exact absurd e sn
    | cons f ws => exact ⟨f, ws, rfl⟩
  rw [es] at sl sp
  rw [List.length_cons] at sl
  dsimp only [tNext]
  refine seq_at (asg_at ?_)
  refine ⟨_, rfl, ⟨_, rfl⟩, z, Str.ofString " ", rfl, rfl, rfl, by have := line_big (n := z.length + 2) (by omega); omega, fun p hp => ?_⟩
  rw [es]
  refine ⟨p, .str f, ws.map V.str, rfl, SqL.of upd_same, by rw [List.length_map]; omega, fun l hl => ?_⟩
  refine ⟨_, _, rfl, _, _, rfl, rfl, ?_⟩
  have e1 : Ex H (upd (upd H p (.lst ((f :: ws).map V.str))) l (.lst (ws.map V.str))) := (Ex.new hp).trans (Ex.new hl)
  have hws : SqL K (upd (upd H p (.lst ((f :: ws).map V.str))) l (.lst (ws.map V.str))) l (ws.map V.str) := SqL.of upd_same
  dsimp only
  generalize (upd (upd H p (.lst ((f :: ws).map V.str))) l (.lst (ws.map V.str))) = H1 at e1 hws ⊢
  refine seq_at (asg_split (fun v H2 => v = optV (TT.first f) ∧ Ex H1 H2) ?_ ?_)
  rotate_left
  · intro R hR
    refine ⟨_, rfl, ⟨_, rfl⟩, f, Str.ofString ":", rfl, rfl, _, rfl, ?_⟩
    have fe := TT.first_eq f
    cases ce : Txt.endswith f ":" with
    | false =>
      refine iteF ?_
      exact hR _ _ ⟨by rw [fe, ce]; rfl, Ex.refl _⟩
    | true =>
      refine iteT ?_
      have fl : f.length ≤ 500 := Nat.le_trans (sp f List.mem_cons_self) zl
      refine ⟨_, rfl, 1, rfl, -1, rfl, f, rfl, Nat.le_of_lt (line_big (by omega)), _, rfl, _, rfl, Nat.le_trans (cutS_length f none (some (-1))) (by omega), fun H3 e3 => hR _ _ ⟨?_, e3⟩⟩
      rw [fe, ce]; rfl
  rintro _ H2 ⟨rfl, e2⟩
  dsimp only [gName]
  refine seq_at (asg_at ?_)
  have l2 : SqL K H2 l (ws.map V.str) := Evl.ex_l e2 hws
  refine lc_at (n := ws.length) (item := _root_.G.nth (ws.map V.str)) (fun _ => true) (fun i D y H' => Dq K (L2.del H' D) y (wD (ws[i]?.getD Str.empty))) (line_big (by omega)) (fun P q => ⟨_, rfl, l, rfl, ⟨_, l2⟩, q _ _ (Ex.refl _) (its_lm l2)⟩) ?_ ?_ ?_ ?_
  · intro i D y H' o _ h
    rw [del_upd]; exact h
  · exact fun i D y H' H'' e h => h.mono (Ex.del e)
  · intro i D H3 hi hD e3 ⟨ac, hac⟩ Ny Nn hy _
    have at_i : ws[i]? = some ws[i] := List.getElem?_eq_getElem hi
    rw [nth_map at_i]
    refine ⟨rfl, _, rfl, _, rfl, _, rfl, Nat.le_trans (sp _ (List.mem_cons_of_mem _ (List.getElem_mem hi))) (by omega), fun r H4 e4 hr => hy _ _ rfl e4 ?_⟩
    rw [at_i]
    exact hr.del (e4 _ _ hac) (tups_wD _)
  intro D ys H3 hD e3 hd3 f3
  rw [range_all] at f3
  have dqs : Dqs K H3 ys (ws.map wD) := by
    have g : ∀ (us : List Str) (js : List Nat) (vs : List V), F2 (fun i y => Dq K (L2.del H3 D) y (wD (ws[i]?.getD Str.empty))) js vs → (js.map fun i => ws[i]?.getD Str.empty) = us → Dqs K H3 vs (us.map wD) := by
      intro us js vs h
      induction h generalizing us with
      | nil => rintro rfl; exact .nil
      | cons h _ ih => rintro rfl; exact .cons (h.mono Ex.ofDel) (ih _ rfl)
    refine g ws _ ys f3 ?_
    refine List.ext_getElem? fun i => ?_
    rw [List.getElem?_map]
    by_cases c : i < ws.length
    · rw [List.getElem?_range c, List.getElem?_eq_getElem c, Option.map_some, List.getElem?_eq_getElem c]; rfl
    · rw [List.getElem?_eq_none (Nat.le_of_not_lt c), List.getElem?_eq_none (by rw [List.length_range]; omega)]; rfl
  have hds : Dq K H3 (.ref D) (wsD ws) := .lst (SqL.of hd3) dqs
  have e03 := (e1.trans e2).trans e3
  dsimp only [gName]
  have nope : (¬ ∃ n rs, Reads z n rs) → ∀ {H4}, Ex H3 H4 → ∀ d H', Ex H4 H' → H' d = some (.xd [("given", .str z)]) → E (.ref (He.ga K "InvalidLine")) (some d) H' := fun no H4 e4 d H' e' hx => q1 no d H' ((e03.trans e4).trans e') hx
  refine seq_at (ifs_at ?_)
  cases en : TT.first f with
  | none =>
    refine ⟨_, rfl, rfl, _, rfl, ?_⟩
    rw [decide_eq_true (show optV none = V.non from rfl)]
    refine iteT (iteT ?_)
    refine ⟨_, rfl, _, rfl, fun d H' _ e' hx => nope ?_ (Ex.refl _) d H' e' hx⟩
    rintro ⟨n, rs, f', ws', e, a, _⟩
    rw [es] at e
    cases e
    rw [en] at a
    cases a
  | some n =>
  refine ⟨_, rfl, rfl, _, rfl, ?_⟩
  rw [decide_eq_false (show ¬ optV (some n) = V.non from fun q => nomatch q)]
  refine iteF ?_
  have only : ∀ m rs, Reads z m rs → m = n ∧ 1 ≤ m ∧ m ≤ 16 ∧ areRds (wsD ws) n = true ∧ rs = rdsOf (wsD ws) ∧ Joined n (rdsOf (wsD ws)) := by
    rintro m rs ⟨f', ws', e, a, h1, h2, h3, R, J⟩
    rw [es] at e
    cases e
    rw [en] at a
    cases a
    exact ⟨rfl, h1, h2, areRds_iff.mpr ⟨h3, rs, R⟩, (rds_rs R).symm, (rds_rs R).symm ▸ J⟩
  refine ⟨_, rfl, 1, (n : Int), rfl, rfl, _, rfl, ?_⟩
  by_cases c1 : (1 : Int) ≤ n
  rotate_left
  · rw [decide_eq_false c1]
    refine iteF ⟨_, rfl, iteT (iteT ?_)⟩
    exact ⟨_, rfl, _, rfl, fun d H' _ e' hx => nope (fun ⟨m, rs, R⟩ => by have := only m rs R; omega) (Ex.refl _) d H' e' hx⟩
  rw [decide_eq_true c1]
  refine iteT ⟨(n : Int), 16, rfl, rfl, _, rfl, ?_⟩
  by_cases c2 : (n : Int) ≤ 16
  rotate_left
  · rw [decide_eq_false c2]
    refine iteT (iteT ?_)
    exact ⟨_, rfl, _, rfl, fun d H' _ e' hx => nope (fun ⟨m, rs, R⟩ => by have := only m rs R; omega) (Ex.refl _) d H' e' hx⟩
  rw [decide_eq_true c2]
  refine iteF ?_
  have few : (items (wsD ws)).length ≤ 100000 := by show (ws.map wD).length ≤ _; rw [List.length_map]; omega
  have few2 : ∀ x ∈ items (wsD ws), (items x).length ≤ 100000 := fun x hx => by
    obtain ⟨v, hv, rfl⟩ := List.mem_map.mp (show x ∈ ws.map wD from hx)
    show ((Txt.split v "-").map fun p => optD (TT.num p)).length ≤ _
    rw [List.length_map]
    have a := TT.split_len TT.tl_dash (by decide) v
    have b := sp v (List.mem_cons_of_mem _ hv)
    omega
  refine ⟨_, rfl, _, rfl, _, _, rfl, wsD ws, (n : Int), hds, rfl, few, few2, fun H4 e4 => ⟨_, rfl, ?_⟩⟩
  cases ar : areRds (wsD ws) n with
  | false =>
    refine iteT ?_
    exact ⟨_, rfl, _, rfl, fun d H' _ e' hx => nope (fun ⟨m, rs, R⟩ => by have z := (only m rs R).2.2.2.1; rw [ar] at z; cases z) e4 d H' e' hx⟩
  | true =>
  refine iteF ?_
  obtain ⟨isq, G, ie, rl⟩ := rds_good ar
  dsimp only [tNext]
  refine seq_at (ifs_at ?_)
  refine ⟨Nat.zero_le _, fun p0 hp0 => ?_⟩
  have e0 := Ex.new (o := .tup []) hp0
  have nl : (nbs n (rdsOf (wsD ws))).length = n := nbs_ln
  refine ⟨_, rfl, _, rfl, _, _, rfl, n, rdsOf (wsD ws), wsD ws, rfl, by omega, hds.mono (e4.trans e0), rfl, ie, by omega, G, fun r1 H5 e5 hr1 => ?_⟩
  refine ⟨_, _, rfl, nbs n (rdsOf (wsD ws)), 0, hr1, rfl, by omega, by omega, ?_, fun r2 H6 F e6 W hr2 _ _ => ?_⟩
  · rw [nl]
    intro l hl v hv
    obtain ⟨h, _, rfl⟩ := List.mem_map.mp hl
    unfold nb at hv
    exact List.mem_range.mp (List.mem_filter.mp hv).1
  have sh0 : SeqAt.shaped (.tuple (F.map rowD)) = true := shaped_rows F
  have lF : F.length = n := by rw [W.len, nl]
  refine ⟨.tuple [], F.map rowD, dp_tup (l := []) ((e5.trans e6) _ _ upd_same), hr2.dp (SeqAt.canLay_of_shaped sh0), (shaped_ints []).2, sh0, _, rfl, ?_⟩
  rw [any_row]
  have e46 := e4.trans (e0.trans (e5.trans e6))
  cases ea : F.any (·.isEmpty) with
  | true =>
    refine iteT ?_
    refine ⟨_, rfl, _, rfl, fun d H' _ e' hx => nope (fun ⟨m, rs, R⟩ => ?_) e46 d H' e' hx⟩
    have J := (joined_ways W).mp (only m rs R).2.2.2.2.2
    obtain ⟨q, hq, ee⟩ := List.any_eq_true.mp ea
    obtain ⟨k, hk, ek⟩ := List.getElem_of_mem hq
    have z := J k (by omega)
    rw [at_of (List.getElem?_eq_getElem hk), ek] at z
    exact z (List.isEmpty_iff.mp ee)
  | false =>
    refine iteF ?_
    have al : ∀ v, v < n → M.at_ F v ≠ [] := fun v hv q => by
      have hm : F[v]? = some F[v] := List.getElem?_eq_getElem (by omega)
      rw [at_of hm] at q
      have : F.any (·.isEmpty) = true := List.any_eq_true.mpr ⟨_, List.mem_of_getElem? hm, by rw [q]; rfl⟩
      rw [ea] at this; cases this
    have J := (joined_ways W).mpr al
    have R : Reads z n (rdsOf (wsD ws)) := by
      obtain ⟨h1, rs, h2⟩ := areRds_iff.mp ar
      rw [rds_rs h2] at J ⊢
      exact ⟨f, ws, es, en, by omega, by omega, h1, h2, J⟩
    dsimp only [tNext]
    refine ret_at ?_
    refine ⟨_, rfl, _, rfl, rfl, rfl, fun x dx hx hdx ne => ?_⟩
    have eX : Ex H6 (upd (upd H6 dx (.own x)) x (.ins (He.ga K "Tree") dx [])) := fun b z e => by rw [upd_ne (ne_of_none e hx), upd_ne (ne_of_none e hdx)]; exact e
    refine ⟨_, _, _, rfl, H6, x, dx, rfl, eX, hx, upd_same, .int (n : Int), wsD ws, .int _, hds.mono e46, few, few2, fun ok => ?_, fun m e1 m1 m16 ar' => ?_, fun m F' j e1 m1 m16 ar' W' jn z1 z2 => ?_, fun m Fs H' e1 ar' e t al => ?_⟩
    · exact absurd ok (by simp only [okN, Bool.and_eq_false_iff, decide_eq_false_iff_not]; omega)
    · have em : (n : Int) = m := PyData.int.inj e1
      have em' : n = m := by omega
      subst em'
      rw [ar] at ar'; cases ar'
    · have em : (n : Int) = m := PyData.int.inj e1
      have em' : n = m := by omega
      subst em'
      exact absurd z1 ((joined_ways W').mp J j jn)
    · have em : (n : Int) = m := PyData.int.inj e1
      have em' : n = m := by omega
      subst em'
      exact ⟨rfl, q2 n _ Fs x H' R ((e03.trans e46).trans e) t (Evl.fresh_back (e03.trans e46) hx)⟩
end

end T1

namespace T1
open PySem PySem.Spec PyProof.Rows L2 G
open Evl (Ex)
local macro_rules | `(tactic| walk_at "dd") => `(tactic| (dsimp only [tCB, tCons, tNil, tC, tOp, tUn, tTest, tB, tVar, tAndV, tOrV, tNotV, tIf, tAnd, tOr, tNot, tSeq, tRet, tRetN, tIfS, tAsg, gName, tDrop, tTup, tLst, tChain, tNext, tCall, L2.start]))
section
variable {X : Cx} {k : Nat} {e : Expr} {es : List Expr} {ta : TA} {p pos : Pos}
theorem pmkN_InvalidHomes (T : Tx X.K X.mg) (hr : RG (k + 2) X.A) (hg : Gl X "InvalidHomes") (ha : PA X (e :: es) ta) (one : OneByOne X e es pos := by exact ⟨rfl, rfl⟩) :
    L2N.PMk X (.Call (.Name "InvalidHomes" p) (e :: es) [] pos) (tErr1 (He.ga X.K "InvalidHomes") "given" ta) := by
  obtain ⟨fd, F, G⟩ := ok_InvalidHomes___init__ (P := X.prog) (w := X.w) (base := X.base) T
  exact pmkN_err1 ⟨T.glo 5 rfl, (T.err 4 rfl).ox, (T.err 4 rfl).xf⟩ (T.err 4 rfl).iC (T.err 4 rfl).tI G (hr.mono (by omega)) (F.bindsN fun _ _ _ _ _ _ us hl => match us, hl with | [_, _], _ => rfl) hg ha (by decide) one
end
section
variable {X : Cx} {k : Nat} {e : Expr} {es : List Expr} {ta : TA} {p pos : Pos}
theorem pmkN_InvalidCells (T : Tx X.K X.mg) (hr : RG (k + 2) X.A) (hg : Gl X "InvalidCells") (ha : PA X (e :: es) ta) (one : OneByOne X e es pos := by exact ⟨rfl, rfl⟩) :
    L2N.PMk X (.Call (.Name "InvalidCells" p) (e :: es) [] pos) (tErr1 (He.ga X.K "InvalidCells") "given" ta) := by
  obtain ⟨fd, F, G⟩ := ok_InvalidCells___init__ (P := X.prog) (w := X.w) (base := X.base) T
  exact pmkN_err1 ⟨T.glo 6 rfl, (T.err 5 rfl).ox, (T.err 5 rfl).xf⟩ (T.err 5 rfl).iC (T.err 5 rfl).tI G (hr.mono (by omega)) (F.bindsN fun _ _ _ _ _ _ us hl => match us, hl with | [_, _], _ => rfl) hg ha (by decide) one
end
theorem okH_InvalidLine___init__ {K : PySem.W.Frag} {mg : Str → Option Value} {P : Program} {w : World} {base : Heap} (T : Tx K mg) : ∃ fd, FunD K "__init__" "InvalidLine.__init__" (defArgs st_InvalidLine___init__) (defBody st_InvalidLine___init__) (defScope st_InvalidLine___init__) [] [] (He.ma K (He.ga K "InvalidLine") "__init__") fd ∧ L2H.FnH P w K mg base CX0 1 (He.ma K (He.ga K "InvalidLine") "__init__") fd ["self", "given"] (spE1 (He.ga K "InvalidLine") "given") := by
  obtain ⟨fd, F⟩ := fD_InvalidLine___init__ T
  refine ⟨fd, F, okH F sc_InvalidLine___init__ (fun vs H Q E h => ?_) (fun cdv A outer s H vs Q E hp h => ?_)⟩
  · obtain ⟨a, v, rfl, _⟩ := h; rfl
  · obtain ⟨a, v, rfl, ha, q⟩ := h
    refine ⟨_, pss_cons (ps_expr (pe_parinit T.par rfl (pa_cons (pv 0) (pa_cons pe_str pa_nil)))) (pss_one (ps_ost (pv 0) (pv 1))), ?_⟩
    refine ⟨_, rfl, _, _, [.str _], rfl, by simp, (T.err 3 rfl).ox, ha, ?_⟩
    exact ⟨_, rfl, _, rfl, a, _, rfl, (T.err 3 rfl).ox, (T.err 3 rfl).no _ (by simp), .inl ⟨ha, fun d hd hne => q d hd hne⟩⟩
theorem pmk5_InvalidLine {X : Cx} {K : PySem.W.Frag} {k : Nat} {e : Expr} {es : List Expr} {ta : TA} {p pos : Pos} (T : Tx X.K X.mg) (hr : L2H.RoomH (k + 2) X.A) (hot : L2H.HotC X) (hg : Gl X "InvalidLine") (ha : PA X (e :: es) ta) (h : X.K = K := by rfl) (one : OneByOne X e es pos := by exact ⟨rfl, rfl⟩) :
    L2H.PMk5 X (.Call (.Name "InvalidLine" p) (e :: es) [] pos) (tErr1 (He.ga K "InvalidLine") "given" ta) := by
  subst h
  obtain ⟨fd, F, G⟩ := okH_InvalidLine___init__ (P := X.prog) (w := X.w) (base := X.base) T
  exact pmk5_err1 ⟨T.glo 4 rfl, (T.err 3 rfl).ox, (T.err 3 rfl).xf⟩ (T.err 3 rfl).iC (T.err 3 rfl).tI G (hr.mono (by omega)) hot (F.bindsN fun _ _ _ _ _ _ us hl => match us, hl with | [_, _], _ => rfl) hg ha (by decide) one
/-- an own instance stands at a -/
def OwnAt (K : PySem.W.Frag) (H : Hp) (v : V) : Prop := ∃ (i : Nat) (x : Str) (a : Addr), owns[i]? = some x ∧ v = .ref a ∧ InsAt (He.ga K x) a H
theorem OwnAt.mono {K : PySem.W.Frag} {H H' : Hp} {v : V} (e : Ex H H') (h : OwnAt K H v) : OwnAt K H' v := by
  obtain ⟨i, x, a, hi, rfl, dx, fs, g⟩ := h
  exact ⟨i, x, a, hi, rfl, dx, fs, e _ _ g⟩
theorem own_cls {K : PySem.W.Frag} {mg : Str → Option Value} (T : Tx K mg) : ∀ (i : Nat) {x : Str}, owns[i]? = some x → Cls K (He.ga K x)
  | 0, _, e => by cases e; exact cl_Tree T
  | 1, _, e => by cases e; exact cl_Store T
  | _ + 2, _, e => by cases e
theorem OwnAt.ty {K : PySem.W.Frag} {mg : Str → Option Value} {H : Hp} {v : V} (T : Tx K mg) (h : OwnAt K H v) : ∃ t, TyX K H v t ∧ ∀ s ∈ ["list", "tuple", "str"], PySem.W.kitOne K t (.type s) = some false := by
  obtain ⟨i, x, a, hi, rfl, dx, fs, g⟩ := h
  have F := T.own i hi
  exact ⟨_, .base (.ins g (own_cls T i hi) F.ha F.got.1.symm F.got.2.symm F.hm), T.seq i hi⟩
theorem isi_seq_o {K : PySem.W.Frag} {mg : Str → Option Value} {H : Hp} {v : V} {p : Addr} {Q : VK} (T : Tx K mg) (h : OwnAt K H v) (hp : H p = some (.tup [.ty "list", .ty "tuple"])) (q : Q (.bl false) H) : rIsiT K [v, .ref p] H Q := by
  obtain ⟨t, ty, no⟩ := h.ty T
  refine ⟨v, p, [.ty "list", .ty "tuple"], t, [.type "list", .type "tuple"], _, rfl, hp, .cons (.ty _) (.cons (.ty _) .nil), ty, ?_, q⟩
  have a := no "list" (by simp)
  have b := no "tuple" (by simp)
  unfold PySem.W.kitAny
  rw [a]
  unfold PySem.W.kitAny
  rw [b]; rfl
/-- isinstance(x, "str") and the like of an own instance -/
theorem isi_ty_o {K : PySem.W.Frag} {mg : Str → Option Value} {H : Hp} {v : V} {s : String} {Q : VK} (T : Tx K mg) (h : OwnAt K H v) (m : s ∈ ["list", "tuple", "str"]) (q : Q (.bl false) H) : rIsi K [v, .ty s] H Q := by
  obtain ⟨t, ty, no⟩ := h.ty T
  exact ⟨v, _, _, _, _, rfl, .ty s, ty, no s m, q⟩
def sp_is_listV (K : PySem.W.Frag) : Sp := sp1 fun a H Q E => (∃ d, Dq K H a d ∧ ∀ H', Ex H H' → Q (.bl (isSeq d)) H') ∨ (OwnAt K H a ∧ ∀ H', Ex H H' → Q (.bl false) H')
section
variable {K : PySem.W.Frag} {mg : Str → Option Value} {P : Program} {w : World} {base : Heap}
theorem ok_is_listV (T : Tx K mg) : Cal P w K mg base CX0 1 "is_list" ["value"] (sp_is_listV K) := by
  refine cal_of (fD_is_list T) (T.glo 13 rfl) sc_is_list (fun _ _ _ _ _ _ us hl => match us, hl with | [_], _ => rfl) (fun vs H Q E h => len1 h) (fun f cdv A outer s H vs Q E hr h => ?_)
  obtain ⟨a, rfl, h⟩ := h
  refine ⟨_, (PSs.nox (pss_one (ps_ret (pe_callB (call_isiTK (K := K)) (by rfl) (T.free 6 rfl) (by decide +kernel) (pa_cons (pv 0) (pa_cons (pe_tup (pa_cons (pe_bltn (v := .ty "list") (u := .type "list") (by rfl) (T.free 8 rfl) (by decide +kernel) rfl) (pa_cons (pe_bltn (v := .ty "tuple") (u := .type "tuple") (by rfl) (T.free 17 rfl) (by decide +kernel) rfl) pa_nil))) pa_nil)))))), ?_⟩
  rcases h with ⟨d, hd, q⟩ | ⟨ho, q⟩
  · refine ⟨_, rfl, (by show 2 ≤ sizeLine; decide), fun p hp => ?_⟩
    refine isi_seq (hd.mono (Evl.Ex.new hp)) upd_same ?_
    rw [isSeq_eq]
    exact q _ (Evl.Ex.new hp)
  · exact ⟨_, rfl, (by show 2 ≤ sizeLine; decide), fun p hp => isi_seq_o T (ho.mono (Evl.Ex.new hp)) upd_same (q _ (Evl.Ex.new hp))⟩
end
def sp_are_indicesV (K : PySem.W.Frag) : Sp := sp2 fun a b H Q E => ∃ m, b = .int m ∧ ((∃ d, Dq K H a d ∧ (items d).length ≤ 100000 ∧ ∀ H', Ex H H' → Q (.bl (areIdx d m)) H') ∨ (OwnAt K H a ∧ ∀ H', Ex H H' → Q (.bl false) H'))
section
variable {K : PySem.W.Frag} {mg : Str → Option Value} {P : Program} {w : World} {base : Heap}
theorem ok_are_indicesV (T : Tx K mg) : Cal P w K mg base CX0 3 "are_indices" ["value", "many"] (sp_are_indicesV K) := by
  refine cal_of (fD_are_indices T) (T.glo 14 rfl) sc_are_indices (fun _ _ _ _ _ _ us hl => match us, hl with | [_, _], _ => rfl) (fun vs H Q E h => len2 h) (fun f cdv A outer s H vs Q E hr h => ?_)
  obtain ⟨a, b, rfl, h⟩ := h
  refine ⟨_, (PSs.nox (pss_one (ps_ret (pe_and (pe_c (ok_is_listV T) (hr.mono (by decide)) rfl pass0 (pa_cons (pv 0) pa_nil)) (pe_one (pe_callB (cr_allK (K := K) rfl) (by rfl) (T.free 2 rfl) (by decide +kernel) (pa_cons (pe_lc (own := [("item", 2)]) rfl sc_are_indices.nd (pi_seq (pv 0)) (blkOk_by (own := [("item", 2)]) (N := ["value", "many", "item"]) (sc := defScope st_are_indices) (by decide +kernel)) (fun _ _ _ _ _ => (pg_name (i := 2) sc_are_indices.nd rfl (Or.inl rfl))) (fun _ _ _ _ _ => pts_nil) (fun _ _ _ _ _ => (pe_c (ok_is_index T) (hr.mono (by decide)) rfl pass0 (pa_cons (pv 2) (pa_cons (pv 1) pa_nil))))) pa_nil))))))), ?_⟩
  obtain ⟨m, rfl, ⟨d, hd, hl, q⟩ | ⟨ho, q⟩⟩ := h
  rotate_left
  · exact ⟨_, rfl, _, rfl, .inr ⟨ho, fun H1 e1 => ⟨_, rfl, q _ e1⟩⟩⟩
  refine ⟨_, rfl, _, rfl, .inl ⟨d, hd, fun H1 e1 => ⟨_, rfl, ?_⟩⟩⟩
  unfold areIdx at q
  cases es : isSeq d with
  | false => rw [es] at q; exact q _ e1
  | true =>
    rw [es, Bool.true_and] at q
    obtain ⟨p, xs, rfl, hx, hds⟩ := dq_seq (hd.mono e1) es
    have hn := hds.length
    refine iteT ?_
    walk_at "dd"
    refine lc_at (fun _ => true) (fun i D y H' => y = .bl (isIdx ((items d)[i]?.getD .none) m)) (line_big (n := xs.length) (by omega)) (fun P q => l_seq rfl hx q) (fun _ _ _ _ _ _ h => h) (fun _ _ _ _ _ _ h => h) ?_ ?_
    · intro i D H2 hi hD e2 hacc Ny Nn hy _
      refine ⟨rfl, ?_⟩
      obtain ⟨di, h1, h2⟩ := dqs_nth hds hi
      refine ⟨_, rfl, _, rfl, _, _, rfl, di, m, h2.mono e2, rfl, ?_⟩
      refine hy _ _ rfl (Evl.Ex.refl _) ?_
      rw [h1]; rfl
    · intro D ys H2 hD e2 hd2 f
      rw [range_all] at f
      have ey := F2.map_eq (f := fun i => V.bl (isIdx ((items d)[i]?.getD .none) m)) f
      refine ⟨D, (List.range xs.length).map (fun i => isIdx ((items d)[i]?.getD .none) m), rfl, SqL.of (by rw [hd2, ey, List.map_map]; rfl), ?_⟩
      rw [hn, all_nth (items d) (isIdx · m) _ (fun i x hx => by rw [hx]; rfl)]
      exact q _ (e1.trans e2)
end

end T1

namespace T1
open PySem PySem.Spec PyProof.Rows L2 G
open Evl (Ex)
local macro_rules | `(tactic| walk_at "dd") => `(tactic| (dsimp only [tCB, tCons, tNil, tC, tOp, tUn, tTest, tB, tVar, tAndV, tOrV, tNotV, tIf, tAnd, tOr, tNot, tSeq, tRet, tRetN, tIfS, tAsg, gName, tDrop, tTup, tLst, tChain, tNext, tCall, L2.start]))
/-- a number of data -/
def natD : PyData → Nat
  | .int i => i.toNat
  | _ => 0
def nats (d : PyData) : List Nat := (items d).map natD
theorem idx_natD {d : PyData} {n : Nat} (h : isIdx d n = true) : d = intD (natD d) ∧ natD d < n := by
  cases d with
  | int i =>
    unfold isIdx at h
    simp only [decide_eq_true_eq, Bool.and_eq_true] at h
    obtain ⟨k, rfl⟩ : ∃ k : Nat, i = k := ⟨i.toNat, by omega⟩
    exact ⟨rfl, by show ((k : Int)).toNat < n; omega⟩
  | _ => cases h
theorem nats_of {d : PyData} {n : Nat} (h : areIdx d n = true) : isSeq d = true ∧ items d = (nats d).map intD ∧ ∀ k ∈ nats d, k < n := by
  unfold areIdx at h
  rw [Bool.and_eq_true, List.all_eq_true] at h
  refine ⟨h.1, ?_, fun k hk => ?_⟩
  · unfold nats
    rw [List.map_map]
    exact ((List.map_congr_left fun x hx => (idx_natD (h.2 x hx)).1).symm.trans rfl).symm ▸ (List.map_id _).symm
  · obtain ⟨x, hx, rfl⟩ := List.mem_map.mp hk
    exact (idx_natD (h.2 x hx)).2
theorem nats_len (d : PyData) : (nats d).length = (items d).length := List.length_map ..
/-- what a value is: data, or an own instance -/
def ValD (K : PySem.W.Frag) (H : Hp) (v : V) : Option PyData → Prop
  | some d => Dq K H v d
  | none => OwnAt K H v
theorem ValD.mono {K : PySem.W.Frag} {H H' : Hp} {v : V} {o : Option PyData} (e : Ex H H') (h : ValD K H v o) : ValD K H' v o := by
  cases o with
  | some d => exact Dq.mono e h
  | none => exact OwnAt.mono e h
def lenD : Option PyData → Nat
  | some d => (items d).length
  | none => 0
def okH (n : Nat) : Option PyData → Bool
  | some d => areIdx d n && decide ((items d).length ≤ 12)
  | none => false
def okC (m : Nat) : Option PyData → Bool
  | some .none => true
  | some d => areIdx d 6 && decide ((items d).length = m)
  | none => false
/-- the cells that are meant -/
def celN (m : Nat) : Option PyData → List Nat
  | some .none => List.replicate m 0
  | some d => nats d
  | none => []
def homN : Option PyData → List Nat
  | some d => nats d
  | none => []
theorem celN_len {m : Nat} {o : Option PyData} (h : okC m o = true) : (celN m o).length = m := by
  match o, h with
  | some .none, _ => exact List.length_replicate
  | some (.list l), h => exact (nats_len _).trans (of_decide_eq_true ((Bool.and_eq_true _ _).mp h).2)
  | some (.tuple l), h => exact (nats_len _).trans (of_decide_eq_true ((Bool.and_eq_true _ _).mp h).2)
theorem celN_lt {m : Nat} {o : Option PyData} (h : okC m o = true) : ∀ k ∈ celN m o, k < 6 := by
  match o, h with
  | some .none, _ =>
    intro k hk
    rw [List.eq_of_mem_replicate hk]; decide
  | some (.list l), h => exact (nats_of (n := 6) ((Bool.and_eq_true _ _).mp h).1).2.2
  | some (.tuple l), h => exact (nats_of (n := 6) ((Bool.and_eq_true _ _).mp h).1).2.2
/-- the store with the tree of n houses and the roads rs and the writes ws stands at a -/
structure StoreAt (K : PySem.W.Frag) (H : Hp) (a : Addr) (n : Nat) (rs : List (Nat × Nat)) (Fs : List (List (List Nat))) (ws : List (Nat × Nat)) : Prop where
  at_ : ∃ dx t r1 r2, H a = some (.ins (He.ga K "Store") dx [("tree", .ref t), ("homes", r1), ("cells", r2)]) ∧ TreeAt K H t n rs Fs ∧ Dq K H r1 (rowD (ws.map (·.1))) ∧ Dq K H r2 (rowD (ws.map (·.2)))
  few : ws.length ≤ 12
  ok : ∀ p ∈ ws, p.1 < n ∧ p.2 < 6
theorem StoreAt.mono {K : PySem.W.Frag} {H H' : Hp} {a : Addr} {n : Nat} {rs Fs ws} (e : Ex H H') (h : StoreAt K H a n rs Fs ws) : StoreAt K H' a n rs Fs ws := by
  obtain ⟨⟨dx, t, r1, r2, z, h1, h2, h3⟩, b1, b2⟩ := h
  exact ⟨⟨dx, t, r1, r2, e _ _ z, h1.mono e, h2.mono e, h3.mono e⟩, b1, b2⟩
theorem StoreAt.ins {K : PySem.W.Frag} {H : Hp} {a : Addr} {n : Nat} {rs Fs ws} (h : StoreAt K H a n rs Fs ws) : InsAt (He.ga K "Store") a H := by
  obtain ⟨⟨dx, t, r1, r2, z, _⟩, _, _⟩ := h
  exact ⟨_, _, z⟩
theorem flat_one {α : Type} (x : α) (n : Nat) : (List.replicate n [x]).flatten = List.replicate n x := by
  induction n with
  | zero => rfl
  | succ n ih => rw [List.replicate_succ, List.flatten_cons, ih, List.replicate_succ]; rfl
theorem dqs_zero {K : PySem.W.Frag} {H : Hp} (n : Nat) : Dqs K H (List.replicate n (V.int 0)) ((List.replicate n 0).map intD) := by
  induction n with
  | zero => exact .nil
  | succ n ih => exact .cons (.int _) ih
theorem tst_split {t : L2.TT} {σ : L2.St} {H : Hp} {P : Bool → Hp → Prop} (G : Bool → Hp → Prop) (h1 : ∀ R : Bool → Hp → Prop, (∀ c H2, G c H2 → R c H2) → t σ H R) (h2 : ∀ c H2, G c H2 → P c H2) : t σ H P := h1 P h2
theorem te_split {te : TE} {σ : L2.St} {H : Hp} {P : VK} (G : V → Hp → Prop) (h1 : ∀ R : VK, (∀ v H2, G v H2 → R v H2) → te σ H R) (h2 : ∀ v H2, G v H2 → P v H2) : te σ H P := h1 P h2
def sp_Store___init__ (K : PySem.W.Frag) : Sp := sp4 fun a b c d H Q E => ∃ H0 s dx t n rs Fs oh oc, a = .ref s ∧ Ex H0 H ∧ H0 s = none ∧ H s = some (.ins (He.ga K "Store") dx []) ∧ b = .ref t ∧ TreeAt K H0 t n rs Fs ∧ ValD K H0 c oh ∧ lenD oh ≤ 100000 ∧ ValD K H0 d oc ∧ lenD oc ≤ 100000 ∧
  (okH n oh = false → Err1 K E H0 "InvalidHomes" "given" c) ∧ (okH n oh = true → okC (lenD oh) oc = false → Err1 K E H0 "InvalidCells" "given" d) ∧
  (okH n oh = true → okC (lenD oh) oc = true → ∀ H', Ex H0 H' → StoreAt K H' s n rs Fs ((homN oh).zip (celN (lenD oh) oc)) → Q .non H')
section
variable {K : PySem.W.Frag} {mg : Str → Option Value} {P : Program} {w : World} {base : Heap}
theorem ok_Store___init__ (T : Tx K mg) : ∃ fd, FunD K "__init__" "Store.__init__" (defArgs st_Store___init__) (defBody st_Store___init__) (defScope st_Store___init__) [] [("cells", .non)] (He.ma K (He.ga K "Store") "__init__") fd ∧ FG P w K mg base (L2N.CX P w) 4 (He.ma K (He.ga K "Store") "__init__") fd ["self", "tree", "homes", "cells"] (sp_Store___init__ K) := by
  obtain ⟨fd, F⟩ := fD_Store___init__ T
  refine ⟨fd, F, fg_of F sc_Store___init__ (fun vs H Q E h => len4 h) (fun cdv A outer s H vs Q E hr h => ?_)⟩
  obtain ⟨a, b, c, d, rfl, h⟩ := h
  refine ⟨_, (pss_cons (ps_if (PW.pt (pw_or (pt_not (pt_val (pe_c (ok_are_indicesV T) (hr.mono (by decide)) rfl pass0 (pa_cons (pv 2) (pa_cons (pe_callB (tree_len (K := K) T (hr.mono (by decide))) (by rfl) (T.free 7 rfl) (by decide +kernel) (pa_cons (pv 1) pa_nil)) pa_nil))))) (pw_or1 (pt_cmpR op_gt (pe_callB (call_lenK (K := K)) (by rfl) (T.free 7 rfl) (by decide +kernel) (pa_cons (pv 2) pa_nil)) (pe_glob (v := .int 12) rfl (T.con_MOST_WRITES).choose_spec ⟨_, rfl⟩) (nomark _))))) (pss_one (L2N.ps_raise rfl (L2N.takes_of rfl rfl rfl rfl) (pmkN_InvalidHomes T hr rfl (pa_cons (pv 2) pa_nil)))) pss_nil)
      (pss_cons (ps_if (PW.pt (pw_and (pt_cmpR op_notN (pv 3) pe_non (nomark _)) (pw_and1 (PW.pt (pw_or (pt_not (pt_val (pe_c (ok_are_indicesV T) (hr.mono (by decide)) rfl pass0 (pa_cons (pv 3) (pa_cons (pe_glob (v := .int 6) rfl (T.con_CELLS).choose_spec ⟨_, rfl⟩) pa_nil))))) (pw_or1 (pt_cmpR op_ne (pe_callB (call_lenK (K := K)) (by rfl) (T.free 7 rfl) (by decide +kernel) (pa_cons (pv 3) pa_nil)) (pe_callB (call_lenK (K := K)) (by rfl) (T.free 7 rfl) (by decide +kernel) (pa_cons (pv 2) pa_nil)) (nomark _)))))))) (pss_one (L2N.ps_raise rfl (L2N.takes_of rfl rfl rfl rfl) (pmkN_InvalidCells T hr rfl (pa_cons (pv 3) pa_nil)))) pss_nil)
      (pss_cons (ps_fld (pv 0) (pv 1) rfl)
      (pss_cons (ps_fld (pv 0) (pe_callTy (call_tupK (K := K)) (by rfl) (T.free 17 rfl) (by decide +kernel) (pa_cons (pv 2) pa_nil)) rfl)
      (pss_one (ps_fld (pv 0) (pe_ifExp (pt_cmpR op_isN (pv 3) pe_non (nomark _)) (pe_op (op_repN (K := K)) (pe_tup (pa_cons pe_int pa_nil)) (pe_callB (call_lenK (K := K)) (by rfl) (T.free 7 rfl) (by decide +kernel) (pa_cons (pv 2) pa_nil))) (pe_callTy (call_tupK (K := K)) (by rfl) (T.free 17 rfl) (by decide +kernel) (pa_cons (pv 3) pa_nil))) rfl)))))), ?_⟩
  obtain ⟨H0, s0, dx, t, n, rs, Fs, oh, oc, rfl, e0, hs0, hs, rfl, tr, vh, lh, vc, lc, q1, q2, q3⟩ := h
  have n16 := tr.n16
  refine seq_at (ifs_at ?_)
  refine ⟨_, rfl, _, rfl, t, rfl, tr.ins.mono e0, _, rfl, t, n, rs, Fs, rfl, tr.mono e0, n, rfl, ⟨by omega, by omega⟩, _, _, rfl, n, rfl, ?_⟩
  cases oh with
  | none =>
    refine .inr ⟨vh.mono e0, fun H1 e1 => ⟨_, rfl, ?_⟩⟩
    refine iteT (iteT ?_)
    exact ⟨_, rfl, _, rfl, fun d' H' _ e' hx => q1 rfl d' H' ((e0.trans e1).trans e') hx⟩
  | some dh =>
  refine .inl ⟨dh, vh.mono e0, lh, fun H1 e1 => ⟨_, rfl, ?_⟩⟩
  have e01 := e0.trans e1
  cases ai : areIdx dh n with
  | false =>
    refine iteT (iteT ?_)
    exact ⟨_, rfl, _, rfl, fun d' H' _ e' hx => q1 (by show (areIdx dh n && _) = _; rw [ai]; rfl) d' H' (e01.trans e') hx⟩
  | true =>
  obtain ⟨isq, ie, ilt⟩ := nats_of ai
  obtain ⟨p, xs, rfl, hx0, hds0⟩ := dq_seq vh isq
  have lx := hds0.length
  have hx1 := hx0.imp (Evl.ex_l e01) (Evl.ex_t e01)
  refine iteF ?_
  refine ⟨_, rfl, p, xs, rfl, hx1, _, _, rfl, rfl, _, rfl, ?_⟩
  by_cases c12 : (12 : Int) < (xs.length : Int)
  · rw [decide_eq_true c12]
    refine iteT ?_
    exact ⟨_, rfl, _, rfl, fun d' H' _ e' hx => q1 (by show (areIdx dh n && decide ((items dh).length ≤ 12)) = _; rw [ai, Bool.true_and, decide_eq_false]; omega) d' H' (e01.trans e') hx⟩
  rw [decide_eq_false c12]
  refine iteF ?_
  have okh : okH n (some dh) = true := by show (areIdx dh n && decide ((items dh).length ≤ 12)) = _; rw [ai, Bool.true_and, decide_eq_true]; omega
  have len : lenD (some dh) = xs.length := lx.symm
  rw [len] at q2 q3
  dsimp only [tNext]
  refine seq_at (ifs_at ?_)
  have vc1 := vc.mono e01
  refine tst_split (fun c H2 => c = !okC xs.length oc ∧ Ex H1 H2) ?_ ?_
  · intro R hR
    refine ⟨_, rfl, rfl, _, rfl, ?_⟩
    cases oc with
    | none =>
      rw [decide_eq_false (show d ≠ V.non from fun z => by obtain ⟨_, _, _, _, e, _⟩ := vc; rw [e] at z; cases z)]
      refine iteT ?_
      refine ⟨_, rfl, _, _, rfl, 6, rfl, .inr ⟨vc1, fun H2 e2 => ⟨_, rfl, ?_⟩⟩⟩
      exact hR _ _ ⟨rfl, e2⟩
    | some dc =>
      have vd : Dq K H1 d dc := vc1
      by_cases dn : d = .non
      · subst dn
        cases vd
        rw [decide_eq_true rfl]
        refine iteF ?_
        exact hR _ _ ⟨rfl, Ex.refl _⟩
      rw [decide_eq_false dn]
      have okc : okC xs.length (some dc) = (areIdx dc 6 && decide ((items dc).length = xs.length)) := by
        cases dc <;> first | rfl | (cases vd; exact absurd rfl dn)
      refine iteT ?_
      refine ⟨_, rfl, _, _, rfl, 6, rfl, .inl ⟨dc, vd, lc, fun H2 e2 => ⟨_, rfl, ?_⟩⟩⟩
      cases ac : areIdx dc 6 with
      | false => exact hR _ _ ⟨by rw [okc, ac]; rfl, e2⟩
      | true =>
        obtain ⟨csq, _, _⟩ := nats_of (n := 6) ac
        obtain ⟨pc, ys, rfl, hy, hdy⟩ := dq_seq (vd.mono e2) csq
        have ly := hdy.length
        refine iteF ?_
        refine ⟨_, rfl, pc, ys, rfl, hy, _, rfl, p, xs, rfl, hx1.imp (Evl.ex_l e2) (Evl.ex_t e2), rfl, _, rfl, ?_⟩
        refine hR _ _ ⟨?_, e2⟩
        rw [okc, ac, Bool.true_and, ← ly]
        show (!decide (V.int (ys.length : Int) = V.int (xs.length : Int))) = _
        by_cases c : ys.length = xs.length
        · rw [c]; simp
        · have c' : V.int (ys.length : Int) ≠ V.int (xs.length : Int) := fun z => c (by injection z with z; omega)
          rw [decide_eq_false c, decide_eq_false c']
  rintro c H2 ⟨rfl, e12⟩
  have e02 := e01.trans e12
  cases okc : okC xs.length oc with
  | false =>
    refine iteT ?_
    exact ⟨_, rfl, _, rfl, fun d' H' _ e' hx => q2 okh okc d' H' (e02.trans e') hx⟩
  | true =>
  refine iteF ?_
  have q := q3 okh okc
  clear q1 q2 q3
  dsimp only [tNext]
  refine seq_at ?_
  refine ⟨_, rfl, _, rfl, s0, _, dx, [], rfl, (e1.trans e12) _ _ hs, cl_Store T, no_Store_tree T, by decide, ?_⟩
  have e03 := Evl.Ex.mut (o := .ins (He.ga K "Store") dx (putF "tree" (.ref t) [])) e02 hs0
  have g3 : upd H2 s0 (.ins (He.ga K "Store") dx (putF "tree" (.ref t) [])) s0 = some (.ins (He.ga K "Store") dx (putF "tree" (.ref t) [])) := upd_same
  dsimp only
  generalize upd H2 s0 (.ins (He.ga K "Store") dx (putF "tree" (.ref t) [])) = H3 at e03 g3 ⊢
  refine seq_at (fld_at (cb_at ⟨_, rfl, ?_⟩))
  refine tup_any (hx0.imp (Evl.ex_l e03) (Evl.ex_t e03)) (hds0.mono e03) fun r1 H4 e4 hr1 => ?_
  have g4 := e4 _ _ g3
  refine ⟨_, rfl, s0, _, dx, _, rfl, g4, cl_Store T, no_Store_homes T, (by show 1 < 1000; decide), ?_⟩
  have e05 := Evl.Ex.mut (o := .ins (He.ga K "Store") dx (putF "homes" r1 (putF "tree" (.ref t) []))) (e03.trans e4) hs0
  have hr1' := Dq.ins (o := .ins (He.ga K "Store") dx (putF "homes" r1 (putF "tree" (.ref t) []))) g4 hr1
  have g5 : upd H4 s0 (.ins (He.ga K "Store") dx (putF "homes" r1 (putF "tree" (.ref t) []))) s0 = some (.ins (He.ga K "Store") dx (putF "homes" r1 (putF "tree" (.ref t) []))) := upd_same
  dsimp only
  generalize upd H4 s0 (.ins (He.ga K "Store") dx (putF "homes" r1 (putF "tree" (.ref t) []))) = H5 at e05 g5 hr1' ⊢
  refine fld_at ?_
  refine te_split (fun v H6 => Ex H5 H6 ∧ Dq K H6 v (rowD (celN xs.length oc))) ?_ ?_
  · intro R hR
    cases oc with
    | none => cases okc
    | some dc =>
      have vd : Dq K H5 d dc := ValD.mono e05 vc
      by_cases dn : d = .non
      · subst dn
        cases vd
        refine ⟨_, rfl, rfl, _, rfl, ?_⟩
        rw [decide_eq_true rfl]
        refine iteT ?_
        refine ⟨(by show 1 ≤ sizeLine; decide), fun z hz => ?_⟩
        have ez := Evl.Ex.new (o := .tup [.int 0]) hz
        refine ⟨_, rfl, p, xs, rfl, hx0.imp (Evl.ex_l (e05.trans ez)) (Evl.ex_t (e05.trans ez)), z, xs.length, [.int 0], rfl, rfl, SqT.of upd_same, by simp, by omega, by decide, fun w H6 e6 sq => ?_⟩
        rw [flat_one] at sq
        exact hR _ _ ⟨ez.trans e6, .tup sq (dqs_zero _)⟩
      · have okd : (areIdx dc 6 && decide ((items dc).length = xs.length)) = true := by
          rw [← okc]
          cases dc <;> first | rfl | (cases vd; exact absurd rfl dn)
        obtain ⟨csq, ce, _⟩ := nats_of (n := 6) ((Bool.and_eq_true _ _).mp okd).1
        have cel : celN xs.length (some dc) = nats dc := by
          cases dc <;> first | rfl | (cases vd; exact absurd rfl dn)
        obtain ⟨pc, ys, rfl, hy, hdy⟩ := dq_seq vd csq
        refine ⟨_, rfl, rfl, _, rfl, ?_⟩
        rw [decide_eq_false dn]
        refine iteF ?_
        refine ⟨_, rfl, tup_any hy hdy fun r2 H6 e6 hr2 => hR _ _ ⟨e6, ?_⟩⟩
        rw [cel]
        unfold rowD
        rw [← ce]; exact hr2
  rintro r2 H6 ⟨e6, hr2⟩
  have g6 := e6 _ _ g5
  refine ⟨_, rfl, s0, _, dx, _, rfl, g6, cl_Store T, no_Store_cells T, (by show 2 < 1000; decide), ?_⟩
  have e07 := Evl.Ex.mut (o := .ins (He.ga K "Store") dx (putF "cells" r2 (putF "homes" r1 (putF "tree" (.ref t) [])))) (e05.trans e6) hs0
  have lz : (nats dh).length = (celN xs.length oc).length := by rw [celN_len okc, nats_len, lx]
  refine q _ e07 ⟨⟨dx, t, r1, r2, upd_same, tr.mono e07, Dq.ins g6 (Dq.mono e6 ?_), Dq.ins g6 ?_⟩, ?_, fun pq hpq => ?_⟩
  · have m := List.map_fst_zip (Nat.le_of_eq lz)
    show Dq K H5 r1 (rowD (((nats dh).zip (celN xs.length oc)).map Prod.fst))
    rw [m]
    unfold rowD
    show Dq K H5 r1 (.tuple ((nats dh).map intD))
    rw [← ie]; exact hr1'
  · have m := List.map_snd_zip (Nat.le_of_eq lz.symm)
    show Dq K H6 r2 (rowD (((nats dh).zip (celN xs.length oc)).map Prod.snd))
    rw [m]
    exact hr2
  · rw [List.length_zip]
    show min (nats dh).length _ ≤ 12
    rw [nats_len]; omega
  · have a := (List.of_mem_zip hpq)
    exact ⟨ilt _ a.1, celN_lt okc _ a.2⟩
end

end T1

namespace T1
open PySem PySem.Spec PyProof.Rows L2 G
open Evl (Ex)
local macro_rules | `(tactic| walk_at "dd") => `(tactic| (dsimp only [tCB, tCons, tNil, tC, tOp, tUn, tTest, tB, tVar, tAndV, tOrV, tNotV, tIf, tAnd, tOr, tNot, tSeq, tRet, tRetN, tIfS, tAsg, gName, tDrop, tTup, tLst, tChain, tNext, tCall, L2.start]))
section
variable {X : Cx} {K : PySem.W.Frag}
theorem tree_line {o : Expr} {ta : TE} {apos pos : Pos} {pl : Sem Bool} (T : Tx X.K X.mg) (hr : RG 1 X.A) (he : PE X o ta) (h : X.K = K := by rfl)
    (ht : eval (.Call (.Attribute o "line" apos) [] [] pos) X.env = (do let ov ← eval o X.env; standAt apos.atName; let (f, first) ← holding [ov] (getMethod ov "line" pl); callWith pos f first (backTo pos (starEach [] X.env)) (backToKw pos (keywordEach [] X.env))) := by rfl) :
    PE X (.Call (.Attribute o "line" apos) [] [] pos) (tMeth (He.ga K "Tree") "line" (sp_Tree_line K) [] E0 ta tNil) := by
  subst h
  obtain ⟨fd, F, G⟩ := ok_Tree_line (P := X.prog) (w := X.w) (base := X.base) T
  exact pe_gm0 he (cl_Tree T) (me_Tree_line T) G hr (F.bindsN fun _ _ _ _ _ _ us hl => match us, hl with | [_], _ => rfl) pass0 ht
end
theorem or_at {t u : L2.TT} {σ : L2.St} {H : Hp} {Q : Bool → Hp → Prop} (h : t σ H fun c H1 => if c = true then Q true H1 else u σ H1 Q) : tOr t u σ H Q := h
theorem andv_at {ta tb : TE} {σ : L2.St} {H : Hp} {Q : VK} (h : ta σ H fun x H1 => ∃ c, x = .bl c ∧ if c = true then tb σ H1 Q else Q (.bl false) H1) : tAndV ta tb σ H Q := h
theorem test_at {r : R2} {ta tb : TE} {σ : L2.St} {H : Hp} {Q : Bool → Hp → Prop} (h : ta σ H fun x H1 => tb σ H1 fun y H2 => r x y H2 fun z H' => ∃ k, z = .bl k ∧ Q k H') : tTest (tOp r ta tb) σ H Q := h
theorem op_at {r : R2} {ta tb : TE} {σ : L2.St} {H : Hp} {Q : VK} (h : ta σ H fun x H1 => tb σ H1 fun y H2 => r x y H2 Q) : tOp r ta tb σ H Q := h
theorem eq_trees {K : PySem.W.Frag} {mg : Str → Option Value} {H : Hp} {s t : Addr} {n m : Nat} {rs qs Fs Gs} {Q : VK} (T : Tx K mg) (h1 : TreeAt K H s n rs Fs) (h2 : TreeAt K H t m qs Gs) (q : Q (.bl (decide (n = m) && decide (rs = qs))) H) : rCmpO K (He.ga K "Tree") false (sp_Tree___eq__ K) E0 (.ref s) (.ref t) H Q := by
  obtain ⟨_, _, g⟩ := h2.ins
  refine ⟨s, .ref (He.ga K "Tree"), rfl, h1.ins, .base (.ins g (cl_Tree T) (T.own 0 rfl).ha (T.own 0 rfl).got.1.symm (T.own 0 rfl).got.2.symm (T.own 0 rfl).hm), nf_same, _, _, rfl, s, n, rs, Fs, rfl, h1, .inl ⟨t, m, qs, Gs, rfl, h2, _, rfl, q⟩⟩
theorem ne_trees {K : PySem.W.Frag} {mg : Str → Option Value} {H : Hp} {s t : Addr} {n m : Nat} {rs qs Fs Gs} {Q : VK} (T : Tx K mg) (h1 : TreeAt K H s n rs Fs) (h2 : TreeAt K H t m qs Gs) (q : Q (.bl (!(decide (n = m) && decide (rs = qs)))) H) : rCmpO K (He.ga K "Tree") true (sp_Tree___eq__ K) E0 (.ref s) (.ref t) H Q := by
  obtain ⟨_, _, g⟩ := h2.ins
  refine ⟨s, .ref (He.ga K "Tree"), rfl, h1.ins, .base (.ins g (cl_Tree T) (T.own 0 rfl).ha (T.own 0 rfl).got.1.symm (T.own 0 rfl).got.2.symm (T.own 0 rfl).hm), nf_same, _, _, rfl, s, n, rs, Fs, rfl, h1, .inl ⟨t, m, qs, Gs, rfl, h2, _, rfl, q⟩⟩
theorem shaped_row (l : List Nat) : SeqAt.shaped (rowD l) = true := by
  have d := depth_ints l
  unfold SeqAt.shaped rowD
  rw [Bool.and_eq_true, decide_eq_true_eq]
  refine ⟨by simpa [PyData.canLay0] using canLay_ints l, ?_⟩
  simp only [PyData.depth]; omega
theorem eqv_int2 (a b : Nat) : PyData.eqv (intD a) (intD b) = decide (a = b) := by
  show ((a : Int) == (b : Int)) = _
  rw [(Bool.eq_iff_iff), beq_iff_eq, decide_eq_true_eq]
  exact ⟨fun z => by omega, fun z => by rw [z]⟩
theorem eqv_rows2 : ∀ l m : List Nat, PyData.eqv (rowD l) (rowD m) = decide (l = m)
  | [], [] => rfl
  | [], _ :: _ => rfl
  | _ :: _, [] => rfl
  | a :: l, b :: m => by
    have e : PyData.eqv (rowD (a :: l)) (rowD (b :: m)) = (PyData.eqv (intD a) (intD b) && PyData.eqv (rowD l) (rowD m)) := rfl
    rw [e, eqv_int2, eqv_rows2 l m, Bool.eq_iff_iff]; simp
theorem zip_eq {α β : Type} {l m : List (α × β)} (h1 : l.map (·.1) = m.map (·.1)) (h2 : l.map (·.2) = m.map (·.2)) : l = m := by
  induction l generalizing m with
  | nil => cases m with
    | nil => rfl
    | cons => cases h1
  | cons a l ih => cases m with
    | nil => cases h1
    | cons b m =>
      simp only [List.cons.injEq, List.map_cons] at h1 h2
      rw [ih h1.2 h2.2, Prod.ext h1.1 h2.1]
/-- no store -/
def NoStore (K : PySem.W.Frag) (H : Hp) (v : V) : Prop := (∃ t ∈ ["NoneType", "bool", "int", "str", "list", "tuple", "dict"], TyX K H v (.type t)) ∨ ∃ t, v = .ref t ∧ InsAt (He.ga K "Tree") t H
def sp_Store___eq__ (K : PySem.W.Frag) : Sp := sp2 fun a b H Q E => ∃ s n rs Fs ws, a = .ref s ∧ StoreAt K H s n rs Fs ws ∧ ((∃ t m qs Gs us, b = .ref t ∧ StoreAt K H t m qs Gs us ∧ Q (.bl (decide (n = m) && decide (rs = qs) && decide (ws = us))) H) ∨ (NoStore K H b ∧ Q (.bl false) H))
section
variable {K : PySem.W.Frag} {mg : Str → Option Value} {P : Program} {w : World} {base : Heap}
theorem ok_Store___eq__ (T : Tx K mg) : ∃ fd, FunD K "__eq__" "Store.__eq__" (defArgs st_Store___eq__) (defBody st_Store___eq__) (defScope st_Store___eq__) [] [] (He.ma K (He.ga K "Store") "__eq__") fd ∧ FG P w K mg base CX0 3 (He.ma K (He.ga K "Store") "__eq__") fd ["self", "other"] (sp_Store___eq__ K) := by
  obtain ⟨fd, F⟩ := fD_Store___eq__ T
  refine ⟨fd, F, fg_of F sc_Store___eq__ (fun vs H Q E h => len2 h) (fun cdv A outer s H vs Q E hr h => ?_)⟩
  obtain ⟨a, b, rfl, h⟩ := h
  refine ⟨_, (PSs.nox (pss_cons (ps_if (PW.pt (pw_or (pt_not (pt_val (pe_callB (call_isiK' (K := K)) (by rfl) (T.free 6 rfl) (by decide +kernel) (pa_cons (pv 1) (pa_cons (pe_glob (v := .ref (He.ga K "Store")) rfl (T.glo 10 rfl) rfl) pa_nil))))) (pw_or1 (pt_cmpR (tree_ne (K := K) T (hr.mono (by decide))) (pe_fldK (K := K) (pv 0)) (pe_fldK (K := K) (pv 1)) (nomark _))))) (pss_one (ps_ret pe_bl)) pss_nil)
      (pss_one (ps_ret (pe_and (pe_cmpR (op_eqDK (K := K) (hu64 hr.r)) (pe_fldK (K := K) (pv 0)) (pe_fldK (K := K) (pv 1)) (nomark _)) (pe_one (pe_cmpR (op_eqDK (K := K) (hu64 hr.r)) (pe_fldK (K := K) (pv 0)) (pe_fldK (K := K) (pv 1)) (nomark _)))))))), ?_⟩
  obtain ⟨s0, n, rs, Fs, ws, rfl, st, h⟩ := h
  rcases h with ⟨s2, m, qs, Gs, us, rfl, su, q⟩ | ⟨⟨t, mt, ty⟩ | ⟨t, rfl, ht⟩, q⟩
  · refine seq_at (ifs_at (or_at (not_at (b_at (cb2_at ⟨_, rfl, ?_⟩)))))
    refine isi_own_o (y := "Store") (T.own 1 rfl) (T.own 1 rfl) (cl_Store T) (by decide) su.ins ⟨_, rfl, ?_⟩
    refine iteF ?_
    obtain ⟨⟨dx, t1, r1, r2, g, tr, h1, h2⟩, _, _⟩ := st
    obtain ⟨⟨dx', t1', r1', r2', g', tr', h1', h2'⟩, _, _⟩ := su
    refine test_at ?_
    refine ⟨_, rfl, s0, _, dx, _, _, rfl, g, cl_Store T, no_Store_tree T, rfl, _, rfl, s2, _, dx', _, _, rfl, g', cl_Store T, no_Store_tree T, rfl, ?_⟩
    refine ne_trees T tr tr' ⟨_, rfl, ?_⟩
    cases c : (decide (n = m) && decide (rs = qs)) with
    | false =>
      refine iteT ?_
      rw [c, Bool.false_and] at q
      exact q
    | true =>
    rw [c, Bool.true_and] at q
    refine iteF ?_
    dsimp only [tNext]
    refine ret_at (andv_at (op_at ?_))
    refine ⟨_, rfl, s0, _, dx, _, _, rfl, g, cl_Store T, no_Store_homes T, rfl, _, rfl, s2, _, dx', _, _, rfl, g', cl_Store T, no_Store_homes T, rfl, ?_⟩
    refine ⟨_, _, h1.dp (SeqAt.canLay_of_shaped (shaped_row _)), h1'.dp (SeqAt.canLay_of_shaped (shaped_row _)), shaped_row _, shaped_row _, _, rfl, ?_⟩
    rw [eqv_rows2]
    by_cases c1 : ws.map (·.1) = us.map (·.1)
    · rw [decide_eq_true c1]
      refine iteT ?_
      refine op_at ?_
      refine ⟨_, rfl, s0, _, dx, _, _, rfl, g, cl_Store T, no_Store_cells T, rfl, _, rfl, s2, _, dx', _, _, rfl, g', cl_Store T, no_Store_cells T, rfl, ?_⟩
      refine ⟨_, _, h2.dp (SeqAt.canLay_of_shaped (shaped_row _)), h2'.dp (SeqAt.canLay_of_shaped (shaped_row _)), shaped_row _, shaped_row _, ?_⟩
      rw [eqv_rows2]
      have e : decide (ws.map (·.2) = us.map (·.2)) = decide (ws = us) := by
        rw [(Bool.eq_iff_iff), decide_eq_true_eq, decide_eq_true_eq]
        exact ⟨fun z => zip_eq c1 z, fun z => by rw [z]⟩
      rw [e]; exact q
    · rw [decide_eq_false c1]
      refine iteF ?_
      rw [decide_eq_false (fun z => c1 (by rw [z]))] at q
      exact q
  · refine seq_at (ifs_at (or_at (not_at (b_at (cb2_at ⟨_, rfl, ?_⟩)))))
    exact ⟨_, _, _, _, _, rfl, .own _, ty, (T.own 1 rfl).ty _ mt, _, rfl, q⟩
  · refine seq_at (ifs_at (or_at (not_at (b_at (cb2_at ⟨_, rfl, ?_⟩)))))
    exact isi_own_o (y := "Tree") (T.own 1 rfl) (T.own 0 rfl) (cl_Tree T) (by decide) ht ⟨_, rfl, q⟩
end
def sp_Store___len__ (K : PySem.W.Frag) : Sp := sp1 fun a H Q E => ∃ s n rs Fs ws, a = .ref s ∧ StoreAt K H s n rs Fs ws ∧ Q (.int (ws.length : Nat)) H
section
variable {K : PySem.W.Frag} {mg : Str → Option Value} {P : Program} {w : World} {base : Heap}
theorem ok_Store___len__ (T : Tx K mg) : ∃ fd, FunD K "__len__" "Store.__len__" (defArgs st_Store___len__) (defBody st_Store___len__) (defScope st_Store___len__) [] [] (He.ma K (He.ga K "Store") "__len__") fd ∧ FG P w K mg base CX0 1 (He.ma K (He.ga K "Store") "__len__") fd ["self"] (sp_Store___len__ K) := by
  obtain ⟨fd, F⟩ := fD_Store___len__ T
  refine ⟨fd, F, fg_of F sc_Store___len__ (fun vs H Q E h => len1 h) (fun cdv A outer s H vs Q E hr h => ?_)⟩
  obtain ⟨a, rfl, h⟩ := h
  refine ⟨_, (PSs.nox (pss_one (ps_ret (pe_callB (call_lenK (K := K)) (by rfl) (T.free 7 rfl) (by decide +kernel) (pa_cons (pe_fldK (K := K) (pv 0)) pa_nil))))), ?_⟩
  obtain ⟨s0, n, rs, Fs, ws, rfl, st, q⟩ := h
  obtain ⟨⟨dx, t1, r1, r2, g, tr, h1, h2⟩, _, _⟩ := st
  obtain ⟨p, xs, e1, sx, ds⟩ : ∃ p xs, r1 = .ref p ∧ SqT K H p xs ∧ Dqs K H xs ((ws.map (·.1)).map intD) := by
    cases h1 with
    | tup h hs => exact ⟨_, _, rfl, h, hs⟩
  subst e1
  have len : xs.length = ws.length := by rw [ds.length, List.length_map, List.length_map]
  refine ret_at ?_
  refine ⟨_, rfl, s0, _, dx, _, _, rfl, g, cl_Store T, no_Store_homes T, rfl, p, xs, rfl, .inr sx, ?_⟩
  rw [len]; exact q
end

end T1

namespace T1
open PySem PySem.Spec PyProof.Rows L2 G
open Evl (Ex)
local macro_rules | `(tactic| walk_at "dd") => `(tactic| (dsimp only [tCB, tCons, tNil, tC, tOp, tUn, tTest, tB, tVar, tAndV, tOrV, tNotV, tIf, tAnd, tOr, tNot, tSeq, tRet, tRetN, tIfS, tAsg, gName, tDrop, tTup, tLst, tChain, tNext, tCall, L2.start]))
def sp_check_cell (K : PySem.W.Frag) : Sp := sp1 fun a H Q E => ∃ d, Dq K H a d ∧ (isIdx d 6 = true → Q .non H) ∧ (isIdx d 6 = false → Err1 K E H "InvalidCell" "given" a)
section
variable {K : PySem.W.Frag} {mg : Str → Option Value} {P : Program} {w : World} {base : Heap}
theorem ok_check_cell (T : Tx K mg) : Cal P w K mg base (L2.CX P w) 3 "check_cell" ["cell"] (sp_check_cell K) := by
  refine cal_of (fD_check_cell T) (T.glo 23 rfl) sc_check_cell (fun _ _ _ _ _ _ us hl => match us, hl with | [_], _ => rfl) (fun vs H Q E h => len1 h) (fun f cdv A outer s H vs Q E hr h => ?_)
  obtain ⟨a, rfl, h⟩ := h
  refine ⟨_, (pss_one (ps_if (pt_not (pt_val (pe_c (ok_is_index T) (hr.mono (by decide)) rfl pass0 (pa_cons (pv 0) (pa_cons (pe_glob (v := .int 6) rfl (T.con_CELLS).choose_spec ⟨_, rfl⟩) pa_nil))))) (pss_one (ps_raise rfl (takes_of rfl rfl rfl rfl) (pmk_InvalidCell T hr rfl (pa_cons (pv 0) pa_nil)))) pss_nil)), ?_⟩
  obtain ⟨d, hd, q1, q2⟩ := h
  refine ⟨_, rfl, _, _, rfl, d, 6, hd, rfl, _, rfl, ?_⟩
  cases e : isIdx d 6 with
  | true => refine iteF ?_; exact q1 e
  | false =>
    refine iteT ?_
    exact ⟨_, rfl, _, rfl, fun d H' _ e' hx => q2 e d H' e' hx⟩
end
/-- the places of k in l -/
def plc (l : List Nat) (k : Nat) : List Nat := (List.range l.length).filter fun i => decide (l[i]?.getD 0 = k)
/-- the tuple of a row, as it lies -/
theorem row_ints {K : PySem.W.Frag} {H : Hp} {v : V} {l : List Nat} (h : Dq K H v (rowD l)) : ∃ p xs, v = .ref p ∧ SqT K H p xs ∧ xs = l.map iV := by
  cases h with
  | tup h hs =>
    refine ⟨_, _, rfl, h, ?_⟩
    have e : l.map intD = (l.map fun k : Nat => (k : Int)).map PyData.int := by rw [List.map_map]; rfl
    rw [e] at hs
    rw [Dqs.ints_inv hs, List.map_map]; rfl
theorem nth_iV {l : List Nat} {i : Nat} (h : i < l.length) : G.nth (l.map iV) i = iV (l[i]?.getD 0) := by
  unfold G.nth
  rw [List.getElem?_map, List.getElem?_eq_getElem h]; rfl
def sp_made_in (K : PySem.W.Frag) : Sp := sp2 fun a b H Q E => ∃ s n rs Fs ws d, a = .ref s ∧ StoreAt K H s n rs Fs ws ∧ Dq K H b d ∧ (isIdx d n = false → Err1 K E H "InvalidHouse" "given" b) ∧
  (isIdx d n = true → ∀ L H', Ex H H' → H L = none → H' L = some (.lst ((plc (ws.map (·.1)) (natD d)).map iV)) → Q (.ref L) H')
section
variable {K : PySem.W.Frag} {mg : Str → Option Value} {P : Program} {w : World} {base : Heap}
theorem ok_made_in (T : Tx K mg) : Cal P w K mg base (L2.CX P w) 5 "made_in" ["store", "house"] (sp_made_in K) := by
  refine cal_of (fD_made_in T) (T.glo 24 rfl) sc_made_in (fun _ _ _ _ _ _ us hl => match us, hl with | [_, _], _ => rfl) (fun vs H Q E h => len2 h) (fun f cdv A outer s H vs Q E hr h => ?_)
  obtain ⟨a, b, rfl, h⟩ := h
  refine ⟨_, (pss_cons (ps_expr (pe_c (ok_check_house T) (hr.mono (by decide)) rfl (passes_call (E := E) (takes_of rfl rfl rfl rfl) fun _ _ _ _ h => h) (pa_cons (pe_fldK (K := K) (pv 0)) (pa_cons (pv 1) pa_nil))))
      (pss_one (ps_ret (pe_lc (own := [("write", 2), ("home", 3)]) rfl sc_made_in.nd (pi_enumT (K := K) (by rfl) (T.free 4 rfl) (pa_cons (pe_fldK (K := K) (pv 0)) pa_nil)) (blkOk_by (own := [("write", 2), ("home", 3)]) (N := ["store", "house", "write", "home"]) (sc := defScope st_made_in) (by decide +kernel)) (fun _ _ _ _ _ => (pg_tupK (K := K) (n := 2) rfl (pgs_cons (pg_name (i := 2) sc_made_in.nd rfl (Or.inl rfl) (.inr rfl)) (pgs_cons (pg_name (i := 3) sc_made_in.nd rfl (Or.inl rfl) (.inr rfl)) pgs_nil)))) (fun _ _ _ _ _ => (pts_one (pt_cmpR op_eq (pv 3) (pv 1) (nomark _)))) (fun _ _ _ _ _ => (pv 2)))))), ?_⟩
  obtain ⟨s0, n, rs, Fs, ws, d, rfl, st, hd, q1, q2⟩ := h
  have st' := st
  obtain ⟨⟨dx, t1, r1, r2, g, tr, h1, h2⟩, few, ok⟩ := st'
  refine seq_at ?_
  refine ⟨_, rfl, s0, _, dx, _, _, rfl, g, cl_Store T, no_Store_tree T, rfl, _, rfl, _, _, rfl, t1, n, rs, Fs, d, rfl, tr, hd, fun ok => ?_, fun no => q1 no⟩
  dsimp only
  obtain ⟨p, xs, rfl, sx, ex⟩ := row_ints h1
  obtain ⟨ed, _⟩ := idx_natD ok
  have eb : b = iV (natD d) := by
    rw [ed] at hd
    cases hd; rfl
  subst eb
  have lx : xs.length = (ws.map (·.1)).length := by rw [ex, List.length_map]
  have l12 : (ws.map (·.1)).length ≤ 12 := by rw [List.length_map]; exact few
  generalize ws.map (·.1) = l at lx ex q2 l12
  generalize natD d = k at *
  refine ret_at ?_
  refine lc_invY (B := H) (n := xs.length) (Y := fun i H' v H'' => ∃ U, v = .ref U ∧ H' U = none ∧ H'' = upd H' U (.tup [.int (i : Nat), G.nth xs i])) (fun P q => ?_) (fun D i H' => H D = none ∧ Ex H H' ∧ H' D = some (.lst (((List.range i).filter fun i => decide (l[i]?.getD 0 = k)).map iV))) ?_ ?_ ?_ ?_
  · exact ⟨_, rfl, s0, _, dx, _, _, rfl, g, cl_Store T, no_Store_homes T, rfl, p, xs, rfl, sx, q _ _ (Evl.Ex.refl _) (ity_enum sx)⟩
  · exact fun D H1 e1 hD => ⟨Evl.fresh_back e1 hD, Evl.Ex.mut e1 (Evl.fresh_back e1 hD), upd_same⟩
  · exact fun D i H' z => z.2.1
  · rintro D i x H' H'' hi ⟨hD, e, hD2⟩ ⟨U, rfl, hU, rfl⟩
    have eU := Evl.Ex.new (o := .tup [.int (i : Nat), G.nth xs i]) hU
    have eD : Ex H (upd H' U (.tup [.int (i : Nat), G.nth xs i])) := e.trans eU
    rw [ex, nth_iV (by omega)] at eU eD ⊢
    refine ⟨U, _, rfl, SqT.of upd_same, rfl, _, _, rfl, _, _, rfl, rfl, rfl, ?_⟩
    refine ⟨_, rfl, _, rfl, rfl, _, rfl, ?_⟩
    by_cases c : l[i]?.getD 0 = k
    · rw [decide_eq_true (show iV (l[i]?.getD 0) = iV k by rw [c])]
      refine iteT ⟨_, rfl, _, eU _ _ hD2, ?_, hD, Evl.Ex.mut eD hD, ?_⟩
      · have := List.length_filter_le (fun i => decide (l[i]?.getD 0 = k)) (List.range i)
        rw [List.length_range] at this
        rw [List.length_map, sizeLine_eq]; omega
      · rw [upd_same, List.range_succ, List.filter_append, List.map_append]
        simp [c, iV]
    · rw [decide_eq_false (show iV (l[i]?.getD 0) ≠ iV k from fun z => c (by have := V.int.inj z; omega))]
      refine iteF ⟨hD, eD, ?_⟩
      rw [eU _ _ hD2, List.range_succ, List.filter_append, List.map_append]
      simp [c]
  · rintro D H' ⟨hD, e, hD2⟩
    rw [lx] at hD2
    exact q2 ok D H' e hD hD2
end
def sp_written (K : PySem.W.Frag) : Sp := sp2 fun a b H Q E => ∃ s n rs Fs ws d, a = .ref s ∧ StoreAt K H s n rs Fs ws ∧ Dq K H b d ∧ (isIdx d 6 = false → Err1 K E H "InvalidCell" "given" b) ∧
  (isIdx d 6 = true → ∀ L H', Ex H H' → H L = none → H' L = some (.lst ((plc (ws.map (·.2)) (natD d)).map iV)) → Q (.ref L) H')
section
variable {K : PySem.W.Frag} {mg : Str → Option Value} {P : Program} {w : World} {base : Heap}
theorem ok_written (T : Tx K mg) : Cal P w K mg base (L2.CX P w) 5 "written" ["store", "cell"] (sp_written K) := by
  refine cal_of (fD_written T) (T.glo 25 rfl) sc_written (fun _ _ _ _ _ _ us hl => match us, hl with | [_, _], _ => rfl) (fun vs H Q E h => len2 h) (fun f cdv A outer s H vs Q E hr h => ?_)
  obtain ⟨a, b, rfl, h⟩ := h
  refine ⟨_, (pss_cons (ps_expr (pe_c (ok_check_cell T) (hr.mono (by decide)) rfl (passes_call (E := E) (takes_of rfl rfl rfl rfl) fun _ _ _ _ h => h) (pa_cons (pv 1) pa_nil)))
      (pss_one (ps_ret (pe_lc (own := [("write", 2), ("other", 3)]) rfl sc_written.nd (pi_enumT (K := K) (by rfl) (T.free 4 rfl) (pa_cons (pe_fldK (K := K) (pv 0)) pa_nil)) (blkOk_by (own := [("write", 2), ("other", 3)]) (N := ["store", "cell", "write", "other"]) (sc := defScope st_written) (by decide +kernel)) (fun _ _ _ _ _ => (pg_tupK (K := K) (n := 2) rfl (pgs_cons (pg_name (i := 2) sc_written.nd rfl (Or.inl rfl) (.inr rfl)) (pgs_cons (pg_name (i := 3) sc_written.nd rfl (Or.inl rfl) (.inr rfl)) pgs_nil)))) (fun _ _ _ _ _ => (pts_one (pt_cmpR op_eq (pv 3) (pv 1) (nomark _)))) (fun _ _ _ _ _ => (pv 2)))))), ?_⟩
  obtain ⟨s0, n, rs, Fs, ws, d, rfl, st, hd, q1, q2⟩ := h
  have st' := st
  obtain ⟨⟨dx, t1, r1, r2, g, tr, h1, h2⟩, few, ok⟩ := st'
  refine seq_at ?_
  refine ⟨_, rfl, _, rfl, d, hd, fun ok => ?_, fun no => q1 no⟩
  dsimp only
  obtain ⟨p, xs, rfl, sx, ex⟩ := row_ints h2
  obtain ⟨ed, _⟩ := idx_natD (n := 6) ok
  have eb : b = iV (natD d) := by
    rw [ed] at hd
    cases hd; rfl
  subst eb
  have lx : xs.length = (ws.map (·.2)).length := by rw [ex, List.length_map]
  have l12 : (ws.map (·.2)).length ≤ 12 := by rw [List.length_map]; exact few
  generalize ws.map (·.2) = l at lx ex q2 l12
  generalize natD d = k at *
  refine ret_at ?_
  refine lc_invY (B := H) (n := xs.length) (Y := fun i H' v H'' => ∃ U, v = .ref U ∧ H' U = none ∧ H'' = upd H' U (.tup [.int (i : Nat), G.nth xs i])) (fun P q => ?_) (fun D i H' => H D = none ∧ Ex H H' ∧ H' D = some (.lst (((List.range i).filter fun i => decide (l[i]?.getD 0 = k)).map iV))) ?_ ?_ ?_ ?_
  · exact ⟨_, rfl, s0, _, dx, _, _, rfl, g, cl_Store T, no_Store_cells T, rfl, p, xs, rfl, sx, q _ _ (Evl.Ex.refl _) (ity_enum sx)⟩
  · exact fun D H1 e1 hD => ⟨Evl.fresh_back e1 hD, Evl.Ex.mut e1 (Evl.fresh_back e1 hD), upd_same⟩
  · exact fun D i H' z => z.2.1
  · rintro D i x H' H'' hi ⟨hD, e, hD2⟩ ⟨U, rfl, hU, rfl⟩
    have eU := Evl.Ex.new (o := .tup [.int (i : Nat), G.nth xs i]) hU
    have eD : Ex H (upd H' U (.tup [.int (i : Nat), G.nth xs i])) := e.trans eU
    rw [ex, nth_iV (by omega)] at eU eD ⊢
    refine ⟨U, _, rfl, SqT.of upd_same, rfl, _, _, rfl, _, _, rfl, rfl, rfl, ?_⟩
    refine ⟨_, rfl, _, rfl, rfl, _, rfl, ?_⟩
    by_cases c : l[i]?.getD 0 = k
    · rw [decide_eq_true (show iV (l[i]?.getD 0) = iV k by rw [c])]
      refine iteT ⟨_, rfl, _, eU _ _ hD2, ?_, hD, Evl.Ex.mut eD hD, ?_⟩
      · have := List.length_filter_le (fun i => decide (l[i]?.getD 0 = k)) (List.range i)
        rw [List.length_range] at this
        rw [List.length_map, sizeLine_eq]; omega
      · rw [upd_same, List.range_succ, List.filter_append, List.map_append]
        simp [c, iV]
    · rw [decide_eq_false (show iV (l[i]?.getD 0) ≠ iV k from fun z => c (by have := V.int.inj z; omega))]
      refine iteF ⟨hD, eD, ?_⟩
      rw [eU _ _ hD2, List.range_succ, List.filter_append, List.map_append]
      simp [c]
  · rintro D H' ⟨hD, e, hD2⟩
    rw [lx] at hD2
    exact q2 ok D H' e hD hD2
end

end T1

namespace T1
open PySem PySem.Spec PyProof.Rows L2 G
open Evl (Ex)
local macro_rules | `(tactic| walk_at "dd") => `(tactic| (dsimp only [tCB, tCons, tNil, tC, tOp, tUn, tTest, tB, tVar, tAndV, tOrV, tNotV, tIf, tAnd, tOr, tNot, tSeq, tRet, tRetN, tIfS, tAsg, gName, tDrop, tTup, tLst, tChain, tNext, tCall, L2.start]))
theorem TreeAt.few {K : PySem.W.Frag} {H : Hp} {a : Addr} {n : Nat} {rs Fs} (t : TreeAt K H a n rs Fs) : rs.length ≤ 256 := by
  have n16 := t.n16
  have z : (rs.map fun p => p.1 * 16 + p.2).length ≤ 256 := nodup_len (List.pairwise_map.mpr (t.good.nd.imp_of_mem fun {p q} hp hq ne e => ne (by
    have a := t.good.lt p hp
    have b := t.good.lt q hq
    refine Prod.ext ?_ ?_ <;> omega))) fun x hx => by
      obtain ⟨p, hp, rfl⟩ := List.mem_map.mp hx
      have a := t.good.lt p hp
      omega
  rwa [List.length_map] at z
def sp_Store_line (K : PySem.W.Frag) : Sp := sp1 fun a H Q E => ∃ s n rs Fs ws, a = .ref s ∧ StoreAt K H s n rs Fs ws ∧ ∀ H', Ex H H' → Q (.str (TT.sline n rs ws)) H'
section
variable {K : PySem.W.Frag} {mg : Str → Option Value} {P : Program} {w : World} {base : Heap}
theorem ok_Store_line (T : Tx K mg) : ∃ fd, FunD K "line" "Store.line" (defArgs st_Store_line) (defBody st_Store_line) (defScope st_Store_line) [] [] (He.ma K (He.ga K "Store") "line") fd ∧ FG P w K mg base CX0 2 (He.ma K (He.ga K "Store") "line") fd ["self"] (sp_Store_line K) := by
  obtain ⟨fd, F⟩ := fD_Store_line T
  refine ⟨fd, F, fg_of F sc_Store_line (fun vs H Q E h => len1 h) (fun cdv A outer s H vs Q E hr h => ?_)⟩
  obtain ⟨a, rfl, h⟩ := h
  refine ⟨_, (PSs.nox (pss_cons (ps_setLc (i := 1) (own := [("home", 2), ("cell", 3)]) rfl sc_Store_line.nd rfl rfl (sw_true rfl rfl rfl (by decide +kernel)) (pi_zipK (K := K) (by rfl) (T.free 18 rfl) (pa_cons (pe_fldK (K := K) (pv 0)) (pa_cons (pe_fldK (K := K) (pv 0)) pa_nil))) (blkOk_by (own := [("home", 2), ("cell", 3)]) (N := ["self", "words", "home", "cell"]) (sc := defScope st_Store_line) (by decide +kernel)) (fun _ _ _ _ _ => (pg_tupK (K := K) (n := 2) rfl (pgs_cons (pg_name (i := 2) sc_Store_line.nd rfl (Or.inl rfl) (.inr rfl)) (pgs_cons (pg_name (i := 3) sc_Store_line.nd rfl (Or.inl rfl) (.inr rfl)) pgs_nil)))) (fun _ _ _ _ _ => pts_nil) (fun _ _ _ _ _ => (pe_joined (PJ.cons (pe_fmt (pv 2)) (PJ.cons pe_str (PJ.cons (pe_fmt (pv 3)) PJ.nil))))))
      (pss_one (ps_ret (pe_joinK (K := K) pe_str (pe_op op_cat (pe_lst (pa_cons (tree_line (K := K) T (hr.mono (by decide)) (pe_fldK (K := K) (pv 0))) (pa_cons pe_str pa_nil))) (pv 1))))))), ?_⟩
  obtain ⟨s0, n, rs, Fs, ws, rfl, st, q⟩ := h
  have st' := st
  obtain ⟨⟨dx, t1, r1, r2, g, tr, h1, h2⟩, few, ok⟩ := st'
  have n16 := tr.n16
  obtain ⟨p1, xs, rfl, sx, ex⟩ := row_ints h1
  obtain ⟨p2, ys, rfl, sy, ey⟩ := row_ints h2
  have lx : xs.length = ws.length := by rw [ex, List.length_map, List.length_map]
  have ly : xs.length = ys.length := by rw [ex, ey, List.length_map, List.length_map, List.length_map, List.length_map]
  have sl : ∀ {k : Nat}, k ≤ 1000 → k ≤ sizeLine := fun {k} h => by rw [sizeLine_eq]; omega
  have l3 : ∀ {k : Nat}, k ≤ 16 → (TT.str k).length ≤ 3 := fun {k} h => str_len (by omega)
  have dot : (Str.ofString ".").length = 1 := rfl
  refine seq_at (asg_at ?_)
  refine lc_invY (B := H) (n := xs.length) (Y := fun i H' v H'' => ∃ U, v = .ref U ∧ H' U = none ∧ H'' = upd H' U (.tup [G.nth xs i, G.nth ys i])) (fun P q => ?_) (fun D i H' => H D = none ∧ Ex H H' ∧ H' D = some (.lst ((ws.take i).map fun p => V.str (TT.wrt p)))) ?_ ?_ ?_ ?_
  · exact ⟨_, rfl, s0, _, dx, _, _, rfl, g, cl_Store T, no_Store_homes T, rfl, _, rfl, s0, _, dx, _, _, rfl, g, cl_Store T, no_Store_cells T, rfl, p1, p2, xs, ys, rfl, sx, sy, q _ _ (Evl.Ex.refl _) (ity_zip sx sy ly)⟩
  · exact fun D H1 e1 hD => ⟨Evl.fresh_back e1 hD, Evl.Ex.mut e1 (Evl.fresh_back e1 hD), upd_same⟩
  · exact fun D i H' z => z.2.1
  · rintro D i x H' H'' hi ⟨hD, e, hD2⟩ ⟨U, rfl, hU, rfl⟩
    have eU := Evl.Ex.new (o := .tup [G.nth xs i, G.nth ys i]) hU
    have eD : Ex H (upd H' U (.tup [G.nth xs i, G.nth ys i])) := e.trans eU
    have iw : i < ws.length := by omega
    have b := ok _ (List.getElem_mem iw)
    have nx : G.nth xs i = iV ws[i].1 := by
      rw [ex, nth_iV (by rw [List.length_map]; omega), List.getElem?_map, List.getElem?_eq_getElem iw]; rfl
    have ny : G.nth ys i = iV ws[i].2 := by
      rw [ey, nth_iV (by rw [List.length_map]; omega), List.getElem?_map, List.getElem?_eq_getElem iw]; rfl
    rw [nx, ny] at eU eD ⊢
    refine ⟨U, _, rfl, SqT.of upd_same, rfl, _, _, rfl, _, _, rfl, rfl, rfl, ?_⟩
    show tJs _ Str.empty _ _ _
    refine ⟨_, rfl, .inr ⟨(ws[i].1 : Int), rfl, nat_log (by omega), TT.str ws[i].1, rfl, ?_, ?_⟩⟩
    · rw [empty_app]; exact sl (by have := l3 (k := ws[i].1) (by omega); omega)
    refine ⟨Str.ofString ".", rfl, ?_, ?_⟩
    · rw [empty_app, app_len]; exact sl (by have := l3 (k := ws[i].1) (by omega); omega)
    refine ⟨_, rfl, .inr ⟨(ws[i].2 : Int), rfl, nat_log (by omega), TT.str ws[i].2, rfl, ?_, ?_⟩⟩
    · rw [empty_app, app_len, app_len]; exact sl (by have := l3 (k := ws[i].1) (by omega); have := l3 (k := ws[i].2) (by omega); omega)
    rw [empty_app]
    refine ⟨_, eU _ _ hD2, ?_, hD, Evl.Ex.mut eD hD, ?_⟩
    · rw [List.length_map, List.length_take, sizeLine_eq]; omega
    · rw [upd_same, List.take_succ, List.map_append, List.getElem?_eq_getElem iw]; rfl
  rintro D H1 ⟨hD, e1, hD2⟩
  rw [lx, List.take_length] at hD2
  dsimp only [gName]
  refine ret_at ?_
  have tr1 := tr.mono e1
  obtain ⟨⟨dxT, f1, f2, f3, gT, _⟩, _⟩ := id tr1
  refine ⟨⟨_, rfl⟩, ?_⟩
  refine op_at ?_
  refine ⟨_, rfl, s0, _, dx, _, _, rfl, e1 _ _ g, cl_Store T, no_Store_tree T, rfl, t1, dxT, _, rfl, gT, rfl, ?_⟩
  refine ⟨_, rfl, t1, n, rs, Fs, rfl, tr1, fun H2 e2 => ?_⟩
  refine ⟨(by show 2 ≤ sizeLine; decide), fun L hL => ?_⟩
  refine ⟨_, rfl, L, D, _, _, rfl, rfl, upd_same, (e2.trans (Evl.Ex.new hL)) _ _ hD2, ?_, fun p hp => ?_⟩
  · rw [List.length_map]; exact sl (by show 2 + ws.length ≤ 1000; omega)
  refine ⟨_, p, TT.line n rs :: Str.ofString "/" :: ws.map TT.wrt, rfl, rfl, .inl (SqL.of ?_), ?_, q _ ((e1.trans e2).trans ((Evl.Ex.new hL).trans (Evl.Ex.new hp)))⟩
  · rw [upd_same, List.map_cons, List.map_cons, List.map_map]; rfl
  · have a := TT.line_len (n := n) (rs := rs) (by omega) (fun p hp => by have := tr.good.lt p hp; omega)
    have b := TT.wrts_len (ws := ws) (fun p hp => by have := ok p hp; omega)
    have c : (Str.ofString "/").length = 1 := rfl
    have d : (Str.ofString " ").length = 1 := rfl
    have m := tr.few
    rw [List.map_cons, List.map_cons, List.sum_cons, List.sum_cons, List.length_cons, List.length_cons, List.length_map, c, d]
    omega
end

end T1

namespace T1
open PySem PySem.Spec PyProof.Rows L2 G
open Evl (Ex)
local macro_rules | `(tactic| walk_at "dd") => `(tactic| (dsimp only [tCB, tCons, tNil, tC, tOp, tUn, tTest, tB, tVar, tAndV, tOrV, tNotV, tIf, tAnd, tOr, tNot, tSeq, tRet, tRetN, tIfS, tAsg, gName, tDrop, tTup, tLst, tChain, tNext, tCall, L2.start]))
theorem vals_app : ∀ {xs ys : List V} {us ws : List Value}, Vals xs us → Vals ys ws → Vals (xs ++ ys) (us ++ ws)
  | _, _, _, _, .nil, h => h
  | _, _, _, _, .cons r t, h => .cons r (vals_app t h)
section
variable {X : Cx} {K : PySem.W.Frag} {Z : L2.St → XK}
/-- Store(a, b, cells=c) -/
theorem store_mkZ {a b : Expr} {kws : List Keyword} {ta tk : TA} {p pos : Pos} (T : Tx X.K X.mg) (hr : RG 5 X.A) (hg : Gl X "Store") (out : Lets (L2N.CX X.prog X.w) X Z) (ha : PA X [a, b] ta) (hkw : PK X kws tk) (h : X.K = K := by rfl)
    (nk : NamedToo X a [b] kws pos ["cells"] := by exact ⟨rfl, rfl, rfl, rfl⟩) :
    PE X (.Call (.Name "Store" p) [a, b] kws pos) (tGMZ (He.ga K "Store") 2 1 (sp_Store___init__ K) (fun us ws => us ++ ws) Z ta tk) := by
  subst h
  obtain ⟨fd, F, G⟩ := ok_Store___init__ (P := X.prog) (w := X.w) (base := X.base) T
  obtain ⟨mv, kb⟩ := FunD.kbinds0 (ps := ["self", "tree", "homes", "cells"]) F 3 ["cells"] [] (fun us mv ws => us ++ ws) (by simp) (fun q hq => absurd hq (by simp)) (fun r1 _ r3 => vals_app r1 r3)
    fun D doc pm an cdv ct us mv ws h1 h2 h3 => match us, mv, ws, h1, h2, h3 with
      | [a, b, c], [], [d], _, _, _ => rfl
  exact pe_gmkZ (mk_Store T) G hr hg (T.glo 10 rfl) kb out ha hkw nk (by decide)
theorem store_line {o : Expr} {ta : TE} {apos pos : Pos} {pl : Sem Bool} (T : Tx X.K X.mg) (hr : RG 2 X.A) (he : PE X o ta) (h : X.K = K := by rfl)
    (ht : eval (.Call (.Attribute o "line" apos) [] [] pos) X.env = (do let ov ← eval o X.env; standAt apos.atName; let (f, first) ← holding [ov] (getMethod ov "line" pl); callWith pos f first (backTo pos (starEach [] X.env)) (backToKw pos (keywordEach [] X.env))) := by rfl) :
    PE X (.Call (.Attribute o "line" apos) [] [] pos) (tMeth (He.ga K "Store") "line" (sp_Store_line K) [] E0 ta tNil) := by
  subst h
  obtain ⟨fd, F, G⟩ := ok_Store_line (P := X.prog) (w := X.w) (base := X.base) T
  exact pe_gm0 he (cl_Store T) (me_Store_line T) G hr (F.bindsN fun _ _ _ _ _ _ us hl => match us, hl with | [_], _ => rfl) pass0 ht
end
/-- what a line is read as -/
def RdS (z : Str) (n : Nat) (rs ws : List (Nat × Nat)) : Prop := Reads (TT.line n rs) n rs ∧ ws.length ≤ 12 ∧ (∀ p ∈ ws, p.1 < n ∧ p.2 < 6) ∧ z = TT.sline n rs ws
theorem exm3 {K : PySem.W.Frag} {mg : Str → Option Value} (T : Tx K mg) {x : Str} (h : x = "InvalidLine" ∨ x = "InvalidHomes" ∨ x = "InvalidCells") :
    PySem.W.exmAny K (.ref (He.ga K x)) [.ref (He.ga K "InvalidLine"), .ref (He.ga K "InvalidHomes"), .ref (He.ga K "InvalidCells")] = some true := by
  rcases h with rfl | rfl | rfl
  · unfold PySem.W.exmAny
    rw [T.exm 3 3 rfl rfl (b := true) (by decide)]
    unfold PySem.W.exmAny
    rw [T.exm 3 4 rfl rfl (b := false) (by decide)]
    unfold PySem.W.exmAny
    rw [T.exm 3 5 rfl rfl (b := false) (by decide)]; rfl
  · unfold PySem.W.exmAny
    rw [T.exm 4 3 rfl rfl (b := false) (by decide)]
    unfold PySem.W.exmAny
    rw [T.exm 4 4 rfl rfl (b := true) (by decide)]
    unfold PySem.W.exmAny
    rw [T.exm 4 5 rfl rfl (b := false) (by decide)]; rfl
  · unfold PySem.W.exmAny
    rw [T.exm 5 3 rfl rfl (b := false) (by decide)]
    unfold PySem.W.exmAny
    rw [T.exm 5 4 rfl rfl (b := false) (by decide)]
    unfold PySem.W.exmAny
    rw [T.exm 5 5 rfl rfl (b := true) (by decide)]; rfl
/-- the parts of a write's word, as data -/
def trD (w : Str) : PyData := .tuple [.str (Txt.partition w ".").1, .str (Txt.partition w ".").2.1, .str (Txt.partition w ".").2.2]
theorem tr_at {K : PySem.W.Frag} {H : Hp} {v : V} {w : Str} (h : Dq K H v (trD w)) : ∃ t, v = .ref t ∧ SqT K H t [.str (Txt.partition w ".").1, .str (Txt.partition w ".").2.1, .str (Txt.partition w ".").2.2] := by
  cases h with
  | tup h hs =>
    cases hs with
    | cons a hs => cases hs with
      | cons b hs => cases hs with
        | cons c hs => cases hs; cases a; cases b; cases c; exact ⟨_, rfl, h⟩
theorem Reads.line {z : Str} {n : Nat} {rs} (h : Reads z n rs) : z = TT.line n rs := by
  obtain ⟨f, ws, e, a, _, _, _, R, _⟩ := h
  exact TT.line_back e a R.eq
/-- the words behind the bar -/
def tailW (z : Str) : List Str := (Txt.split (Txt.partition z " /").2.2 " ").drop 1
def numsD (f : Str → Str) (ws : List Str) : PyData := .list (ws.map fun w => optD (TT.num (f w)))
theorem RdS.parts {z : Str} {n : Nat} {rs ws} (h : RdS z n rs ws) : (Txt.partition z " /").1 = TT.line n rs ∧ tailW z = ws.map TT.wrt := by
  obtain ⟨_, _, _, rfl⟩ := h
  unfold tailW
  rw [TT.sline_part]
  exact ⟨rfl, by rw [TT.tail_split]; rfl⟩
theorem RdS.homes {z : Str} {n : Nat} {rs ws} (h : RdS z n rs ws) : numsD (fun w => (Txt.partition w ".").1) (tailW z) = .list ((ws.map (·.1)).map intD) := by
  unfold numsD
  rw [h.parts.2, List.map_map, List.map_map]
  congr 1
  exact List.map_congr_left fun p _ => by
    show optD (TT.num (Txt.partition (TT.wrt p) ".").1) = intD p.1
    rw [TT.wrt_part, TT.num_str]; rfl
theorem RdS.cells {z : Str} {n : Nat} {rs ws} (h : RdS z n rs ws) : numsD (fun w => (Txt.partition w ".").2.2) (tailW z) = .list ((ws.map (·.2)).map intD) := by
  unfold numsD
  rw [h.parts.2, List.map_map, List.map_map]
  congr 1
  exact List.map_congr_left fun p _ => by
    show optD (TT.num (Txt.partition (TT.wrt p) ".").2.2) = intD p.2
    rw [TT.wrt_part, TT.num_str]; rfl
theorem idx_ints {l : List Nat} {n : Nat} (h : ∀ k ∈ l, k < n) : areIdx (.list (l.map intD)) n = true := by
  unfold areIdx
  rw [Bool.and_eq_true]
  refine ⟨rfl, List.all_eq_true.mpr fun x hx => ?_⟩
  obtain ⟨k, hk, rfl⟩ := List.mem_map.mp (show x ∈ l.map intD from hx)
  have := h k hk
  show (decide ((0 : Int) ≤ k) && decide ((k : Int) < n)) = true
  rw [decide_eq_true (by omega), decide_eq_true (by omega)]; rfl
theorem nats_ints (l : List Nat) : nats (.list (l.map intD)) = l := by
  unfold nats
  show (l.map intD).map natD = l
  rw [List.map_map]
  exact (List.map_congr_left fun k _ => by show ((k : Int)).toNat = k; simp).trans (List.map_id l)
theorem zip_fs (ws : List (Nat × Nat)) : (ws.map (·.1)).zip (ws.map (·.2)) = ws := by
  induction ws with
  | nil => rfl
  | cons p ws ih => rw [List.map_cons, List.map_cons, List.zip_cons_cons, ih]
/-- a tree's roads apart, a line's homes and cells are taken -/
theorem RdS.oks {z : Str} {n : Nat} {rs ws} (h : RdS z n rs ws) : okH n (some (numsD (fun w => (Txt.partition w ".").1) (tailW z))) = true ∧ okC (lenD (some (numsD (fun w => (Txt.partition w ".").1) (tailW z)))) (some (numsD (fun w => (Txt.partition w ".").2.2) (tailW z))) = true ∧
    (homN (some (numsD (fun w => (Txt.partition w ".").1) (tailW z)))).zip (celN (lenD (some (numsD (fun w => (Txt.partition w ".").1) (tailW z)))) (some (numsD (fun w => (Txt.partition w ".").2.2) (tailW z)))) = ws := by
  have h' := h
  obtain ⟨_, few, ok, _⟩ := h'
  rw [h.homes, h.cells]
  have a := idx_ints (l := ws.map (·.1)) (n := n) fun k hk => by obtain ⟨p, hp, rfl⟩ := List.mem_map.mp hk; exact (ok p hp).1
  have b := idx_ints (l := ws.map (·.2)) (n := 6) fun k hk => by obtain ⟨p, hp, rfl⟩ := List.mem_map.mp hk; exact (ok p hp).2
  refine ⟨?_, ?_, ?_⟩
  · show (areIdx _ _ && decide (((ws.map (·.1)).map intD).length ≤ 12)) = true
    rw [a, Bool.true_and, decide_eq_true_eq, List.length_map, List.length_map]; exact few
  · show (areIdx _ 6 && decide (((ws.map (·.2)).map intD).length = ((ws.map (·.1)).map intD).length)) = true
    rw [Bool.and_eq_true]
    exact ⟨b, decide_eq_true (by simp)⟩
  · show (nats _).zip (nats _) = ws
    rw [nats_ints, nats_ints, zip_fs]
theorem cut1 (xs : List V) : cutV xs (some 1) none = xs.drop 1 := by
  show (xs.drop (HT.sIx xs.length 0 (some 1))).take (HT.sIx xs.length xs.length none - HT.sIx xs.length 0 (some 1)) = _
  have b : HT.sIx xs.length xs.length none = xs.length := rfl
  cases xs with
  | nil => rfl
  | cons x xs =>
    have a : HT.sIx (x :: xs).length 0 (some 1) = 1 := by unfold HT.sIx; simp
    rw [a, b]
    exact (List.take_of_length_le (by simp))
theorem range_get {β : Type} (ws : List Str) (g : Str → β) : (List.range ws.length).map (fun i => g (ws[i]?.getD Str.empty)) = ws.map g := by
  refine List.ext_getElem? fun i => ?_
  rw [(List.getElem?_map), (List.getElem?_map)]
  by_cases c : i < ws.length
  · rw [List.getElem?_range c, List.getElem?_eq_getElem c, Option.map_some, Option.map_some, List.getElem?_eq_getElem c]; rfl
  · rw [List.getElem?_eq_none (Nat.le_of_not_lt c), List.getElem?_eq_none (by rw [List.length_range]; omega)]; rfl
theorem dqs_opt {K : PySem.W.Frag} {H : Hp} (g : Str → Option Nat) : ∀ ws : List Str, Dqs K H (ws.map fun w => optV (g w)) (ws.map fun w => optD (g w))
  | [] => .nil
  | _ :: ws => .cons (optVD _) (dqs_opt g ws)
theorem cons_at {te : TE} {ta : TA} {σ : L2.St} {H : Hp} {P : List V → Hp → Prop} (h : te σ H fun x H1 => ta σ H1 fun xs H2 => P (x :: xs) H2) : tCons te ta σ H P := h
def sp_read_store (K : PySem.W.Frag) : Sp := sp1 fun a H Q E => ∃ d, Dq K H a d ∧ (∀ z, d = .str z → z.length ≤ 500) ∧ ((∀ z, d = .str z → ¬ ∃ n rs ws, RdS z n rs ws) → Err1 K E H "InvalidLine" "given" a) ∧
  (∀ z n rs ws Fs s H', d = .str z → RdS z n rs ws → Ex H H' → StoreAt K H' s n rs Fs ws → H s = none → Q (.ref s) H')
section
variable {K : PySem.W.Frag} {mg : Str → Option Value} {P : Program} {w : World} {base : Heap}
theorem ok_read_store (T : Tx K mg) : Cal P w K mg base (L2.CX P w) 8 "read_store" ["line"] (sp_read_store K) := by
  refine cal_of (fD_read_store T) (T.glo 26 rfl) sc_read_store (fun _ _ _ _ _ _ us hl => match us, hl with | [_], _ => rfl) (fun vs H Q E h => len1 h) (fun f cdv A outer s H vs Q E hr h => ?_)
  obtain ⟨a, rfl, h⟩ := h
  refine ⟨_, (pss_cons (ps_if (pt_not (pt_val (pe_callB (call_isiK' (K := K)) (by rfl) (T.free 6 rfl) (by decide +kernel) (pa_cons (pv 0) (pa_cons (pe_bltn (v := .ty "str") (u := .type "str") (by rfl) (T.free 15 rfl) (by decide +kernel) rfl) pa_nil))))) (pss_one (ps_raise rfl (takes_of rfl rfl rfl rfl) (pmk_InvalidLine T hr rfl (pa_cons (pv 0) pa_nil)))) pss_nil)
      (pss_cons (ps_asg (pe_partition (pv 0) pe_str) (pg_tup (n := 3) rfl (pgs_cons (pg_name (i := 1) sc_read_store.nd rfl (Or.inl rfl)) (pgs_cons (pg_name (i := 2) sc_read_store.nd rfl (Or.inl rfl)) (pgs_cons (pg_name (i := 3) sc_read_store.nd rfl (Or.inl rfl)) pgs_nil)))))
      (pss_cons (ps_setLc (i := 4) (own := [("word", 8)]) rfl sc_read_store.nd rfl rfl (sw_true rfl rfl rfl (by decide +kernel)) (pi_list (pe_slice (sl_listK (K := K)) (pe_split (pv 3) pe_str) (po_some pe_int) po_none)) (blkOk_by (own := [("word", 8)]) (N := ["line", "head", "_", "tail", "words", "homes", "cells", "store", "word"]) (sc := defScope st_read_store) (by decide +kernel)) (fun _ _ _ _ _ => (pg_name (i := 8) sc_read_store.nd rfl (Or.inl rfl))) (fun _ _ _ _ _ => pts_nil) (fun _ _ _ _ _ => (pe_partition (pv 8) pe_str)))
      (pss_cons (ps_par (i := 5) (j := 6) rfl sc_read_store.nd rfl rfl (by decide) rfl rfl (pa_cons (pe_lc (own := [("word", 8)]) rfl sc_read_store.nd (pi_list (pv 4)) (blkOk_by (own := [("word", 8)]) (N := ["line", "head", "_", "tail", "words", "homes", "cells", "store", "word"]) (sc := defScope st_read_store) (by decide +kernel)) (fun _ _ _ _ _ => (pg_name (i := 8) sc_read_store.nd rfl (Or.inl rfl))) (fun _ _ _ _ _ => pts_nil) (fun _ _ _ _ _ => (pe_c (ok_count_in T) (hr.mono (by decide)) rfl pass0 (pa_cons (pe_ix (ix_tupK (K := K)) (pv 8) pe_int (fun _ _ => rfl)) pa_nil)))) (pa_cons (pe_lc (own := [("word", 8)]) rfl sc_read_store.nd (pi_list (pv 4)) (blkOk_by (own := [("word", 8)]) (N := ["line", "head", "_", "tail", "words", "homes", "cells", "store", "word"]) (sc := defScope st_read_store) (by decide +kernel)) (fun _ _ _ _ _ => (pg_name (i := 8) sc_read_store.nd rfl (Or.inl rfl))) (fun _ _ _ _ _ => pts_nil) (fun _ _ _ _ _ => (pe_c (ok_count_in T) (hr.mono (by decide)) rfl pass0 (pa_cons (pe_ix (ix_tupK (K := K)) (pv 8) pe_int (fun _ _ => rfl)) pa_nil)))) pa_nil)) (by rfl))
      (pss_cons (ps_tryAny3 rfl rfl ⟨rfl, by decide, .inl (T.glo 4 rfl)⟩ ⟨rfl, by decide, .inl (T.glo 5 rfl)⟩ ⟨rfl, by decide, .inl (T.glo 6 rfl)⟩ (L2H.passesAt_of rfl) (takes_of rfl rfl rfl rfl) (fun W pn xe tk po => (pss_one (ps_set (i := 7) sc_read_store.nd rfl (Or.inl rfl) (store_mkZ (K := K) T (hr.mono (by decide)) rfl (lets_N tk) (pa_cons (pe_cZ (ok_read_tree T) (hr.mono (by decide)) rfl (lets_N tk) (pa_cons (pv 1) pa_nil)) (pa_cons (pv 5) pa_nil)) (pk_cons (pv 6) pk_nil))))) (fun a oe cls d pn tkS hot => (pss_one (L2H.ps_raiseHN hot tkS (pmk5_InvalidLine (K := K) T (L2H.roomH_mark hr.r _) hot rfl (pa_cons (pv 0) pa_nil))))))
      (pss_cons (ps_if (pt_cmpR op_ne (store_line (K := K) T (hr.mono (by decide)) (pv 7)) (pv 0) (nomark _)) (pss_one (ps_raise rfl (takes_of rfl rfl rfl rfl) (pmk_InvalidLine T hr rfl (pa_cons (pv 0) pa_nil)))) pss_nil)
      (pss_one (ps_ret (pv 7))))))))), ?_⟩
  obtain ⟨d, hd, hl, q1, q2⟩ := h
  refine seq_at ?_
  refine ifs_at (not_at (b_at (cb2_at ⟨_, rfl, isi_str hd ⟨_, rfl, ?_⟩⟩)))
  cases ed : isT "str" d with
  | false =>
    refine iteT ?_
    exact ⟨_, rfl, _, rfl, fun d' H' _ e' hx => q1 (fun z e => by rw [e] at ed; cases ed) d' H' e' hx⟩
  | true =>
  refine iteF ?_
  obtain ⟨z, rfl⟩ := isT_str ed
  cases hd
  have zl := hl z rfl
  replace q1 : (¬ ∃ n rs ws, RdS z n rs ws) → _ := fun h => q1 fun z' e => by cases e; exact h
  replace q2 := fun n rs ws Fs s H' => q2 z n rs ws Fs s H' rfl
  dsimp only [tNext]
  refine seq_at (asg_at ?_)
  have pl := TT.part_len z (y := " /") (by rw [TT.tl_bar]; simp)
  have line_ok : ∀ {k : Nat}, k ≤ 100000 → k ≤ sizeLine := fun {k} h => Nat.le_of_lt (line_big h)
  refine ⟨_, rfl, ⟨_, rfl⟩, z, Str.ofString " /", rfl, rfl, rfl, line_ok (by omega), fun p hp => ?_⟩
  refine ⟨p, _, rfl, SqT.of upd_same, rfl, _, _, rfl, _, _, rfl, _, _, rfl, rfl, ?_⟩
  have e1 := Ex.new (o := .tup [.str (Txt.partition z " /").1, .str (Txt.partition z " /").2.1, .str (Txt.partition z " /").2.2]) hp
  have rdz : ∀ {n rs ws}, RdS z n rs ws → _ := fun {n rs ws} h => And.intro h.parts h.oks
  have wdef : (Txt.split (Txt.partition z " /").2.2 " ").drop 1 = tailW z := rfl
  generalize upd H p (.tup [.str (Txt.partition z " /").1, .str (Txt.partition z " /").2.1, .str (Txt.partition z " /").2.2]) = H1 at e1 ⊢
  generalize (Txt.partition z " /").2.2 = tl at pl wdef ⊢
  generalize (Txt.partition z " /").2.1 = bar
  generalize (Txt.partition z " /").1 = hd at pl rdz ⊢
  generalize tailW z = ws0 at rdz wdef
  have sn := TT.split_len TT.tl_blank (by decide) tl
  have sp := TT.split_part TT.tl_blank (by decide) tl
  have wl : ws0.length ≤ 501 := by rw [← wdef, List.length_drop]; omega
  have wp : ∀ w ∈ ws0, w.length ≤ 500 := fun w hw => by
    have := sp w (by rw [← wdef] at hw; exact List.mem_of_mem_drop hw)
    omega
  dsimp only
  refine seq_at (asg_at ?_)
  refine lc_at (n := ws0.length) (item := _root_.G.nth (ws0.map V.str)) (fun _ => true) (fun i D y H' => Dq K (L2.del H' D) y (trD (ws0[i]?.getD Str.empty))) (line_big (by omega)) (fun P q => ?_) ?_ ?_ ?_ ?_
  · refine ⟨_, rfl, ⟨_, rfl⟩, tl, Str.ofString " ", rfl, rfl, rfl, line_ok (by omega), fun p2 hp2 => ?_⟩
    refine ⟨1, rfl, p2, _, rfl, SqL.of upd_same, fun l hl => ?_⟩
    have ec : cutV ((Txt.split tl " ").map V.str) (some 1) none = ws0.map V.str := by
      rw [← wdef, List.map_drop]
      exact cut1 _
    rw [ec]
    exact ⟨l, rfl, ⟨_, SqL.of upd_same⟩, q _ _ ((Ex.new hp2).trans (Ex.new hl)) (its_lm (SqL.of upd_same))⟩
  · intro i D y H' o _ h
    rw [del_upd]; exact h
  · exact fun i D y H' H'' e h => h.mono (Ex.del e)
  · intro i D H3 hi hD e3 ⟨ac, hac⟩ Ny Nn hy _
    have at_i : ws0[i]? = some ws0[i] := List.getElem?_eq_getElem hi
    have lw := wp _ (List.getElem_mem hi)
    rw [nth_map at_i]
    refine ⟨rfl, _, rfl, ⟨_, rfl⟩, ws0[i], Str.ofString ".", rfl, rfl, rfl, line_ok (by omega), fun t ht => ?_⟩
    refine hy _ _ rfl (Ex.new ht) ?_
    rw [at_i]
    have z : Dq K (upd H3 t (.tup [.str (Txt.partition ws0[i] ".").1, .str (Txt.partition ws0[i] ".").2.1, .str (Txt.partition ws0[i] ".").2.2])) (.ref t) (trD ws0[i]) := .tup (SqT.of upd_same) (.cons (.str _) (.cons (.str _) (.cons (.str _) .nil)))
    exact Dq.del (Ex.new ht _ _ hac) z rfl
  intro D ys H3 hD e3 hd3 f3
  rw [range_all] at f3
  have dys : ∀ i, i < ws0.length → ∃ t, _root_.G.nth ys i = .ref t ∧ SqT K H3 t [.str (Txt.partition (ws0[i]?.getD Str.empty) ".").1, .str (Txt.partition (ws0[i]?.getD Str.empty) ".").2.1, .str (Txt.partition (ws0[i]?.getD Str.empty) ".").2.2] := fun i hi => by
    obtain ⟨y, hy, r⟩ := F2.get f3 (i := i) (List.getElem?_range hi)
    have ny : _root_.G.nth ys i = y := by unfold _root_.G.nth; rw [hy]; rfl
    rw [ny]
    exact tr_at (r.mono Ex.ofDel)
  have ly : ys.length = ws0.length := by rw [← f3.length, List.length_range]
  have pw : ∀ {i : Nat} (hi : i < ws0.length), (Txt.partition (ws0[i]?.getD Str.empty) ".").1.length ≤ 500 ∧ (Txt.partition (ws0[i]?.getD Str.empty) ".").2.2.length ≤ 500 := fun {i} hi => by
    rw [List.getElem?_eq_getElem hi]
    have a := TT.part_len ws0[i] (y := ".") (by rw [TT.tl_dot]; simp)
    have b := wp _ (List.getElem_mem hi)
    exact ⟨Nat.le_trans a.1 b, Nat.le_trans a.2 b⟩
  have sD : SqL K H3 D ys := SqL.of hd3
  clear f3
  dsimp only [gName]
  refine seq_at ?_
  show tCons _ (tCons _ tNil) _ _ _
  refine cons_at ?_
  refine lc_at (n := ys.length) (item := _root_.G.nth ys) (fun _ => true) (fun i D y H' => y = optV (TT.num (Txt.partition (ws0[i]?.getD Str.empty) ".").1)) (line_big (by omega)) (fun P q => ⟨_, rfl, D, rfl, ⟨_, sD⟩, q _ _ (Ex.refl _) (its_l sD)⟩) (fun _ _ _ _ _ _ h => h) (fun _ _ _ _ _ _ h => h) ?_ ?_
  · intro i D4 H4 hi hD4 e4 _ Ny Nn hy _
    obtain ⟨t, et, st⟩ := dys i (by omega)
    rw [et]
    refine ⟨rfl, _, rfl, t, _, 0, _, rfl, rfl, Evl.ex_t e4 st, atI_nat (j := 0) rfl, ?_⟩
    exact ⟨_, rfl, _, rfl, Nat.le_trans (pw (i := i) (by omega)).1 (by decide), fun H5 e5 => hy _ _ rfl e5 rfl⟩
  intro Dh yh H4 hDh e4 hd4 f4
  rw [range_all] at f4
  refine cons_at ?_
  refine lc_at (n := ys.length) (item := _root_.G.nth ys) (fun _ => true) (fun i D y H' => y = optV (TT.num (Txt.partition (ws0[i]?.getD Str.empty) ".").2.2)) (line_big (by omega)) (fun P q => ⟨_, rfl, D, rfl, ⟨_, Evl.ex_l e4 sD⟩, q _ _ (Ex.refl _) (its_l (Evl.ex_l e4 sD))⟩) (fun _ _ _ _ _ _ h => h) (fun _ _ _ _ _ _ h => h) ?_ ?_
  · intro i D5 H5 hi hD5 e5 _ Ny Nn hy _
    obtain ⟨t, et, st⟩ := dys i (by omega)
    rw [et]
    refine ⟨rfl, _, rfl, t, _, 2, _, rfl, rfl, Evl.ex_t (e4.trans e5) st, atI_nat (j := 2) rfl, ?_⟩
    exact ⟨_, rfl, _, rfl, Nat.le_trans (pw (i := i) (by omega)).2 (by decide), fun H6 e6 => hy _ _ rfl e6 rfl⟩
  intro Dc yc H5 hDc e5 hd5 f5
  rw [range_all] at f5
  have all : ∀ {g : Str → Option Nat} {vs : List V} {H6 : Hp}, F2 (fun i y => y = optV (g (ws0[i]?.getD Str.empty))) (List.range ys.length) vs → Dqs K H6 vs (ws0.map fun w => optD (g w)) := fun {g vs H6} f => by
    rw [F2.map_eq f, ly, range_get ws0 fun w => optV (g w)]
    exact dqs_opt g ws0
  have qh : Dq K H5 (.ref Dh) (numsD (fun w => (Txt.partition w ".").1) ws0) := .lst (SqL.of (e5 _ _ hd4)) (all f4)
  have qc : Dq K H5 (.ref Dc) (numsD (fun w => (Txt.partition w ".").2.2) ws0) := .lst (SqL.of hd5) (all f5)
  have e05 := (((e1.trans e3).trans e4).trans e5)
  refine ⟨_, _, rfl, ?_⟩
  dsimp only
  refine seq_at ?_
  refine asg_at ?_
  have lh : ∀ g : Str → Str, lenD (some (numsD g ws0)) ≤ 100000 := fun g => by
    show (ws0.map fun w => optD (TT.num (g w))).length ≤ _
    rw [List.length_map]; omega
  refine cons_at ?_
  refine ⟨_, rfl, _, rfl, .str hd, .str _, fun z' e => by cases e; omega, fun no => ?_, fun z' m rs Fs s6 H6 e R e6 tr fresh => ?_⟩
  · intro d' H6 e6 hx
    refine ⟨exm3 T (.inl rfl), fun a ha => ⟨_, rfl, _, rfl, fun d2 H7 _ e7 hx7 => q1 ?_ d2 H7 ((e05.trans e6).trans e7) hx7⟩⟩
    rintro ⟨n, rs, ws, r⟩
    refine no hd rfl ⟨n, rs, ?_⟩
    rw [(rdz r).1.1]; exact r.1
  cases e
  have same : ∀ {n' rs' ws'}, RdS z n' rs' ws' → m = n' ∧ rs = rs' := fun {n' rs' ws'} r => R.one (by rw [(rdz r).1.1]; exact r.1)
  have e06 := e05.trans e6
  refine ⟨_, rfl, _, rfl, rfl, rfl, fun x dx hx hdx ne => ?_⟩
  have eX : Ex H6 (upd (upd H6 dx (.own x)) x (.ins (He.ga K "Store") dx [])) := fun b o e => by rw [upd_ne (ne_of_none e hx), upd_ne (ne_of_none e hdx)]; exact e
  refine ⟨_, _, _, _, rfl, H6, x, dx, s6, m, rs, Fs, some (numsD (fun w => (Txt.partition w ".").1) ws0), some (numsD (fun w => (Txt.partition w ".").2.2) ws0), rfl, eX, hx, upd_same, rfl, tr, qh.mono e6, lh _, qc.mono e6, lh _, ?_, ?_, ?_⟩
  · intro no d' H7 e7 hx7
    refine ⟨exm3 T (.inr (.inl rfl)), fun a ha => ⟨_, rfl, _, rfl, fun d2 H8 _ e8 hx8 => q1 ?_ d2 H8 ((e06.trans e7).trans e8) hx8⟩⟩
    rintro ⟨n', rs', ws', r⟩
    have z1 := (rdz r).2.1
    rw [← (same r).1, no] at z1; cases z1
  · intro _ no d' H7 e7 hx7
    refine ⟨exm3 T (.inr (.inr rfl)), fun a ha => ⟨_, rfl, _, rfl, fun d2 H8 _ e8 hx8 => q1 ?_ d2 H8 ((e06.trans e7).trans e8) hx8⟩⟩
    rintro ⟨n', rs', ws', r⟩
    have z1 := (rdz r).2.2.1
    rw [no] at z1; cases z1
  intro okh okc H7 e7 st
  refine ⟨rfl, ?_⟩
  obtain ⟨⟨dx7, t7, r1, r2, g7, _⟩, few, ok⟩ := id st
  have wsame : ∀ {n' rs' ws'}, RdS z n' rs' ws' → (homN (some (numsD (fun w => (Txt.partition w ".").1) ws0))).zip (celN (lenD (some (numsD (fun w => (Txt.partition w ".").1) ws0))) (some (numsD (fun w => (Txt.partition w ".").2.2) ws0))) = ws' := fun r => (rdz r).2.2.2
  generalize (homN (some (numsD (fun w => (Txt.partition w ".").1) ws0))).zip (celN (lenD (some (numsD (fun w => (Txt.partition w ".").1) ws0))) (some (numsD (fun w => (Txt.partition w ".").2.2) ws0))) = wsx at *
  dsimp only [gName]
  refine seq_at (ifs_at (test_at ?_))
  refine ⟨_, rfl, x, dx7, _, rfl, g7, rfl, ?_⟩
  refine ⟨_, rfl, x, m, rs, Fs, wsx, rfl, st, fun H8 e8 => ?_⟩
  refine ⟨_, rfl, rfl, _, rfl, ?_⟩
  by_cases c : TT.sline m rs wsx = z
  · rw [c, decide_eq_true rfl]
    refine iteF ?_
    dsimp only [tNext]
    refine ret_at ⟨_, rfl, ?_⟩
    refine q2 m rs wsx Fs x H8 ⟨?_, few, ok, c.symm⟩ ((e06.trans e7).trans e8) (st.mono e8) (Evl.fresh_back e06 hx)
    rw [← R.line]; exact R
  · rw [decide_eq_false (show V.str (TT.sline m rs wsx) ≠ V.str z from fun z => c (V.str.inj z))]
    refine iteT ?_
    refine ⟨_, rfl, _, rfl, fun d2 H9 _ e9 hx9 => q1 ?_ d2 H9 (((e06.trans e7).trans e8).trans e9) hx9⟩
    rintro ⟨n', rs', ws', r⟩
    obtain ⟨rfl, rfl⟩ := same r
    refine c ?_
    rw [wsame r]; exact r.2.2.2.symm
end

end T1

namespace T1
open PySem PySem.Spec PyProof.Rows L2 G
open Evl (Ex)
local macro_rules | `(tactic| walk_at "dd") => `(tactic| (dsimp only [tCB, tCons, tNil, tC, tOp, tUn, tTest, tB, tVar, tAndV, tOrV, tNotV, tIf, tAnd, tOr, tNot, tSeq, tRet, tRetN, tIfS, tAsg, gName, tDrop, tTup, tLst, tChain, tNext, tCall, L2.start]))
def edge (x y : Nat) : Nat × Nat := if x ≤ y then (x, y) else (y, x)
/-- a tree grown house by house: the k-th of ns hangs at an earlier one -/
def Grown (n : Nat) (rs : List (Nat × Nat)) : Prop := ∃ (ns : List Nat) (b : Nat → Nat), ns.Perm (List.range n) ∧ (∀ k, 1 ≤ k → k < n → b k < k) ∧ rs.Perm ((List.range (n - 1)).map fun k => edge (ns[k + 1]?.getD 0) (ns[b (k + 1)]?.getD 0))
def ltN (p q : Nat × Nat) : Bool := ltR ((p.1 : Int), (p.2 : Int)) ((q.1 : Int), (q.2 : Int))
structure WorldOk (n : Nat) (rs : List (Nat × Nat)) : Prop where
  n1 : 1 ≤ n
  n16 : n ≤ 16
  gr : Grown n rs
  as : rs.Pairwise fun p q => ltN q p = false
/-- a world stands at w, both lists made here (none of them in B) -/
structure WorldAt (K : PySem.W.Frag) (H : Hp) (w : V) (n : Nat) (rs : List (Nat × Nat)) : Prop where
  at_ : ∃ a s ts, w = .ref a ∧ H a = some (.lst [iV n, .ref s]) ∧ H s = some (.lst ts) ∧ F2 (fun p v => ∃ t, v = V.ref t ∧ H t = some (.tup [iV p.1, iV p.2])) rs ts
  ok : WorldOk n rs
theorem WorldAt.mono {K : PySem.W.Frag} {H H' : Hp} {w : V} {n : Nat} {rs} (e : Ex H H') (h : WorldAt K H w n rs) : WorldAt K H' w n rs :=
  let ⟨a, s, ts, h1, h2, h3, h4⟩ := h.at_; ⟨⟨a, s, ts, h1, e _ _ h2, e _ _ h3, h4.imp fun _ _ ⟨t, a, b⟩ => ⟨t, a, e _ _ b⟩⟩, h.ok⟩
/-- the pair p stands at v -/
def TP (H : Hp) (p : Nat × Nat) (v : V) : Prop := ∃ t, v = .ref t ∧ H t = some (.tup [iV p.1, iV p.2])
theorem TP.mono {H H' : Hp} {p : Nat × Nat} {v : V} (e : Ex H H') (h : TP H p v) : TP H' p v := let ⟨t, a, b⟩ := h; ⟨t, a, e _ _ b⟩
theorem TP.updL {H : Hp} {p : Nat × Nat} {v : V} {B : Addr} {ys zs : List V} (hB : H B = some (.lst ys)) (h : TP H p v) : TP (upd H B (.lst zs)) p v :=
  let ⟨t, a, b⟩ := h; ⟨t, a, by rw [upd_ne (ne_of b hB (by intro z; cases z))]; exact b⟩
theorem TP.take {H H' : Hp} {A : Addr} {l : List V} {p : Nat × Nat} {v : V} (hA : H A = some (.lst l)) (e : Ex (L2.del H A) H') (h : TP H p v) : TP H' p v :=
  let ⟨t, a, b⟩ := h; ⟨t, a, del_get e (ne_of b hA (by intro z; cases z)) b⟩
theorem sort2 {ns : List Int} {x y : Nat} (p : ns.Perm [(x : Int), (y : Int)]) (s : ns.Pairwise (· ≤ ·)) : ns = [((edge x y).1 : Int), ((edge x y).2 : Int)] := by
  refine sort_unique (p.trans ?_) s ?_
  · unfold edge; split
    · exact .refl _
    · exact List.Perm.swap ..
  · unfold edge; split
    · simp; omega
    · simp; omega
theorem range_snoc_map {α : Type} (f : Nat → α) (k : Nat) : (List.range (k + 1)).map f = (List.range k).map f ++ [f k] := by rw [List.range_succ, List.map_append]; rfl
theorem tp_all {H : Hp} {kf : V → Int × Int} (tpk : ∀ {p : Nat × Nat} {v : V}, TP H p v → kf v = ((p.1 : Int), (p.2 : Int))) : ∀ ys : List V, (∀ v ∈ ys, ∃ p, TP H p v) → F2 (TP H) (ys.map fun v => rdN (kf v)) ys
  | [], _ => .nil
  | v :: ys, h => by
    refine .cons ?_ (tp_all tpk ys fun u hu => h u (List.mem_cons_of_mem _ hu))
    obtain ⟨p, hp⟩ := h v List.mem_cons_self
    show TP H (rdN (kf v)) v
    rw [tpk hp]
    exact hp
theorem tp_dqs {K : PySem.W.Frag} {H : Hp} : ∀ {rs : List (Nat × Nat)} {ys : List V}, F2 (TP H) rs ys → Dqs K H ys (rs.map pairD)
  | _, _, .nil => .nil
  | _, _, .cons ⟨t, e, z⟩ h => .cons (e ▸ .tup (SqT.of z) (.cons (.int _) (.cons (.int _) .nil))) (tp_dqs h)
theorem ity_s {J : It} {B : Hp} {n : Nat} {item : Nat → V} (S : ItS J B n item) : ItY J B n (fun i H' v H'' => v = item i ∧ H'' = H') where
  go := S.go
  yl := S.yl
  st := S.st
theorem TP.new {H : Hp} {l : Addr} {o : HO} {p : Nat × Nat} {v : V} (hl : H l = none) (h : TP H p v) : TP (upd H l o) p v := h.mono (Evl.Ex.new hl)
def sp__law_tree (K : PySem.W.Frag) : Sp := sp1 fun a H Q E => ∃ (A : Addr) (c : Nat), a = .ref A ∧ c ≤ 900000 ∧ BoxAt H A c ∧ ∀ w n rs H', Ex (L2.del H A) H' → BoxAt H' A (c + 40) → WorldAt K H' w n rs → (∀ B l, H B = some (.lst l) → WorldAt K (L2.del H' B) w n rs) → Q w H'
section
variable {K : PySem.W.Frag} {mg : Str → Option Value} {P : Program} {w : World} {base : Heap}
theorem ok__law_tree (T : Tx K mg) : Cal P w K mg base CX0 3 "_law_tree" ["_law_box_here"] (sp__law_tree K) := by
  refine cal_of (fD__law_tree T) (T.glo 31 rfl) sc__law_tree (fun _ _ _ _ _ _ us hl => match us, hl with | [_], _ => rfl) (fun vs H Q E h => len1 h) (fun f cdv A outer s H vs Q E hr h => ?_)
  obtain ⟨a, rfl, h⟩ := h
  refine ⟨_, (PSs.nox (pss_cons (ps_set (i := 1) sc__law_tree.nd rfl (Or.inl rfl) (pe_ix (ix_listK (K := K)) (pe_lst (pa_cons pe_int (pa_cons pe_int (pa_cons pe_int (pa_cons pe_int (pa_cons pe_int (pa_cons pe_int (pa_cons pe_int (pa_cons pe_int pa_nil))))))))) (pe_c (ok__law_take T) (hr.mono (by decide)) rfl pass0 (pa_cons (pv 0) (pa_cons pe_int pa_nil))) (fun _ _ => rfl)))
      (pss_cons (ps_set (i := 2) sc__law_tree.nd rfl (Or.inr rfl) (pe_c (ok__law_take T) (hr.mono (by decide)) rfl pass0 (pa_cons (pv 0) (pa_cons pe_int pa_nil))))
      (pss_cons (ps_setLc (i := 3) (own := [("_law_k", 5)]) rfl sc__law_tree.nd rfl rfl (sw_true rfl rfl rfl (by decide +kernel)) (pi_range2 (by rfl) (T.free 11 rfl) (pa_cons pe_int (pa_cons (pv 1) pa_nil))) (blkOk_by (own := [("_law_k", 5)]) (N := ["_law_box_here", "_law_houses", "_law_kind", "_law_pairs", "_law_names", "_law_k", "_law_a", "_law_b"]) (sc := defScope st__law_tree) (by decide +kernel)) (fun _ _ _ _ _ => (pg_name (i := 5) sc__law_tree.nd rfl (Or.inl rfl))) (fun _ _ _ _ _ => pts_nil) (fun _ _ _ _ _ => (pe_tup (pa_cons (pv 5) (pa_cons (pe_ix (ix_listK (K := K)) (pe_lst (pa_cons (pe_op op_sub (pv 5) pe_int) (pa_cons pe_int (pa_cons (pe_c (ok__law_take T) (hr.mono (by decide)) rfl pass0 (pa_cons (pv 0) (pa_cons (pv 5) pa_nil))) pa_nil)))) (pv 2) (fun _ _ => rfl)) pa_nil)))))
      (pss_cons (ps_set (i := 4) sc__law_tree.nd rfl (Or.inr rfl) (pe_c (ok__law_mixed T) (hr.mono (by decide)) rfl pass0 (pa_cons (pv 0) (pa_cons (pe_listRg rfl rfl (T.free 8 rfl) (prg_1 rfl (T.free 11 rfl) (pv 1))) pa_nil))))
      (pss_one (ps_ret (pe_lst (pa_cons (pv 1) (pa_cons (pe_callB (cr_sortedPOK (K := K)) (by rfl) (T.free 14 rfl) (by decide +kernel) (pa_cons (pe_lc (own := [("_law_a", 6), ("_law_b", 7)]) rfl sc__law_tree.nd (pi_list (pv 3)) (blkOk_by (own := [("_law_a", 6), ("_law_b", 7)]) (N := ["_law_box_here", "_law_houses", "_law_kind", "_law_pairs", "_law_names", "_law_k", "_law_a", "_law_b"]) (sc := defScope st__law_tree) (by decide +kernel)) (fun _ _ _ _ _ => (pg_tupK (K := K) (n := 2) rfl (pgs_cons (pg_name (i := 6) sc__law_tree.nd rfl (Or.inl rfl) (.inr rfl)) (pgs_cons (pg_name (i := 7) sc__law_tree.nd rfl (Or.inl rfl) (.inr rfl)) pgs_nil)))) (fun _ _ _ _ _ => pts_nil) (fun _ _ _ _ _ => (pe_callTy (call_tupK (K := K)) (by rfl) (T.free 17 rfl) (by decide +kernel) (pa_cons (pe_callB (cr_sortedIK (K := K)) (by rfl) (T.free 14 rfl) (by decide +kernel) (pa_cons (pe_lst (pa_cons (pe_ix (ix_listK (K := K)) (pv 4) (pv 6) (fun _ _ => rfl)) (pa_cons (pe_ix (ix_listK (K := K)) (pv 4) (pv 7) (fun _ _ => rfl)) pa_nil))) pa_nil)) pa_nil)))) pa_nil)) pa_nil)))))))))), ?_⟩
  obtain ⟨A, c, rfl, c9, hb, q⟩ := h
  refine seq_at (asg_at ?_)
  refine ⟨(by show 8 ≤ sizeLine; decide), fun l hl => ?_⟩
  have el := Evl.Ex.new (o := .lst [V.int 3, V.int 2, V.int 5, V.int 1, V.int 16, V.int 4, V.int 9, V.int 13]) hl
  obtain ⟨l0, hA⟩ := hb.some
  have lA : l ≠ A := fun z => by rw [z, hA] at hl; cases hl
  refine ⟨_, rfl, _, _, rfl, A, 8, c, rfl, rfl, by decide, by decide, by omega, hb.mono el, fun w1 H1 hw e1 hb1 => ?_⟩
  obtain ⟨m, hm, m1, m2⟩ : ∃ m : Nat, [V.int 3, V.int 2, V.int 5, V.int 1, V.int 16, V.int 4, V.int 9, V.int 13][w1]? = some (iV m) ∧ 1 ≤ m ∧ m ≤ 16 := by
    match w1, hw with
    | 0, _ => exact ⟨3, rfl, by decide, by decide⟩
    | 1, _ => exact ⟨2, rfl, by decide, by decide⟩
    | 2, _ => exact ⟨5, rfl, by decide, by decide⟩
    | 3, _ => exact ⟨1, rfl, by decide, by decide⟩
    | 4, _ => exact ⟨16, rfl, by decide, by decide⟩
    | 5, _ => exact ⟨4, rfl, by decide, by decide⟩
    | 6, _ => exact ⟨9, rfl, by decide, by decide⟩
    | 7, _ => exact ⟨13, rfl, by decide, by decide⟩
  have e01 : Ex (L2.del H A) H1 := fun b o z => e1 b o (by
    have ne : b ≠ A := fun y => by rw [y, del_same] at z; cases z
    rw [del_ne ne] at z ⊢
    exact el b o z)
  refine ⟨l, _, _, _, rfl, rfl, SqL.of (e1 _ _ (by rw [del_ne lA]; exact upd_same)), atI_nat hm, ?_⟩
  dsimp only [gName]
  refine seq_at (asg_at ?_)
  refine ⟨_, rfl, _, _, rfl, A, 3, c + 1, rfl, rfl, by decide, by decide, by omega, hb1, fun kd H2 hkd e2 hb2 => ?_⟩
  have e02 := ex_of_del e01 del_same e2
  dsimp only [gName]
  refine seq_at (asg_at ?_)
  refine lc_invY (B := L2.del H A) (n := m - 1) (Y := fun i H' v H'' => v = .int (1 + i) ∧ H'' = H') (fun P q => ⟨_, rfl, 1, m, rfl, ⟨by decide, by decide, by omega, by omega⟩, (by rw [show ((m : Int) - 1).toNat = m - 1 by omega]; exact q _ _ (Evl.Ex.refl _) (ity_s (its_r 1 (m - 1))))⟩)
    (fun D k H' => ∃ (b : Nat → Nat) (ts : List V), D ≠ A ∧ L2.del H A D = none ∧ Ex (L2.del H A) H' ∧ BoxAt H' A (c + 2 + k) ∧ H' D = some (.lst ts) ∧ (∀ j, 1 ≤ j → j ≤ k → b j < j) ∧ F2 (TP H') ((List.range k).map fun j => (j + 1, b (j + 1))) ts) ?_ ?_ ?_ ?_
  · intro D H3 e3 hD
    obtain ⟨l3, hA3⟩ := (hb2.mono e3).some
    have DA : D ≠ A := fun z => by rw [z, hA3] at hD; cases hD
    have Dd := Evl.fresh_back (e02.trans e3) hD
    exact ⟨fun _ => 0, [], DA, Dd, Evl.Ex.mut (e02.trans e3) Dd, (hb2.mono e3).mono (Evl.Ex.new hD), upd_same, by omega, .nil⟩
  · rintro D k H' ⟨_, _, _, _, e, _⟩; exact e
  · rintro D k x H' _ hk ⟨b, ts, DA, Dd, e, hbx, hDx, hbj, tp⟩ ⟨rfl, rfl⟩
    have ek : (1 : Int) + (k : Int) = ((k + 1 : Nat) : Int) := by omega
    rw [ek]
    have tl : ts.length = k := by rw [← tp.length, List.length_map, List.length_range]
    obtain ⟨lx, hlx⟩ := hbx.some
    refine ⟨rfl, ?_⟩
    refine ⟨_, rfl, _, rfl, _, _, rfl, rfl, _, rfl, _, rfl, _, _, rfl, A, k + 1, c + 2 + k, rfl, rfl, by omega, by omega, by omega, hbx, fun i H7 hi e7 hb7 => ⟨(by show 3 ≤ sizeLine; decide), fun l7 hl7 => ?_⟩⟩
    have el7 := Evl.Ex.new (o := .lst [V.int (((k + 1 : Nat) : Int) - 1), V.int 0, V.int (i : Int)]) hl7
    obtain ⟨bk, hbk, lbk⟩ : ∃ bk : Nat, [V.int (((k + 1 : Nat) : Int) - 1), V.int 0, V.int (i : Int)][kd]? = some (iV bk) ∧ bk < k + 1 := by
      match kd, hkd with
      | 0, _ => exact ⟨k, by show some (V.int (((k + 1 : Nat) : Int) - 1)) = some (V.int (k : Int)); rw [show (((k + 1 : Nat) : Int) - 1) = (k : Int) by omega], by omega⟩
      | 1, _ => exact ⟨0, rfl, by omega⟩
      | 2, _ => exact ⟨i, rfl, hi⟩
    refine ⟨_, rfl, l7, _, _, _, rfl, rfl, SqL.of upd_same, atI_nat hbk, (by show 2 ≤ sizeLine; decide), fun t ht => ?_⟩
    have et := Evl.Ex.new (o := .tup [V.int ((k + 1 : Nat) : Int), iV bk]) ht
    have e8 := ((ex_of_del e del_same e7).trans el7).trans et
    have hD7 := del_get e7 DA hDx
    have hD8 := (el7.trans et) _ _ hD7
    refine ⟨ts, hD8, line_big (by omega), fun j => if j = k + 1 then bk else b j, ts ++ [.ref t], DA, Dd, Evl.Ex.mut e8 Dd, ?_, upd_same, ?_, ?_⟩
    · obtain ⟨x0, b0, y0, k0, z, r⟩ := (hb7.mono el7).mono et
      refine ⟨x0, b0, y0, k0, by rw [upd_ne DA.symm]; exact z, ?_⟩
      obtain ⟨r1, r2, r3, r4, r5⟩ := r
      exact ⟨r1, r2, r3, r4, by omega⟩
    · intro j j1 jk
      show (if j = k + 1 then bk else b j) < j
      by_cases c : j = k + 1
      · rw [if_pos c]; omega
      · rw [if_neg c]; exact hbj j j1 (by omega)
    · rw [range_snoc_map]
      have em : (List.range k).map (fun j => (j + 1, if j + 1 = k + 1 then bk else b (j + 1))) = (List.range k).map fun j => (j + 1, b (j + 1)) :=
        List.map_congr_left fun j hj => by rw [if_neg (by have := List.mem_range.mp hj; omega)]
      rw [em]
      refine F2.snoc ?_ (tp.imp fun _ _ z => ((z.take hlx e7).mono (el7.trans et)).updL hD8)
      show TP _ (k + 1, if k + 1 = k + 1 then bk else b (k + 1)) _
      rw [if_pos rfl]
      exact TP.updL hD8 ⟨t, rfl, upd_same⟩
  rintro D H3 ⟨b, ts, DA, Dd, e3, hb3, hD3, hbj, tp⟩
  obtain ⟨lx3, hlx3⟩ := hb3.some
  have tl3 : ts.length = m - 1 := by rw [← tp.length, List.length_map, List.length_range]
  dsimp only [gName]
  refine seq_at (asg_at ?_)
  refine ⟨_, rfl, _, rfl, m, rfl, ⟨by decide, by decide, by omega, by omega, by omega⟩, fun p hp => ⟨_, _, rfl, A, p, List.range m, c + 2 + (m - 1), rfl, rfl, SqL.of (by rw [upd_same, rgV_nat]; rfl), by rw [List.length_range]; omega, by rw [List.length_range]; omega, hb3.mono (Evl.Ex.new hp), fun f ms H5 pm hf e5 hms hb5 => ?_⟩⟩
  have ep := Evl.Ex.new (o := .lst (rgV 0 (m : Int))) hp
  have e05 := ex_of_del (e3.trans ep) del_same e5
  rw [List.length_range] at hb5
  have ml : ms.length = m := by rw [pm.length_eq, List.length_range]
  have hD5 := del_get e5 DA (ep _ _ hD3)
  have tp5 : F2 (TP H5) ((List.range (m - 1)).map fun j => (j + 1, b (j + 1))) ts := tp.imp fun _ _ z => (z.mono ep).take (ep _ _ hlx3) e5
  obtain ⟨l5, hl5⟩ := hb5.some
  dsimp only [gName]
  refine ret_at ?_
  refine ⟨_, rfl, ?_⟩
  refine cons_at (cb_at ?_)
  refine lc_at (n := m - 1) (item := _root_.G.nth ts) (fun _ => true) (fun i D y H' => ∃ t, y = .ref t ∧ t ≠ D ∧ H' t = some (.tup [iV (edge (ms[i + 1]?.getD 0) (ms[b (i + 1)]?.getD 0)).1, iV (edge (ms[i + 1]?.getD 0) (ms[b (i + 1)]?.getD 0)).2])) (line_big (by omega))
    (fun P q => ⟨_, rfl, D, rfl, ⟨_, SqL.of hD5⟩, q _ _ (Ex.refl _) (tl3 ▸ its_l (SqL.of hD5))⟩) (fun i D y H' o _ ⟨t, e, ne, z⟩ => ⟨t, e, ne, by rw [upd_ne ne]; exact z⟩) (fun i D y H' H'' ex ⟨t, e, ne, z⟩ => ⟨t, e, ne, ex _ _ z⟩) ?_ ?_
  · intro i D6 H6 hi hD6 e6 ⟨ac, hac⟩ Ny Nn hy _
    obtain ⟨v, hv, t, rfl, ht⟩ := F2.get tp5 (i := i) (a := (i + 1, b (i + 1))) (by rw [List.getElem?_map, List.getElem?_range hi]; rfl)
    have nt : _root_.G.nth ts i = .ref t := by unfold _root_.G.nth; rw [hv]; rfl
    rw [nt]
    have lbk := hbj (i + 1) (by omega) (by omega)
    obtain ⟨x, hx⟩ : ∃ x, ms[i + 1]? = some x := ⟨_, List.getElem?_eq_getElem (by omega)⟩
    obtain ⟨y, hy'⟩ : ∃ y, ms[b (i + 1)]? = some y := ⟨_, List.getElem?_eq_getElem (by omega)⟩
    have gx : (ms.map iV)[i + 1]? = some (iV x) := by rw [List.getElem?_map, hx]; rfl
    have gy : (ms.map iV)[b (i + 1)]? = some (iV y) := by rw [List.getElem?_map, hy']; rfl
    have hf6 := e6 _ _ hms
    refine ⟨t, _, rfl, SqT.of (e6 _ _ ht), rfl, _, _, rfl, _, _, rfl, rfl, rfl, ?_⟩
    refine ⟨_, rfl, _, rfl, f, _, _, _, rfl, rfl, SqL.of hf6, atI_nat gx, _, rfl, _, rfl, f, _, _, _, rfl, rfl, SqL.of hf6, atI_nat gy, (by show 2 ≤ sizeLine; decide), fun l hl => ⟨l, [(x : Int), (y : Int)], rfl, SqL.of upd_same, fun ns' q0 pn sn hq => ⟨q0, _, rfl, .inl ⟨SqL.of upd_same, fun u hu => ?_⟩⟩⟩⟩
    rw [sort2 pn sn] at hu ⊢
    have e7 := ((Evl.Ex.new (o := .lst [iV x, iV y]) hl).trans (Evl.Ex.new (o := .lst ([((edge x y).1 : Int), ((edge x y).2 : Int)].map V.int)) hq))
    refine hy _ _ rfl (e7.trans (Evl.Ex.new hu)) ⟨u, rfl, fun z => ?_, ?_⟩
    · rw [z, e7 _ _ hac] at hu; cases hu
    · rw [hx, hy']; exact upd_same
  intro P ts2 H' hP e6 hPx f6
  rw [range_all] at f6
  have tp2 : F2 (TP H') ((List.range (m - 1)).map fun j => edge (ms[j + 1]?.getD 0) (ms[b (j + 1)]?.getD 0)) ts2 := by
    have g : ∀ {is : List Nat} {vs : List V}, F2 (fun i y => ∃ t, y = V.ref t ∧ t ≠ P ∧ H' t = some (.tup [iV (edge (ms[i + 1]?.getD 0) (ms[b (i + 1)]?.getD 0)).1, iV (edge (ms[i + 1]?.getD 0) (ms[b (i + 1)]?.getD 0)).2])) is vs → F2 (TP H') (is.map fun j => edge (ms[j + 1]?.getD 0) (ms[b (j + 1)]?.getD 0)) vs := fun f => by
      induction f with
      | nil => exact .nil
      | cons h _ ih => obtain ⟨t, e, _, z⟩ := h; exact .cons ⟨t, e, z⟩ ih
    exact g f6
  have e := e05.trans e6
  have hbx := hb5.mono e6
  clear tp tp5 hD3 hD5 f6
  have tp := tp2
  have kT : ∀ {t : Addr} {i j : Int}, H' t = some (.tup [.int i, .int j]) → (fun v : V => match v with | .ref t => (match H' t with | some (.tup [.int i, .int j]) => (i, j) | _ => (0, 0)) | _ => ((0, 0) : Int × Int)) (.ref t) = (i, j) := fun h => by simp only [h]
  generalize (fun v : V => match v with | .ref t => (match H' t with | some (.tup [.int i, .int j]) => (i, j) | _ => (0, 0)) | _ => ((0, 0) : Int × Int)) = kf at kT
  have tpk : ∀ {p : Nat × Nat} {v : V}, TP H' p v → kf v = ((p.1 : Int), (p.2 : Int)) := fun h => by obtain ⟨t, rfl, z⟩ := h; exact kT z
  have gm : ∀ {ps : List (Nat × Nat)} {vs : List V}, F2 (TP H') ps vs → (∀ v ∈ vs, ∃ p, TP H' p v) ∧ vs.map (fun v => rdN (kf v)) = ps := by
    intro ps vs h
    induction h with
    | nil => exact ⟨by simp, rfl⟩
    | cons h _ ih =>
      refine ⟨fun v hv => ?_, ?_⟩
      · rcases (List.mem_cons.mp hv) with rfl | hv
        · exact ⟨_, h⟩
        · exact ih.1 v hv
      · rw [List.map_cons, ih.2, tpk h]; rfl
  obtain ⟨g1, g2⟩ := gm tp
  refine ⟨P, ts2, kf, rfl, SqL.of hPx, fun v hv => ?_, fun ys q0 hs hst hq => ?_⟩
  · obtain ⟨p, hp⟩ := g1 v hv
    have z := tpk hp
    obtain ⟨t, rfl, ht⟩ := hp
    exact ⟨t, rfl, by rw [z]; exact ht⟩
  refine ⟨(by show 2 ≤ sizeLine; decide), fun w hw => ?_⟩
  have ey := (Evl.Ex.new (o := .lst ys) hq).trans (Evl.Ex.new (o := .lst [iV m, .ref q0]) hw)
  have all : ∀ v ∈ ys, ∃ p, TP H' p v := fun v hv => g1 v (hst.perm.mem_iff.mp hv)
  have tps := tp_all tpk ys all
  have ok : WorldOk m (ys.map fun v => rdN (kf v)) := by
    refine ⟨m1, m2, ⟨ms, b, pm, fun k k1 km => hbj k k1 (by omega), ?_⟩, ?_⟩
    · rw [← g2]; exact hst.perm.map _
    · rw [List.pairwise_map]
      refine hs.imp_of_mem fun {x y} hx hy z => ?_
      obtain ⟨p, hp⟩ := g1 x (hst.perm.mem_iff.mp hx)
      obtain ⟨p', hp'⟩ := g1 y (hst.perm.mem_iff.mp hy)
      have z' : SrtO.lexB (kf y) (kf x) = false := z
      rw [tpk hp, tpk hp'] at z'
      rw [tpk hp, tpk hp']
      have no := SrtO.lexB_no.mp z'
      unfold ltN ltR rdN
      simp only [Int.toNat_natCast, Bool.or_eq_false_iff, Bool.and_eq_false_iff, decide_eq_false_iff_not] at no ⊢
      omega
  refine q (.ref w) m (ys.map fun v => rdN (kf v)) _ (e.trans ey) ((hbx.mono ey).up (by omega)) ⟨⟨w, q0, ys, rfl, upd_same, Evl.Ex.new hw _ _ upd_same, tps.imp fun _ _ z => z.mono ey⟩, ok⟩ fun B l hB => ⟨⟨w, q0, ys, rfl, ?_, ?_, tps.imp fun _ _ ⟨t, z1, z2⟩ => ⟨t, z1, ?_⟩⟩, ok⟩
  all_goals
    obtain ⟨l', hB'⟩ : ∃ l', H' B = some (.lst l') := by
      by_cases z : B = A
      · obtain ⟨l', z'⟩ := hbx.some
        exact ⟨l', by rw [z]; exact z'⟩
      · exact ⟨l, e B _ (by rw [del_ne z]; exact hB)⟩
  · rw [del_ne (fun z => by rw [z, Evl.Ex.new hq _ _ hB'] at hw; cases hw)]; exact upd_same
  · rw [del_ne (fun z => by rw [z, hB'] at hq; cases hq)]; exact Evl.Ex.new hw _ _ upd_same
  · rw [del_ne (fun z => by rw [z, hB'] at z2; cases z2)]; exact ey _ _ z2
end

end T1

namespace T1
open PySem PySem.Spec PyProof.Rows L2 G
open Evl (Ex)
local macro_rules | `(tactic| walk_at "dd") => `(tactic| (dsimp only [tCB, tCons, tNil, tC, tOp, tUn, tTest, tB, tVar, tAndV, tOrV, tNotV, tIf, tAnd, tOr, tNot, tSeq, tRet, tRetN, tIfS, tAsg, gName, tDrop, tTup, tLst, tChain, tNext, tCall, L2.start]))
open M (at_)
theorem nbs_at {rs : List (Nat × Nat)} {n a x : Nat} (h : x ∈ M.at_ (nbs n rs) a) : a < n ∧ x < n ∧ adj rs a x = true := by
  unfold M.at_ nbs at h
  rw [List.getElem?_map] at h
  by_cases c : a < n
  · rw [List.getElem?_range c] at h
    have h' : x ∈ nb rs n a := h
    unfold nb at h'
    rw [List.mem_filter, List.mem_range] at h'
    exact ⟨c, h'⟩
  · rw [List.getElem?_eq_none (by rw [List.length_range]; omega)] at h
    cases h
theorem mem_nbs {rs : List (Nat × Nat)} {n a x : Nat} : x ∈ at_ (nbs n rs) a ↔ a < n ∧ x < n ∧ adj rs a x = true := by
  refine ⟨nbs_at, fun ⟨h1, h2, h3⟩ => ?_⟩
  unfold M.at_ nbs
  rw [List.getElem?_map, List.getElem?_range h1]
  show x ∈ nb rs n a
  unfold nb
  rw [List.mem_filter, List.mem_range]
  exact ⟨h2, h3⟩
theorem adj_sym {rs : List (Nat × Nat)} {a x : Nat} (h : adj rs a x = true) : adj rs x a = true := by
  unfold adj at *
  rw [Bool.or_comm]; exact h
structure TreeG (n : Nat) (rs : List (Nat × Nat)) : Prop where
  sym : ∀ a b, b ∈ at_ (nbs n rs) a → a ∈ at_ (nbs n rs) b
  one : M.OneWay (nbs n rs)
  con : ∀ x y, x < n → y < n → ∃ p, M.Path (nbs n rs) x y p
theorem edge_mem {x y u v : Nat} : edge x y = (u, v) ∨ edge x y = (v, u) ↔ (x = u ∧ y = v) ∨ (x = v ∧ y = u) := by
  unfold edge
  split <;> simp only [Prod.mk.injEq] <;> omega
theorem grown_adj {n : Nat} {rs : List (Nat × Nat)} {ns : List Nat} {b : Nat → Nat} (pe : rs.Perm ((List.range (n - 1)).map fun k => edge (ns[k + 1]?.getD 0) (ns[b (k + 1)]?.getD 0))) {u v : Nat} :
    adj rs u v = true ↔ ∃ k, k + 1 < n ∧ ((ns[k + 1]?.getD 0 = u ∧ ns[b (k + 1)]?.getD 0 = v) ∨ (ns[k + 1]?.getD 0 = v ∧ ns[b (k + 1)]?.getD 0 = u)) := by
  unfold adj
  rw [Bool.or_eq_true, List.contains_iff_mem, List.contains_iff_mem, pe.mem_iff, pe.mem_iff, List.mem_map, List.mem_map]
  constructor
  · rintro (⟨k, hk, e⟩ | ⟨k, hk, e⟩)
    · exact ⟨k, by have := List.mem_range.mp hk; omega, edge_mem.mp (.inl e)⟩
    · exact ⟨k, by have := List.mem_range.mp hk; omega, edge_mem.mp (.inr e)⟩
  · rintro ⟨k, hk, e⟩
    rcases edge_mem.mpr e with e | e
    · exact .inl ⟨k, List.mem_range.mpr (by omega), e⟩
    · exact .inr ⟨k, List.mem_range.mpr (by omega), e⟩
theorem TreeG.of {n : Nat} {rs : List (Nat × Nat)} (g : Grown n rs) : TreeG n rs := by
  obtain ⟨ns, b, pm, hb, pe⟩ := g
  have nd : ns.Nodup := pm.nodup_iff.mpr List.nodup_range
  have ln : ns.length = n := by rw [pm.length_eq, List.length_range]
  have at_k : ∀ k, k < n → ns[k]? = some (ns[k]?.getD 0) := fun k hk => by rw [List.getElem?_eq_getElem (by omega)]; rfl
  have rank : ∀ k, k < n → ns.idxOf (ns[k]?.getD 0) = k := fun k hk => by
    have hk' : k < ns.length := by omega
    rw [List.getElem?_eq_getElem hk']
    exact nd.idxOf_getElem k hk'
  have ed : ∀ {u v}, v ∈ at_ (nbs n rs) u → ∃ k, k + 1 < n ∧ b (k + 1) < k + 1 ∧ ((ns[k + 1]?.getD 0 = u ∧ ns[b (k + 1)]?.getD 0 = v ∧ ns.idxOf u = k + 1 ∧ ns.idxOf v = b (k + 1)) ∨ (ns[k + 1]?.getD 0 = v ∧ ns[b (k + 1)]?.getD 0 = u ∧ ns.idxOf v = k + 1 ∧ ns.idxOf u = b (k + 1))) := fun {u v} h => by
    obtain ⟨k, hk, e⟩ := (grown_adj pe).mp (mem_nbs.mp h).2.2
    have lb := hb (k + 1) (by omega) hk
    have r1 := rank (k + 1) hk
    have r2 := rank (b (k + 1)) (by omega)
    refine ⟨k, hk, lb, ?_⟩
    rcases e with ⟨e1, e2⟩ | ⟨e1, e2⟩
    · rw [e1] at r1; rw [e2] at r2; exact .inl ⟨e1, e2, r1, r2⟩
    · rw [e1] at r1; rw [e2] at r2; exact .inr ⟨e1, e2, r1, r2⟩
  have sym : ∀ a c, c ∈ at_ (nbs n rs) a → a ∈ at_ (nbs n rs) c := fun a c h => by
    obtain ⟨h1, h2, h3⟩ := mem_nbs.mp h
    exact mem_nbs.mpr ⟨h2, h1, adj_sym h3⟩
  have R : M.Ranked (nbs n rs) ns.idxOf := by
    refine ⟨sym, fun a c h => ?_, fun a c d h1 h2 l1 l2 => ?_⟩
    · obtain ⟨k, _, _, ⟨_, _, e1, e2⟩ | ⟨_, _, e1, e2⟩⟩ := ed h <;> omega
    · obtain ⟨k, _, _, ⟨p1, p2, e1, e2⟩ | ⟨_, _, e1, e2⟩⟩ := ed h1
      · obtain ⟨k', _, _, ⟨q1, q2, f1, f2⟩ | ⟨_, _, f1, f2⟩⟩ := ed h2
        · have : k = k' := by omega
          subst this
          exact p2.symm.trans q2
        · omega
      · omega
  have mem_n : ∀ x, x < n → ∃ k, k < n ∧ ns[k]?.getD 0 = x := fun x hx => by
    obtain ⟨k, hk, e⟩ := List.getElem_of_mem (pm.mem_iff.mpr (List.mem_range.mpr hx))
    exact ⟨k, by omega, by rw [List.getElem?_eq_getElem hk, e]; rfl⟩
  have lt_n : ∀ k, k < n → ns[k]?.getD 0 < n := fun k hk => List.mem_range.mp (pm.mem_iff.mp (List.mem_of_getElem? (at_k k hk)))
  have root : ∀ k, k < n → ∃ p, M.Walk (nbs n rs) (ns[0]?.getD 0) (ns[k]?.getD 0) p := by
    intro k
    induction k using Nat.strongRecOn with
    | _ k ih =>
      intro hk
      cases k with
      | zero => exact ⟨_, .one _⟩
      | succ k =>
        have lb := hb (k + 1) (by omega) hk
        obtain ⟨p, w⟩ := ih (b (k + 1)) lb (by omega)
        have e : ns[k + 1]?.getD 0 ∈ at_ (nbs n rs) (ns[b (k + 1)]?.getD 0) := mem_nbs.mpr ⟨lt_n _ (by omega), lt_n _ hk, (grown_adj pe).mpr ⟨k, hk, .inr ⟨rfl, rfl⟩⟩⟩
        obtain ⟨z, wz, _⟩ := w.join (.cons e (.one _))
        exact ⟨z, wz⟩
  refine ⟨sym, R.oneWay, fun x y hx hy => ?_⟩
  obtain ⟨i, hi, rfl⟩ := mem_n x hx
  obtain ⟨j, hj, rfl⟩ := mem_n y hy
  obtain ⟨p, wp⟩ := root i hi
  obtain ⟨q, wq⟩ := root j hj
  obtain ⟨p', P, _⟩ := wp.path
  obtain ⟨z, wz, _⟩ := (P.rev sym).walk.join wq
  obtain ⟨r, Rp, _⟩ := wz.path
  exact ⟨r, Rp⟩
theorem WorldOk.sub {n : Nat} {rs : List (Nat × Nat)} (w : WorldOk n rs) : (∀ p ∈ rs, p.1 < p.2 ∧ p.2 < n) ∧ rs.Nodup := by
  obtain ⟨ns, b, pm, hb, pe⟩ := w.gr
  have nd : ns.Nodup := pm.nodup_iff.mpr List.nodup_range
  have ln : ns.length = n := by rw [pm.length_eq, List.length_range]
  have rank : ∀ k, k < n → ns.idxOf (ns[k]?.getD 0) = k := fun k hk => by
    have hk' : k < ns.length := by omega
    rw [List.getElem?_eq_getElem hk']
    exact nd.idxOf_getElem k hk'
  have lt_n : ∀ k, k < n → ns[k]?.getD 0 < n := fun k hk => by
    have hk' : k < ns.length := by omega
    rw [List.getElem?_eq_getElem hk']
    exact List.mem_range.mp (pm.mem_iff.mp (List.getElem_mem hk'))
  constructor
  · intro p hp
    obtain ⟨k, hk, rfl⟩ := List.mem_map.mp (pe.mem_iff.mp hp)
    have hk' := List.mem_range.mp hk
    have lb := hb (k + 1) (by omega) (by omega)
    have r1 := rank (k + 1) (by omega)
    have r2 := rank (b (k + 1)) (by omega)
    have ne : ns[k + 1]?.getD 0 ≠ ns[b (k + 1)]?.getD 0 := fun e => by rw [e, r2] at r1; omega
    have l1 := lt_n (k + 1) (by omega)
    have l2 := lt_n (b (k + 1)) (by omega)
    unfold edge
    split <;> simp only <;> omega
  · refine pe.nodup_iff.mpr ?_
    rw [List.Nodup, List.pairwise_map]
    refine List.nodup_range.imp_of_mem fun {k k'} hk hk' ne e => ne ?_
    have h1 := List.mem_range.mp hk
    have h2 := List.mem_range.mp hk'
    have lb := hb (k + 1) (by omega) (by omega)
    have lb' := hb (k' + 1) (by omega) (by omega)
    have r1 := rank (k + 1) (by omega)
    have r2 := rank (b (k + 1)) (by omega)
    have r3 := rank (k' + 1) (by omega)
    have r4 := rank (b (k' + 1)) (by omega)
    rcases edge_mem.mp (show edge (ns[k + 1]?.getD 0) (ns[b (k + 1)]?.getD 0) = ((edge (ns[k' + 1]?.getD 0) (ns[b (k' + 1)]?.getD 0)).1, (edge (ns[k' + 1]?.getD 0) (ns[b (k' + 1)]?.getD 0)).2) ∨ _ from .inl e) with ⟨e1, e2⟩ | ⟨e1, e2⟩
    all_goals
      unfold edge at e1 e2
      split at e1
      all_goals
        split at e2
        all_goals
          simp only at e1 e2
          first
            | omega
            | (rw [e1] at r1; rw [e2] at r2; omega)
theorem WorldOk.good {n : Nat} {rs : List (Nat × Nat)} (w : WorldOk n rs) : Good n rs := ⟨w.sub.1, w.sub.2⟩
theorem WorldOk.rl {n : Nat} {rs : List (Nat × Nat)} (w : WorldOk n rs) : rs.length = n - 1 := by
  obtain ⟨_, _, _, _, pe⟩ := w.gr
  rw [pe.length_eq, List.length_map, List.length_range]
theorem WorldOk.are {n : Nat} {rs : List (Nat × Nat)} (w : WorldOk n rs) {d : PyData} (hs : isSeq d = true) (hi : items d = rs.map pairD) : areRds d n = true := by
  have rl := w.rl
  have n1 := w.n1
  unfold areRds
  simp only [hs, hi, Bool.true_and, Bool.and_eq_true, decide_eq_true_eq, List.all_eq_true, List.length_map]
  refine ⟨by omega, fun x hx => ?_, ?_⟩
  · obtain ⟨p, hp, rfl⟩ := List.mem_map.mp hx
    obtain ⟨h1, h2⟩ := w.sub.1 p hp
    simp only [pairD, intD, isRd, Bool.and_eq_true, decide_eq_true_eq]
    omega
  · unfold asc
    rw [all_range_map, decide_eq_true_eq]
    intro i hi
    simp only [List.length_map] at hi
    have z := List.pairwise_iff_getElem.mp w.as i (i + 1) (by omega) (by omega) (by omega)
    have ne : rs[i]'(by omega) ≠ rs[i + 1]'(by omega) := List.pairwise_iff_getElem.mp w.sub.2 i (i + 1) (by omega) (by omega) (by omega)
    have g : ∀ j, (hj : j < rs.length) → ((rs.map pairD).map rd)[j]?.getD (0, 0) = (((rs[j]).1 : Int), ((rs[j]).2 : Int)) := fun j hj => by
      rw [List.getElem?_map, List.getElem?_map, List.getElem?_eq_getElem hj]; rfl
    rw [g i (by omega), g (i + 1) (by omega)]
    unfold ltN ltR at z
    unfold ltR
    have ne' : ¬ ((rs[i]'(by omega)).1 = (rs[i + 1]'(by omega)).1 ∧ (rs[i]'(by omega)).2 = (rs[i + 1]'(by omega)).2) := fun ⟨a, b⟩ => ne (Prod.ext a b)
    simp only [Bool.or_eq_true, Bool.and_eq_true, decide_eq_true_eq, Bool.or_eq_false_iff, Bool.and_eq_false_iff, decide_eq_false_iff_not] at z ⊢
    omega
theorem WorldOk.up {n : Nat} {rs : List (Nat × Nat)} (w : WorldOk n rs) : rs.Pairwise fun p q => TT.ltP p q = true := by
  have nd := w.sub.2
  have z := w.as.and nd
  refine z.imp fun {p q} h => ?_
  obtain ⟨h1, h2⟩ := h
  unfold ltN at h1
  rw [ltP_R] at h1
  unfold TT.ltP at h1 ⊢
  have ne : ¬ (p.1 = q.1 ∧ p.2 = q.2) := fun e => h2 (Prod.ext e.1 e.2)
  simp at h1 ⊢
  omega
/-- a tree's houses and roads, ascending -/
structure WorldT (n : Nat) (rs : List (Nat × Nat)) : Prop where
  n1 : 1 ≤ n
  n16 : n ≤ 16
  rl : rs.length = n - 1
  sub : (∀ p ∈ rs, p.1 < p.2 ∧ p.2 < n) ∧ rs.Nodup
  up : rs.Pairwise fun p q => TT.ltP p q = true
  jn : Joined n rs
theorem WorldT.good {n : Nat} {rs : List (Nat × Nat)} (w : WorldT n rs) : Good n rs := ⟨w.sub.1, w.sub.2⟩
theorem WorldOk.t {n : Nat} {rs : List (Nat × Nat)} (w : WorldOk n rs) : WorldT n rs := ⟨w.n1, w.n16, w.rl, w.sub, w.up, fun v hv => (TreeG.of w.gr).con 0 v (by have := w.n1; omega) hv⟩
theorem WorldT.reads {n : Nat} {rs : List (Nat × Nat)} (w : WorldT n rs) : Reads (TT.line n rs) n rs := by
  refine ⟨_, _, TT.line_split n rs, TT.first_of n, w.n1, w.n16, ?_, ⟨TT.line_roads rs, w.sub.1, w.up⟩, w.jn⟩
  have := w.n1
  rw [List.length_map, w.rl]; omega
theorem Reads.world {z : Str} {n : Nat} {rs : List (Nat × Nat)} (h : Reads z n rs) : WorldT n rs := by
  obtain ⟨f, ws, _, _, n1, n16, l, R, J⟩ := h
  have e := congrArg List.length R.eq
  rw [(List.length_map), (List.length_map)] at e
  refine ⟨n1, n16, by omega, ⟨R.lt, R.up.imp fun {p q} z e => ?_⟩, R.up, J⟩
  subst e
  unfold TT.ltP at z
  simp at z
theorem WorldT.are {n : Nat} {rs : List (Nat × Nat)} (w : WorldT n rs) {d : PyData} (hs : isSeq d = true) (hi : items d = rs.map pairD) : areRds d n = true := by
  have rl := w.rl
  have n1 := w.n1
  unfold areRds
  simp only [hs, hi, Bool.true_and, Bool.and_eq_true, decide_eq_true_eq, List.all_eq_true, List.length_map]
  refine ⟨by omega, fun x hx => ?_, ?_⟩
  · obtain ⟨p, hp, rfl⟩ := List.mem_map.mp hx
    obtain ⟨h1, h2⟩ := w.sub.1 p hp
    simp only [pairD, intD, isRd, Bool.and_eq_true, decide_eq_true_eq]
    omega
  · refine asc_of ?_
    rw [List.map_map, List.pairwise_map]
    refine w.up.imp fun {p q} z => ?_
    show ltR (rd (pairD p)) (rd (pairD q)) = true
    rw [rd_pair, rd_pair, ltP_R]; exact z
/-- a world of a store stands at w -/
structure World3 (K : PySem.W.Frag) (H : Hp) (w : V) (n : Nat) (rs ws : List (Nat × Nat)) : Prop where
  at_ : ∃ a s hl cl ts, w = .ref a ∧ H a = some (.lst [iV n, .ref s, .ref hl, .ref cl]) ∧ H s = some (.lst ts) ∧ F2 (TP H) rs ts ∧ H hl = some (.lst ((ws.map (·.1)).map iV)) ∧ H cl = some (.lst ((ws.map (·.2)).map iV))
  ok : WorldT n rs
  few : ws.length ≤ 12
  lt : ∀ p ∈ ws, p.1 < n ∧ p.2 < 6
theorem World3.mono {K : PySem.W.Frag} {H H' : Hp} {w : V} {n : Nat} {rs ws} (e : Ex H H') (h : World3 K H w n rs ws) : World3 K H' w n rs ws := by
  obtain ⟨⟨a, s, hl, cl, ts, h1, h2, h3, h4, h5, h6⟩, r1, r2, r3⟩ := h
  exact ⟨⟨a, s, hl, cl, ts, h1, e _ _ h2, e _ _ h3, h4.imp fun _ _ z => z.mono e, e _ _ h5, e _ _ h6⟩, r1, r2, r3⟩
theorem ex_dels {H H' : Hp} {A : Addr} (e : Ex (L2.del H A) H') : Ex (L2.del H A) (L2.del H' A) := fun x y z => by
  have ne : x ≠ A := fun q => by rw [q, del_same] at z; cases z
  rw [del_ne ne]; exact e x y z
/-- a comprehension by draws: the numbers that are drawn, and the box behind them -/
theorem zip_maps {hs cs : List Nat} (l : hs.length = cs.length) : (hs.zip cs).map (·.1) = hs ∧ (hs.zip cs).map (·.2) = cs :=
  ⟨List.map_fst_zip (Nat.le_of_eq l), List.map_snd_zip (Nat.le_of_eq l.symm)⟩
theorem w_rngB {H : Hp} {ta : TA} {σ : L2.St} {n : Nat} {P : It → Hp → Prop} (h : ∀ Q : List V → Hp → Prop, Q [.int (n : Int)] H → ta σ H Q) (hn : n ≤ 100000) (q : ∀ J H1, Ex H H1 → (∀ B : Hp, ItS J B n (fun i => .int (0 + i))) → P J H1) : iRng1 ta σ H P :=
  h _ ⟨_, rfl, by omega, by omega, by
    rw [show ((n : Int)).toNat = n by omega]
    exact q _ _ (Evl.Ex.refl _) fun _ => its_r 0 n⟩
def sp__law_world (K : PySem.W.Frag) : Sp := sp2 fun a b H Q E => ∃ (A : Addr) (c k : Nat), a = .ref A ∧ b = .int (k : Int) ∧ c ≤ 800000 ∧ BoxAt H A c ∧ ∀ w n rs ws H', Ex (L2.del H A) H' → BoxAt H' A (c + 80) → World3 K (L2.del H' A) w n rs ws → (k ≠ 2 → ∀ p ∈ ws, p.2 = 0) → Q w H'
section
variable {K : PySem.W.Frag} {mg : Str → Option Value} {P : Program} {w : World} {base : Heap}
theorem ok__law_world (T : Tx K mg) : Cal P w K mg base CX0 4 "_law_world" ["_law_box_here", "_law_way"] (sp__law_world K) := by
  refine cal_of (fD__law_world T) (T.glo 32 rfl) sc__law_world (fun _ _ _ _ _ _ us hl => match us, hl with | [_, _], _ => rfl) (fun vs H Q E h => len2 h) (fun f cdv A outer s H vs Q E hr h => ?_)
  obtain ⟨a, b, rfl, h⟩ := h
  refine ⟨_, (PSs.nox (pss_cons (ps_set (i := 2) sc__law_world.nd rfl (Or.inl rfl) (pe_ix (ix_listK (K := K)) (pe_lst (pa_cons pe_int (pa_cons pe_int (pa_cons pe_int (pa_cons pe_int (pa_cons pe_int (pa_cons pe_int (pa_cons pe_int (pa_cons pe_int pa_nil))))))))) (pe_c (ok__law_take T) (hr.mono (by decide)) rfl pass0 (pa_cons (pv 0) (pa_cons pe_int pa_nil))) (fun _ _ => rfl)))
      (pss_cons (ps_asg (pe_c (ok__law_tree T) (hr.mono (by decide)) rfl pass0 (pa_cons (pv 0) pa_nil)) (pg_lst rfl (pgs_cons (pg_name (i := 3) sc__law_world.nd rfl (Or.inr rfl)) (pgs_cons (pg_name (i := 4) sc__law_world.nd rfl (Or.inl rfl)) pgs_nil))))
      (pss_cons (ps_setLc (i := 5) (own := [("_law_turn", 6)]) rfl sc__law_world.nd rfl rfl (sw_true rfl rfl rfl (by decide +kernel)) (pi_range1 (by rfl) (T.free 11 rfl) (pa_cons (pv 2) pa_nil)) (blkOk_by (own := [("_law_turn", 6)]) (N := ["_law_box_here", "_law_way", "_law_many", "_law_houses", "_law_roads", "_law_homes", "_law_turn"]) (sc := defScope st__law_world) (by decide +kernel)) (fun _ _ _ _ _ => (pg_name (i := 6) sc__law_world.nd rfl (Or.inl rfl))) (fun _ _ _ _ _ => pts_nil) (fun _ _ _ _ _ => (pe_c (ok__law_take T) (hr.mono (by decide)) rfl pass0 (pa_cons (pv 0) (pa_cons (pv 3) pa_nil)))))
      (pss_one (ps_ret (pe_lst (pa_cons (pv 3) (pa_cons (pv 4) (pa_cons (pv 5) (pa_cons (pe_lc (own := [("_law_turn", 6)]) rfl sc__law_world.nd (pi_range1 (by rfl) (T.free 11 rfl) (pa_cons (pv 2) pa_nil)) (blkOk_by (own := [("_law_turn", 6)]) (N := ["_law_box_here", "_law_way", "_law_many", "_law_houses", "_law_roads", "_law_homes", "_law_turn"]) (sc := defScope st__law_world) (by decide +kernel)) (fun _ _ _ _ _ => (pg_name (i := 6) sc__law_world.nd rfl (Or.inl rfl))) (fun _ _ _ _ _ => pts_nil) (fun _ _ _ _ _ => (pe_ifExp (pt_cmpR op_eq (pv 1) pe_int (nomark _)) (pe_c (ok__law_take T) (hr.mono (by decide)) rfl pass0 (pa_cons (pv 0) (pa_cons pe_int pa_nil))) pe_int))) pa_nil))))))))))), ?_⟩
  obtain ⟨A, c, k, rfl, rfl, c9, hb, q⟩ := h
  refine seq_at (asg_at ?_)
  refine ⟨(by show 8 ≤ sizeLine; decide), fun l hl => ?_⟩
  have el := Evl.Ex.new (o := .lst [V.int 3, V.int 0, V.int 12, V.int 1, V.int 5, V.int 2, V.int 12, V.int 4]) hl
  obtain ⟨l0, hA⟩ := hb.some
  have lA : l ≠ A := fun z => by rw [z, hA] at hl; cases hl
  refine ⟨_, rfl, _, _, rfl, A, 8, c, rfl, rfl, by decide, by decide, by omega, hb.mono el, fun w1 H1 hw e1 hb1 => ?_⟩
  obtain ⟨m, hm, m2⟩ : ∃ m : Nat, [V.int 3, V.int 0, V.int 12, V.int 1, V.int 5, V.int 2, V.int 12, V.int 4][w1]? = some (iV m) ∧ m ≤ 12 := by
    match w1, hw with
    | 0, _ => exact ⟨3, rfl, by decide⟩
    | 1, _ => exact ⟨0, rfl, by decide⟩
    | 2, _ => exact ⟨12, rfl, by decide⟩
    | 3, _ => exact ⟨1, rfl, by decide⟩
    | 4, _ => exact ⟨5, rfl, by decide⟩
    | 5, _ => exact ⟨2, rfl, by decide⟩
    | 6, _ => exact ⟨12, rfl, by decide⟩
    | 7, _ => exact ⟨4, rfl, by decide⟩
  have e01 : Ex (L2.del H A) H1 := fun b o z => e1 b o (by
    have ne : b ≠ A := fun y => by rw [y, del_same] at z; cases z
    rw [del_ne ne] at z ⊢
    exact el b o z)
  refine ⟨l, _, _, _, rfl, rfl, SqL.of (e1 _ _ (by rw [del_ne lA]; exact upd_same)), atI_nat hm, ?_⟩
  dsimp only [gName]
  refine seq_at (asg_at ?_)
  refine ⟨_, rfl, _, rfl, A, c + 1, rfl, by omega, hb1, fun w n rs H2 e2 hb2 _ wo => ?_⟩
  have e02 := ex_of_del e01 del_same e2
  obtain ⟨l1, hA1⟩ := hb1.some
  have wo2 := wo A l1 hA1
  obtain ⟨⟨a2, s2, ts, rfl, hW, hS, tp⟩, ok⟩ := wo2
  have d2 : Ex (L2.del H2 A) H2 := Ex.ofDel
  refine ⟨a2, _, rfl, SqL.of (d2 _ _ hW), rfl, _, _, rfl, _, _, rfl, rfl, ?_⟩
  dsimp only
  have n1 := ok.n1
  have n16 := ok.n16
  -- a comprehension of draws
  refine seq_at (asg_at ?_)
  refine lc_invY (B := L2.del H2 A) (n := m) (Y := fun i H' v H'' => v = .int (0 + i) ∧ H'' = H') (fun P q => w_rngB (fun Q q => ⟨_, rfl, q⟩) (by omega) fun J H1 e S => q J H1 e (ity_s (S _)))
    (fun D i H' => ∃ hs : List Nat, D ≠ A ∧ L2.del H2 A D = none ∧ Ex (L2.del H2 A) H' ∧ BoxAt H' A (c + 41 + i) ∧ H' D = some (.lst (hs.map iV)) ∧ hs.length = i ∧ ∀ x ∈ hs, x < n) ?_ ?_ ?_ ?_
  · intro D H3 e3 hD
    obtain ⟨l3, hA3⟩ := (hb2.mono e3).some
    have DA : D ≠ A := fun z => by rw [z, hA3] at hD; cases hD
    have Dd := Evl.fresh_back (d2.trans e3) hD
    exact ⟨[], DA, Dd, Evl.Ex.mut (d2.trans e3) Dd, (hb2.mono e3).mono (Evl.Ex.new hD), upd_same, rfl, by simp⟩
  · rintro D i H' ⟨_, _, _, e, _⟩; exact e
  · rintro D i x H' _ hi ⟨hs, DA, Dd, e, hbx, hDx, hln, hlt⟩ ⟨rfl, rfl⟩
    refine ⟨rfl, ?_⟩
    refine ⟨_, rfl, _, rfl, _, _, rfl, A, n, c + 41 + i, rfl, rfl, by omega, by omega, by omega, hbx, fun j H7 hj e7 hb7 => ?_⟩
    have hD7 := del_get e7 DA hDx
    refine ⟨_, hD7, line_big (by rw [List.length_map]; omega), hs ++ [j], DA, Dd, Evl.Ex.mut (ex_of_del e del_same e7) Dd, ?_, ?_, ?_, ?_⟩
    · obtain ⟨x0, b0, y0, k0, z, r1, r2, r3, r4, r5⟩ := hb7
      exact ⟨x0, b0, y0, k0, by rw [upd_ne DA.symm]; exact z, r1, r2, r3, r4, by omega⟩
    · rw [upd_same, List.map_append]; rfl
    · rw [List.length_append, hln]; rfl
    · intro x hx
      rcases (List.mem_append.mp hx) with z | z
      · exact hlt x z
      · rw [List.mem_singleton.mp z]; exact hj
  rintro D H3 ⟨hs, DA, Dd, e3, hb3, hD3, hln, hlt⟩
  dsimp only [gName]
  refine ret_at ?_
  have d3 : Ex (L2.del H3 A) H3 := Ex.ofDel
  refine ⟨_, rfl, _, rfl, _, rfl, ?_⟩
  refine cons_at ?_
  refine lc_invY (B := L2.del H3 A) (n := m) (Y := fun i H' v H'' => v = .int (0 + i) ∧ H'' = H') (fun P q => w_rngB (fun Q q => ⟨_, rfl, q⟩) (by omega) fun J H1 e S => q J H1 e (ity_s (S _)))
    (fun D i H' => ∃ cs : List Nat, D ≠ A ∧ L2.del H3 A D = none ∧ Ex (L2.del H3 A) H' ∧ BoxAt H' A (c + 53 + i) ∧ H' D = some (.lst (cs.map iV)) ∧ cs.length = i ∧ (∀ x ∈ cs, x < 6) ∧ (k ≠ 2 → ∀ x ∈ cs, x = 0)) ?_ ?_ ?_ ?_
  · intro C H4 e4 hC
    obtain ⟨l4, hA4⟩ := (hb3.mono e4).some
    have CA : C ≠ A := fun z => by rw [z, hA4] at hC; cases hC
    have Cd := Evl.fresh_back (d3.trans e4) hC
    exact ⟨[], CA, Cd, Evl.Ex.mut (d3.trans e4) Cd, ((hb3.mono e4).mono (Evl.Ex.new hC)).up (by omega), upd_same, rfl, by simp, by simp⟩
  · rintro D i H' ⟨_, _, _, e, _⟩; exact e
  · rintro C i x H' _ hi ⟨cs, CA, Cd, e, hbx, hCx, hcl, hclt, hc0⟩ ⟨rfl, rfl⟩
    refine ⟨rfl, ?_⟩
    refine ⟨_, rfl, rfl, _, rfl, ?_⟩
    by_cases k2 : k = 2
    · rw [decide_eq_true (show V.int (k : Int) = V.int 2 by rw [k2]; rfl)]
      refine iteT ?_
      refine ⟨_, rfl, _, _, rfl, A, 6, c + 53 + i, rfl, rfl, by decide, by decide, by omega, hbx, fun j H7 hj e7 hb7 => ?_⟩
      have hC7 := del_get e7 CA hCx
      refine ⟨_, hC7, line_big (by rw [List.length_map]; omega), cs ++ [j], CA, Cd, Evl.Ex.mut (ex_of_del e del_same e7) Cd, ?_, ?_, ?_, ?_, fun z => absurd k2 z⟩
      · obtain ⟨x0, b0, y0, k0, z, r1, r2, r3, r4, r5⟩ := hb7
        exact ⟨x0, b0, y0, k0, by rw [upd_ne CA.symm]; exact z, r1, r2, r3, r4, by omega⟩
      · rw [upd_same, List.map_append]; rfl
      · rw [List.length_append, hcl]; rfl
      · intro x hx
        rcases (List.mem_append.mp hx) with z | z
        · exact hclt x z
        · rw [List.mem_singleton.mp z]; exact hj
    · rw [decide_eq_false (show V.int (k : Int) ≠ V.int 2 from fun z => k2 (by have := V.int.inj z; omega))]
      refine iteF ?_
      refine ⟨_, hCx, line_big (by rw [List.length_map]; omega), cs ++ [0], CA, Cd, Evl.Ex.mut e Cd, ?_, ?_, ?_, ?_, fun z x hx => ?_⟩
      · obtain ⟨x0, b0, y0, k0, z, r1, r2, r3, r4, r5⟩ := hbx
        exact ⟨x0, b0, y0, k0, by rw [upd_ne CA.symm]; exact z, r1, r2, r3, r4, by omega⟩
      · rw [upd_same, List.map_append]; rfl
      · rw [List.length_append, hcl]; rfl
      · intro x hx
        rcases (List.mem_append.mp hx) with z | z
        · exact hclt x z
        · rw [List.mem_singleton.mp z]; decide
      · rcases (List.mem_append.mp hx) with y | y
        · exact hc0 z x y
        · exact List.mem_singleton.mp y
  rintro C H4 ⟨cs, CA, Cd, e4, hb4, hC4, hcl, hclt, hc0⟩
  refine ⟨(by show 4 ≤ sizeLine; decide), fun w hw => ?_⟩
  have ew := Evl.Ex.new (o := .lst [iV n, .ref s2, .ref D, .ref C]) hw
  have wA : w ≠ A := fun z => by
    obtain ⟨l4, hA4⟩ := hb4.some
    rw [z, hA4] at hw; cases hw
  have leq : hs.length = cs.length := by rw [hln, hcl]
  have mp := zip_maps leq
  have e34 : Ex (L2.del H2 A) H4 := ex_of_del e3 del_same e4
  have dw : Ex (L2.del H2 A) (L2.del (upd H4 w (.lst [iV n, .ref s2, .ref D, .ref C])) A) := ex_dels (e34.trans ew)
  have hD4 := e4 D _ (by rw [del_ne DA]; exact hD3)
  refine q (.ref w) n rs (hs.zip cs) _ (ex_of_del e02 del_same (e34.trans ew)) ((hb4.mono ew).up (by omega)) ⟨⟨w, s2, D, C, ts, rfl, ?_, dw _ _ hS, tp.imp fun _ _ z => TP.mono dw z, ?_, ?_⟩, ok.t, ?_, fun p hp => ?_⟩ fun z p hp => ?_
  · rw [del_ne wA]; exact upd_same
  · rw [del_ne DA, mp.1]; exact ew _ _ hD4
  · rw [del_ne CA, mp.2]; exact ew _ _ hC4
  · rw [List.length_zip]; omega
  · have a := List.of_mem_zip hp
    exact ⟨hlt _ a.1, hclt _ a.2⟩
  · exact hc0 z _ (List.of_mem_zip hp).2
end

end T1

namespace T1
open PySem PySem.Spec PyProof.Rows L2 G
open Evl (Ex)
local macro_rules | `(tactic| walk_at "dd") => `(tactic| (dsimp only [tCB, tCons, tNil, tC, tOp, tUn, tTest, tB, tVar, tAndV, tOrV, tNotV, tIf, tAnd, tOr, tNot, tSeq, tRet, tRetN, tIfS, tAsg, gName, tDrop, tTup, tLst, tChain, tNext, tCall, L2.start]))
open M (at_)
theorem okN_nat {n : Nat} (h1 : 1 ≤ n) (h2 : n ≤ 16) : okN (.int (n : Int)) = true := by
  simp only [okN, Bool.and_eq_true, decide_eq_true_eq]; omega
theorem tree_made {K : PySem.W.Frag} {H : Hp} {a b : V} {d2 : PyData} {n : Nat} {Q : Addr → Hp → Prop} (ha : Dq K H a (.int (n : Int))) (hb : Dq K H b d2) (ar : areRds d2 n = true) (n1 : 1 ≤ n) (n16 : n ≤ 16) (b1 : (items d2).length ≤ 100000) (b2 : ∀ x ∈ items d2, (items x).length ≤ 100000)
    (con : ∀ F, M.Ways (nbs n (rdsOf d2)) 0 F → ∀ v, v < n → M.at_ F v ≠ []) (q : ∀ t H' Fs, Ex H H' → H t = none → TreeAt K H' t n (rdsOf d2) Fs → Q t H') :
    ∀ x dx, H x = none → H dx = none → dx ≠ x → sp_Tree___init__ K [.ref x, a, b] (upd (upd H dx (.own x)) x (.ins (He.ga K "Tree") dx [])) (fun v H3 => v = .non ∧ Q x H3) E0 := by
  intro x dx hx hdx ne
  have eX : Ex H (upd (upd H dx (.own x)) x (.ins (He.ga K "Tree") dx [])) := fun b z e => by rw [upd_ne (ne_of_none e hx), upd_ne (ne_of_none e hdx)]; exact e
  refine ⟨_, _, _, rfl, H, x, dx, rfl, eX, hx, upd_same, _, d2, ha, hb, b1, b2, fun ok => ?_, fun m e1 _ _ ar' => ?_, fun m F j e1 _ _ _ W jn z _ => ?_, fun m Fs H' e1 ar' e t al => ?_⟩
  · rw [okN_nat n1 n16] at ok; cases ok
  · have : m = n := by injection e1 with e1; omega
    subst this
    rw [ar] at ar'; cases ar'
  · have : m = n := by injection e1 with e1; omega
    subst this
    exact absurd z (con F W j jn)
  · have : m = n := by injection e1 with e1; omega
    subst this
    exact ⟨rfl, q x H' Fs e hx t⟩
theorem rdsOf_pairs {d : PyData} {rs : List (Nat × Nat)} (hi : items d = rs.map pairD) : rdsOf d = rs := by
  unfold rdsOf
  rw [hi, List.map_map]
  exact (List.map_congr_left fun p _ => by show (((p.1 : Int)).toNat, ((p.2 : Int)).toNat) = p; simp).trans (List.map_id _)
/-- Tree(..) of a world's houses and roads -/
theorem world_tree {K : PySem.W.Frag} {H : Hp} {a b : V} {d2 : PyData} {n : Nat} {rs : List (Nat × Nat)} {Q : Addr → Hp → Prop} (wo : WorldT n rs) (ha : Dq K H a (.int (n : Int))) (hb : Dq K H b d2) (hs : isSeq d2 = true) (hi : items d2 = rs.map pairD) (q : ∀ t H' Fs, Ex H H' → H t = none → TreeAt K H' t n rs Fs → Q t H') :
    ∀ x dx, H x = none → H dx = none → dx ≠ x → sp_Tree___init__ K [.ref x, a, b] (upd (upd H dx (.own x)) x (.ins (He.ga K "Tree") dx [])) (fun v H3 => v = .non ∧ Q x H3) E0 := by
  have er := rdsOf_pairs hi
  have n16 := wo.n16
  have rl := wo.rl
  refine tree_made ha hb (wo.are hs hi) wo.n1 n16 (by rw [hi, List.length_map]; omega) (fun x hx => ?_) (fun F W v hv => ?_) (by rw [er]; exact q)
  · rw [hi] at hx
    obtain ⟨p, _, rfl⟩ := List.mem_map.mp hx
    show (2 : Nat) ≤ 100000
    decide
  · rw [er] at W
    obtain ⟨p, P⟩ := wo.jn v hv
    exact W.reach P
theorem sum_le {α : Type} (f : α → Str) (b : Nat) : ∀ l : List α, (∀ p ∈ l, (f p).length ≤ b) → ((l.map f).map (·.length)).sum ≤ l.length * b
  | [], _ => by simp
  | p :: l, h => by
    have z := sum_le f b l fun x hx => h x (List.mem_cons_of_mem _ hx)
    have y := h p List.mem_cons_self
    simp only [List.sum_cons, List.length_cons, List.map_cons]
    rw [Nat.add_mul]; omega
theorem empty_of : Str.ofString "" = Str.empty := by rfl
def sp__law_text (K : PySem.W.Frag) : Sp := sp1 fun a H Q E => ∃ n rs ws, World3 K H a n rs ws ∧ ∀ H', Ex H H' → Q (.str (TT.sline n rs ws)) H'
section
variable {K : PySem.W.Frag} {mg : Str → Option Value} {P : Program} {w : World} {base : Heap}
theorem ok__law_text (T : Tx K mg) : Cal P w K mg base CX0 1 "_law_text" ["_law_world_here"] (sp__law_text K) := by
  refine cal_of (fD__law_text T) (T.glo 33 rfl) sc__law_text (fun _ _ _ _ _ _ us hl => match us, hl with | [_], _ => rfl) (fun vs H Q E h => len1 h) (fun f cdv A outer s H vs Q E hr h => ?_)
  obtain ⟨a, rfl, h⟩ := h
  refine ⟨_, (PSs.nox (pss_cons (ps_setLc (i := 1) (own := [("_law_u", 3), ("_law_v", 4)]) rfl sc__law_text.nd rfl rfl (sw_true rfl rfl rfl (by decide +kernel)) (pi_list (pe_ix (ix_listK (K := K)) (pv 0) pe_int (fun _ _ => rfl))) (blkOk_by (own := [("_law_u", 3), ("_law_v", 4)]) (N := ["_law_world_here", "_law_roads", "_law_writes", "_law_u", "_law_v", "_law_k"]) (sc := defScope st__law_text) (by decide +kernel)) (fun _ _ _ _ _ => (pg_tupK (K := K) (n := 2) rfl (pgs_cons (pg_name (i := 3) sc__law_text.nd rfl (Or.inl rfl) (.inr rfl)) (pgs_cons (pg_name (i := 4) sc__law_text.nd rfl (Or.inl rfl) (.inr rfl)) pgs_nil)))) (fun _ _ _ _ _ => pts_nil) (fun _ _ _ _ _ => (pe_op op_add_str (pe_op op_add_str (pe_op op_add_str pe_str (pe_callTy call_str_int (by rfl) (T.free 15 rfl) (by decide +kernel) (pa_cons (pv 3) pa_nil))) pe_str) (pe_callTy call_str_int (by rfl) (T.free 15 rfl) (by decide +kernel) (pa_cons (pv 4) pa_nil)))))
      (pss_cons (ps_setLc (i := 2) (own := [("_law_k", 5)]) rfl sc__law_text.nd rfl rfl (sw_true rfl rfl rfl (by decide +kernel)) (pi_range1 (by rfl) (T.free 11 rfl) (pa_cons (pe_callB (call_lenK (K := K)) (by rfl) (T.free 7 rfl) (by decide +kernel) (pa_cons (pe_ix (ix_listK (K := K)) (pv 0) pe_int (fun _ _ => rfl)) pa_nil)) pa_nil)) (blkOk_by (own := [("_law_k", 5)]) (N := ["_law_world_here", "_law_roads", "_law_writes", "_law_u", "_law_v", "_law_k"]) (sc := defScope st__law_text) (by decide +kernel)) (fun _ _ _ _ _ => (pg_name (i := 5) sc__law_text.nd rfl (Or.inl rfl))) (fun _ _ _ _ _ => pts_nil) (fun _ _ _ _ _ => (pe_op op_add_str (pe_op op_add_str (pe_op op_add_str pe_str (pe_callTy call_str_int (by rfl) (T.free 15 rfl) (by decide +kernel) (pa_cons (pe_ix (ix_listK (K := K)) (pe_ix (ix_listK (K := K)) (pv 0) pe_int (fun _ _ => rfl)) (pv 5) (fun _ _ => rfl)) pa_nil))) pe_str) (pe_callTy call_str_int (by rfl) (T.free 15 rfl) (by decide +kernel) (pa_cons (pe_ix (ix_listK (K := K)) (pe_ix (ix_listK (K := K)) (pv 0) pe_int (fun _ _ => rfl)) (pv 5) (fun _ _ => rfl)) pa_nil)))))
      (pss_one (ps_ret (pe_op op_add_str (pe_op op_add_str (pe_op op_add_str (pe_op op_add_str (pe_callTy call_str_int (by rfl) (T.free 15 rfl) (by decide +kernel) (pa_cons (pe_ix (ix_listK (K := K)) (pv 0) pe_int (fun _ _ => rfl)) pa_nil)) pe_str) (pe_joinK (K := K) pe_str (pv 1))) pe_str) (pe_joinK (K := K) pe_str (pv 2)))))))), ?_⟩
  obtain ⟨n, rs, ws, wo, q⟩ := h
  obtain ⟨⟨W, S, hl, cl, ts, rfl, hW, hS, tp, hh, hc⟩, ok, few, lt⟩ := wo
  have n16 := ok.n16
  have sl : ∀ {k : Nat}, k ≤ 10000 → k ≤ sizeLine := fun {k} h => by rw [sizeLine_eq]; omega
  have l3 : ∀ {k : Nat}, k < 1000 → (TT.str k).length ≤ 3 := fun {k} h => str_len (by omega)
  have bl : (Str.ofString " ").length = 1 := rfl
  have da : (Str.ofString "-").length = 1 := rfl
  have dt : (Str.ofString ".").length = 1 := rfl
  have lS := SqL.of (K := K) hS
  have tl : ts.length = rs.length := tp.length.symm
  have rl : rs.length + 1 = n := by have := ok.rl; have := ok.n1; omega
  have rlt : ∀ p ∈ rs, p.1 < 16 ∧ p.2 < 16 := fun p hp => by have := ok.sub.1 p hp; omega
  refine seq_at (asg_at ?_)
  refine lc_at (n := rs.length) (item := _root_.G.nth ts) (fun _ => true) (fun i D y H' => y = .str (Str.ofString " " ++ TT.str (rs[i]?.getD (0, 0)).1 ++ Str.ofString "-" ++ TT.str (rs[i]?.getD (0, 0)).2)) (line_big (by omega))
    (fun P q => ⟨_, rfl, W, _, 1, _, rfl, rfl, SqL.of hW, rfl, S, rfl, ⟨_, lS⟩, q _ _ (Ex.refl _) (tl ▸ its_l lS)⟩) (fun _ _ _ _ _ _ h => h) (fun _ _ _ _ _ _ h => h) ?_ ?_
  · intro i D H2 hi hD e2 hacc Ny Nn hy _
    obtain ⟨v, hv, t, rfl, ht⟩ := F2.get tp (i := i) (a := rs[i]) (List.getElem?_eq_getElem hi)
    have nt : _root_.G.nth ts i = .ref t := by unfold _root_.G.nth; rw [hv]; rfl
    rw [nt]
    have b := rlt _ (List.getElem_mem hi)
    have a1 := l3 (k := rs[i].1) (by omega)
    have a2 := l3 (k := rs[i].2) (by omega)
    refine ⟨t, _, rfl, SqT.of (e2 _ _ ht), rfl, _, _, rfl, _, _, rfl, rfl, rfl, ?_⟩
    refine ⟨_, rfl, (rs[i].1 : Int), rfl, nat_log (by omega), Str.ofString " ", TT.str rs[i].1, rfl, rfl, sl (by omega), _, Str.ofString "-", rfl, rfl, by rw [app_len]; exact sl (by omega), ?_⟩
    refine ⟨_, rfl, (rs[i].2 : Int), rfl, nat_log (by omega), _, TT.str rs[i].2, rfl, rfl, by rw [app_len, app_len]; exact sl (by omega), ?_⟩
    exact hy _ _ rfl (Ex.refl _) (by rw [List.getElem?_eq_getElem hi]; rfl)
  intro D1 y1 H1 hD1 e1 hd1 f1
  rw [range_all] at f1
  have m1 : y1 = (rs.map fun p => Str.ofString " " ++ TT.str p.1 ++ Str.ofString "-" ++ TT.str p.2).map V.str := by
    rw [F2.map_eq (f := fun i => V.str (Str.ofString " " ++ TT.str (rs[i]?.getD (0, 0)).1 ++ Str.ofString "-" ++ TT.str (rs[i]?.getD (0, 0)).2)) f1]
    refine List.ext_getElem? fun i => ?_
    rw [List.getElem?_map, List.getElem?_map, List.getElem?_map]
    by_cases c : i < rs.length
    · rw [List.getElem?_range c, List.getElem?_eq_getElem c, Option.map_some, Option.map_some, List.getElem?_eq_getElem c]; rfl
    · rw [List.getElem?_eq_none (Nat.le_of_not_lt c), List.getElem?_eq_none (by rw [List.length_range]; omega)]; rfl
  rw [m1] at hd1
  clear f1 m1
  dsimp only [gName]
  refine seq_at (asg_at ?_)
  have hlen : ((ws.map (·.1)).map iV).length = ws.length := by rw [(List.length_map), (List.length_map)]
  refine lc_at (n := ws.length) (item := fun i => .int (0 + i)) (fun _ => true) (fun i D y H' => y = .str (Str.ofString " " ++ TT.str (ws[i]?.getD (0, 0)).1 ++ Str.ofString "." ++ TT.str (ws[i]?.getD (0, 0)).2)) (line_big (by omega))
    (fun P q => w_rng1 (n := ws.length) (fun Q q => ⟨_, rfl, W, _, 2, _, rfl, rfl, SqL.of (e1 _ _ hW), rfl, hl, _, rfl, .inl (SqL.of (e1 _ _ hh)), by rw [hlen]; exact q⟩) (by omega) fun J H1 e S => q J H1 e (S.mono e)) (fun _ _ _ _ _ _ h => h) (fun _ _ _ _ _ _ h => h) ?_ ?_
  · intro i D H2 hi hD e2 hacc Ny Nn hy _
    have b := lt _ (List.getElem_mem hi)
    have a1 := l3 (k := ws[i].1) (by omega)
    have a2 := l3 (k := ws[i].2) (by omega)
    have g1 : ((ws.map (·.1)).map iV)[i]? = some (iV ws[i].1) := by rw [List.getElem?_map, List.getElem?_map, List.getElem?_eq_getElem hi]; rfl
    have g2 : ((ws.map (·.2)).map iV)[i]? = some (iV ws[i].2) := by rw [List.getElem?_map, List.getElem?_map, List.getElem?_eq_getElem hi]; rfl
    have ei : (0 : Int) + (i : Int) = ((i : Nat) : Int) := by omega
    have e02 := e1.trans e2
    rw [ei]
    refine ⟨rfl, ?_⟩
    refine ⟨_, rfl, W, _, 2, _, rfl, rfl, SqL.of (e02 _ _ hW), rfl, _, rfl, hl, _, _, _, rfl, rfl, SqL.of (e02 _ _ hh), atI_nat g1, (ws[i].1 : Int), rfl, nat_log (by omega), Str.ofString " ", TT.str ws[i].1, rfl, rfl, sl (by omega), _, Str.ofString ".", rfl, rfl, by rw [app_len]; exact sl (by omega), ?_⟩
    refine ⟨_, rfl, W, _, 3, _, rfl, rfl, SqL.of (e02 _ _ hW), rfl, _, rfl, cl, _, _, _, rfl, rfl, SqL.of (e02 _ _ hc), atI_nat g2, (ws[i].2 : Int), rfl, nat_log (by omega), _, TT.str ws[i].2, rfl, rfl, by rw [app_len, app_len]; exact sl (by omega), ?_⟩
    exact hy _ _ rfl (Ex.refl _) (by rw [List.getElem?_eq_getElem hi]; rfl)
  intro D2 y2 H2 hD2 e2 hd2 f2
  rw [range_all] at f2
  have m2 : y2 = (ws.map fun p => Str.ofString " " ++ TT.str p.1 ++ Str.ofString "." ++ TT.str p.2).map V.str := by
    rw [F2.map_eq (f := fun i => V.str (Str.ofString " " ++ TT.str (ws[i]?.getD (0, 0)).1 ++ Str.ofString "." ++ TT.str (ws[i]?.getD (0, 0)).2)) f2]
    refine List.ext_getElem? fun i => ?_
    rw [List.getElem?_map, List.getElem?_map, List.getElem?_map]
    by_cases c : i < ws.length
    · rw [List.getElem?_range c, List.getElem?_eq_getElem c, Option.map_some, Option.map_some, List.getElem?_eq_getElem c]; rfl
    · rw [List.getElem?_eq_none (Nat.le_of_not_lt c), List.getElem?_eq_none (by rw [List.length_range]; omega)]; rfl
  rw [m2] at hd2
  clear f2 m2
  have s1 := sum_le (fun p : Nat × Nat => Str.ofString " " ++ TT.str p.1 ++ Str.ofString "-" ++ TT.str p.2) 8 rs fun p hp => by
    have b := rlt p hp
    have a1 := l3 (k := p.1) (by omega)
    have a2 := l3 (k := p.2) (by omega)
    rw [app_len, app_len, app_len]; omega
  have s2 := sum_le (fun p : Nat × Nat => Str.ofString " " ++ TT.str p.1 ++ Str.ofString "." ++ TT.str p.2) 8 ws fun p hp => by
    have b := lt p hp
    have a1 := l3 (k := p.1) (by omega)
    have a2 := l3 (k := p.2) (by omega)
    rw [app_len, app_len, app_len]; omega
  have hd1' := e2 _ _ hd1
  have el := TT.sline_law n rs ws
  rw [← el] at q
  have w1 : (rs.map fun p => Str.ofString " " ++ TT.str p.1 ++ Str.ofString "-" ++ TT.str p.2).length = rs.length := List.length_map ..
  have w2 : (ws.map fun p => Str.ofString " " ++ TT.str p.1 ++ Str.ofString "." ++ TT.str p.2).length = ws.length := List.length_map ..
  clear el
  generalize (rs.map fun p => Str.ofString " " ++ TT.str p.1 ++ Str.ofString "-" ++ TT.str p.2) = ps1 at *
  generalize (ws.map fun p => Str.ofString " " ++ TT.str p.1 ++ Str.ofString "." ++ TT.str p.2) = ps2 at *
  have j1 := TT.join_len (y := Str.empty) ps1
  have j2 := TT.join_len (y := Str.empty) ps2
  have z0 : Str.empty.length = 0 := rfl
  have cn : (Str.ofString ":").length = 1 := rfl
  have br : (Str.ofString " /").length = 2 := rfl
  have a0 := l3 (k := n) (by omega)
  rw [z0] at j1 j2
  have e12 := e1.trans e2
  dsimp only [gName]
  refine ret_at ?_
  refine ⟨_, rfl, W, _, 0, _, rfl, rfl, SqL.of (e12 _ _ hW), rfl, (n : Int), rfl, nat_log (by omega), TT.str n, Str.ofString ":", rfl, rfl, by rw [cn]; exact sl (by omega), ?_⟩
  refine ⟨⟨_, rfl⟩, _, rfl, Str.empty, D1, ps1, rfl, rfl, .inl (SqL.of hd1'), by rw [z0]; omega, _, _, rfl, rfl, by rw [app_len]; exact sl (by omega), _, Str.ofString " /", rfl, rfl, by rw [app_len, app_len]; exact sl (by omega), ?_⟩
  refine ⟨⟨_, rfl⟩, _, rfl, Str.empty, D2, ps2, rfl, rfl, .inl (SqL.of hd2), by rw [z0]; omega, _, _, rfl, rfl, by rw [app_len, app_len, app_len]; exact sl (by omega), ?_⟩
  exact q _ e12
end

end T1

namespace T1
open PySem PySem.Spec PyProof.Rows L2 G
open Evl (Ex)
local macro_rules | `(tactic| walk_at "dd") => `(tactic| (dsimp only [tCB, tCons, tNil, tC, tOp, tUn, tTest, tB, tVar, tAndV, tOrV, tNotV, tIf, tAnd, tOr, tNot, tSeq, tRet, tRetN, tIfS, tAsg, gName, tDrop, tTup, tLst, tChain, tNext, tCall, L2.start]))
section
variable {X : Cx} {K : PySem.W.Frag}
theorem passN {P : Program} {w : World} {X : Cx} : Passes (L2N.CX P w) X E0 := fun _ _ _ _ _ _ _ ⟨_, _, _, _, _, _, _, _, _, _, _, _, h⟩ => h.elim
/-- Store(a, b) -/
theorem store_mk2 {a b : Expr} {ta : TA} {p pos : Pos} (T : Tx X.K X.mg) (hr : RG 5 X.A) (hg : Gl X "Store") (ha : PA X [a, b] ta) (h : X.K = K := by rfl)
    (one : OneByOne X a [b] pos := by exact ⟨rfl, rfl⟩) :
    PE X (.Call (.Name "Store" p) [a, b] [] pos) (tGM (He.ga K "Store") 2 0 (sp_Store___init__ K) (fun us _ => us ++ [.non]) E0 ta tNil) := by
  subst h
  obtain ⟨fd, F, G⟩ := ok_Store___init__ (P := X.prog) (w := X.w) (base := X.base) T
  obtain ⟨mv, kb⟩ := FunD.kbinds0 (ps := ["self", "tree", "homes", "cells"]) F 3 [] [("cells", .non)] (fun us mv _ => us ++ mv) (by simp) (fun q hq => hq) (fun r1 r2 _ => vals_app r1 r2)
    fun D doc pm an cdv ct us mv ws h1 h2 h3 => match us, mv, ws, h1, h2, h3 with
      | [a, b, c], [m], [], _, _, _ => ⟨_, _, _, _, _, _, rfl, rfl, rfl⟩
  exact pe_gmk (mk_Store T) G hr hg (T.glo 10 rfl) kb passN ha (by decide) one
/-- Store(homes=a, tree=b) -/
theorem store_mkK2 {kws : List Keyword} {tk : TA} {p pos : Pos} (T : Tx X.K X.mg) (hr : RG 5 X.A) (hg : Gl X "Store") (hkw : PK X kws tk) (h : X.K = K := by rfl)
    (nk : NamedOnly X kws pos ["homes", "tree"] := by exact ⟨rfl, rfl, rfl⟩) :
    PE X (.Call (.Name "Store" p) [] kws pos) (tGM (He.ga K "Store") 0 2 (sp_Store___init__ K) (fun us ws => us ++ (sel [1, 0] ws ++ [.non])) E0 tNil tk) := by
  subst h
  obtain ⟨fd, F, G⟩ := ok_Store___init__ (P := X.prog) (w := X.w) (base := X.base) T
  obtain ⟨mv, kb⟩ := FunD.kbinds0 (ps := ["self", "tree", "homes", "cells"]) F 1 ["homes", "tree"] [("cells", .non)] (fun us mv ws => us ++ (sel [1, 0] ws ++ mv)) (by simp) (fun q hq => hq) (fun r1 r2 r3 => vals_app r1 (vals_app (vals_sel r3 _) r2))
    fun D doc pm an cdv ct us mv ws h1 h2 h3 => match us, mv, ws, h1, h2, h3 with
      | [a], [m], [b, c], _, _, _ => ⟨_, _, _, _, _, _, rfl, rfl, rfl⟩
  exact pe_gmk0 (mk_Store T) G hr hg (T.glo 10 rfl) kb passN hkw nk (by decide)
/-- Store(cells=a, tree=b, homes=c) -/
theorem store_mkK3 {kws : List Keyword} {tk : TA} {p pos : Pos} (T : Tx X.K X.mg) (hr : RG 5 X.A) (hg : Gl X "Store") (hkw : PK X kws tk) (h : X.K = K := by rfl)
    (nk : NamedOnly X kws pos ["cells", "tree", "homes"] := by exact ⟨rfl, rfl, rfl⟩) :
    PE X (.Call (.Name "Store" p) [] kws pos) (tGM (He.ga K "Store") 0 3 (sp_Store___init__ K) (fun us ws => us ++ sel [1, 2, 0] ws) E0 tNil tk) := by
  subst h
  obtain ⟨fd, F, G⟩ := ok_Store___init__ (P := X.prog) (w := X.w) (base := X.base) T
  obtain ⟨mv, kb⟩ := FunD.kbinds0 (ps := ["self", "tree", "homes", "cells"]) F 1 ["cells", "tree", "homes"] [] (fun us mv ws => us ++ sel [1, 2, 0] ws) (by simp) (fun q hq => absurd hq (by simp)) (fun r1 _ r3 => vals_app r1 (vals_sel r3 _))
    fun D doc pm an cdv ct us mv ws h1 h2 h3 => match us, mv, ws, h1, h2, h3 with
      | [a], [], [b, c, d], _, _, _ => rfl
  exact pe_gmk0 (mk_Store T) G hr hg (T.glo 10 rfl) kb passN hkw nk (by decide)
end
/-- a new store, of values that are taken -/
theorem store_made {K : PySem.W.Frag} {H : Hp} {t : Addr} {n : Nat} {rs Fs} {hv cv : V} {oh oc : Option PyData} {Q : Addr → Hp → Prop} (tr : TreeAt K H t n rs Fs) (vh : ValD K H hv oh) (vc : ValD K H cv oc) (lh : lenD oh ≤ 100000) (lc : lenD oc ≤ 100000)
    (okh : okH n oh = true) (okc : okC (lenD oh) oc = true) (q : ∀ x H', Ex H H' → H x = none → StoreAt K H' x n rs Fs ((homN oh).zip (celN (lenD oh) oc)) → Q x H') :
    ∀ x dx, H x = none → H dx = none → dx ≠ x → sp_Store___init__ K [.ref x, .ref t, hv, cv] (upd (upd H dx (.own x)) x (.ins (He.ga K "Store") dx [])) (fun v H3 => v = .non ∧ Q x H3) E0 := fun x dx hx hdx ne => by
  have eX : Ex H (upd (upd H dx (.own x)) x (.ins (He.ga K "Store") dx [])) := fun b o e => by rw [upd_ne (ne_of_none e hx), upd_ne (ne_of_none e hdx)]; exact e
  refine ⟨_, _, _, _, rfl, H, x, dx, t, n, rs, Fs, oh, oc, rfl, eX, hx, upd_same, rfl, tr, vh, lh, vc, lc, fun z => ?_, fun _ z => ?_, fun _ _ H' e st => ⟨rfl, q x H' e hx st⟩⟩
  · rw [okh] at z; cases z
  · rw [okc] at z; cases z
/-- homes and cells as data: the writes' -/
structure Rows2 (ws : List (Nat × Nat)) (dh dc : PyData) : Prop where
  h1 : isSeq dh = true
  h2 : items dh = (ws.map (·.1)).map intD
  c1 : isSeq dc = true
  c2 : items dc = (ws.map (·.2)).map intD
theorem Rows2.oks {ws : List (Nat × Nat)} {dh dc : PyData} {n : Nat} (r : Rows2 ws dh dc) (few : ws.length ≤ 12) (lt : ∀ p ∈ ws, p.1 < n ∧ p.2 < 6) :
    okH n (some dh) = true ∧ okC (lenD (some dh)) (some dc) = true ∧ (homN (some dh)).zip (celN (lenD (some dh)) (some dc)) = ws ∧ lenD (some dh) ≤ 100000 ∧ lenD (some dc) ≤ 100000 ∧ lenD (some dh) = ws.length := by
  obtain ⟨h1, h2, c1, c2⟩ := r
  have a : areIdx dh n = true := by
    have z := idx_ints (l := ws.map (·.1)) (n := n) fun k hk => by obtain ⟨p, hp, rfl⟩ := List.mem_map.mp hk; exact (lt p hp).1
    unfold areIdx at z ⊢
    rw [h1, h2, Bool.true_and]
    exact ((Bool.and_eq_true _ _).mp z).2
  have b : areIdx dc 6 = true := by
    have z := idx_ints (l := ws.map (·.2)) (n := 6) fun k hk => by obtain ⟨p, hp, rfl⟩ := List.mem_map.mp hk; exact (lt p hp).2
    unfold areIdx at z ⊢
    rw [c1, c2, Bool.true_and]
    exact ((Bool.and_eq_true _ _).mp z).2
  have lh : (items dh).length = ws.length := by rw [h2, List.length_map, List.length_map]
  have lc : (items dc).length = ws.length := by rw [c2, List.length_map, List.length_map]
  have nh : nats dh = ws.map (·.1) := by
    have z := nats_ints (ws.map (·.1))
    unfold nats at z ⊢
    rw [h2]; exact z
  have nc : nats dc = ws.map (·.2) := by
    have z := nats_ints (ws.map (·.2))
    unfold nats at z ⊢
    rw [c2]; exact z
  refine ⟨?_, ?_, ?_, by show (items dh).length ≤ _; omega, by show (items dc).length ≤ _; omega, lh⟩
  · show (areIdx dh n && decide ((items dh).length ≤ 12)) = true
    rw [a, Bool.true_and, decide_eq_true_eq]; omega
  · have z : (areIdx dc 6 && decide ((items dc).length = (items dh).length)) = true := by
      rw [b, Bool.true_and, decide_eq_true_eq]; omega
    cases dc <;> first | exact z | cases c1
  · have z : celN (lenD (some dh)) (some dc) = nats dc := by cases dc <;> first | rfl | cases c1
    rw [z, nc]
    show (nats dh).zip _ = ws
    rw [nh, zip_fs]
/-- homes alone, the cells all 0 -/
theorem Rows2.ok0 {ws : List (Nat × Nat)} {dh dc : PyData} {n : Nat} (r : Rows2 ws dh dc) (few : ws.length ≤ 12) (lt : ∀ p ∈ ws, p.1 < n ∧ p.2 < 6) (z : ∀ p ∈ ws, p.2 = 0) :
    (homN (some dh)).zip (celN (lenD (some dh)) (some .none)) = ws := by
  have o := (r.oks few lt).2.2.2.2.2
  have nh : nats dh = ws.map (·.1) := by
    have y := nats_ints (ws.map (·.1))
    unfold nats at y ⊢
    rw [r.h2]; exact y
  show (nats dh).zip (List.replicate (lenD (some dh)) 0) = ws
  rw [o, nh]
  clear o nh r few lt
  induction ws with
  | nil => rfl
  | cons p ws ih =>
    rw [List.map_cons, List.length_cons, List.replicate_succ, List.zip_cons_cons, ih fun q hq => z q (List.mem_cons_of_mem _ hq)]
    rw [← z p List.mem_cons_self]
def sp__law_made (K : PySem.W.Frag) : Sp := sp5 fun a b c d e H Q E => ∃ n rs ws k j dh dc, World3 K H a n rs ws ∧ b = .int k ∧ c = .int j ∧ Dq K H d dh ∧ Dq K H e dc ∧ Rows2 ws dh dc ∧ (k = 0 ∨ k = 1 → ∀ p ∈ ws, p.2 = 0) ∧ ∀ s Fs H', Ex H H' → H s = none → StoreAt K H' s n rs Fs ws → Q (.ref s) H'
section
variable {K : PySem.W.Frag} {mg : Str → Option Value} {P : Program} {w : World} {base : Heap}
theorem ok__law_made (T : Tx K mg) : Cal P w K mg base CX0 8 "_law_made" ["_law_world_here", "_law_way", "_law_turn", "_law_homes", "_law_cells"] (sp__law_made K) := by
  refine cal_of (fD__law_made T) (T.glo 34 rfl) sc__law_made (fun _ _ _ _ _ _ us hl => match us, hl with | [_, _, _, _, _], _ => rfl) (fun vs H Q E h => len5 h) (fun f cdv A outer s H vs Q E hr h => ?_)
  obtain ⟨a, b, c, d, e, rfl, h⟩ := h
  refine ⟨_, (PSs.nox (pss_cons (ps_set (i := 5) sc__law_made.nd rfl (Or.inl rfl) (tree_mk (K := K) T (hr.mono (by decide)) rfl (pa_cons (pe_ix (ix_listK (K := K)) (pv 0) pe_int (fun _ _ => rfl)) (pa_cons (pe_callTy (call_listK (K := K)) (by rfl) (T.free 8 rfl) (by decide +kernel) (pa_cons (pe_ix (ix_listK (K := K)) (pv 0) pe_int (fun _ _ => rfl)) pa_nil)) pa_nil))))
      (pss_cons (ps_if (pt_cmpR op_eq (pv 1) pe_int (nomark _)) (pss_one (ps_ret (pe_ifExp (pt_cmpR op_eq (pv 2) pe_int (nomark _)) (store_mk2 (K := K) T (hr.mono (by decide)) rfl (pa_cons (pv 5) (pa_cons (pv 3) pa_nil))) (store_mkK2 (K := K) T (hr.mono (by decide)) rfl (pk_cons (pv 3) (pk_cons (pv 5) pk_nil)))))) pss_nil)
      (pss_cons (ps_set (i := 6) sc__law_made.nd rfl (Or.inl rfl) (pe_ifExp (pt_cmpR op_eq (pv 1) pe_int (nomark _)) pe_non (pv 4)))
      (pss_one (ps_ret (pe_ifExp (pt_cmpR op_eq (pv 2) pe_int (nomark _)) (store_mkZ (K := K) (Z := fun _ => E0) T (hr.mono (by decide)) rfl passN (pa_cons (pv 5) (pa_cons (pv 3) pa_nil)) (pk_cons (pv 6) pk_nil)) (store_mkK3 (K := K) T (hr.mono (by decide)) rfl (pk_cons (pv 6) (pk_cons (pv 5) (pk_cons (pv 3) pk_nil))))))))))), ?_⟩
  obtain ⟨n, rs, ws, k, j, dh, dc, wo, rfl, rfl, hd, hc, rr, zero, q⟩ := h
  obtain ⟨⟨W, S, hl, cl, ts, rfl, hW, hS, tp, _, _⟩, ok, few, lt⟩ := wo
  refine seq_at (asg_at ?_)
  refine ⟨_, rfl, W, _, 0, _, rfl, rfl, SqL.of hW, rfl, _, rfl, W, _, 1, _, rfl, rfl, SqL.of hW, rfl, S, ts, rfl, .inl (SqL.of hS), fun L hL => ⟨rfl, rfl, ?_⟩⟩
  have eL := Evl.Ex.new (o := .lst ts) hL
  refine world_tree (d2 := .list (rs.map pairD)) ok (.int _) (.lst (SqL.of upd_same) ((tp_dqs tp).mono eL)) rfl rfl fun t H2 Fs e2 ht tr => ?_
  have e02 := eL.trans e2
  have hd2 := hd.mono e02
  have hc2 := hc.mono e02
  obtain ⟨o1, o2, o3, l1, l2, l3⟩ := rr.oks few lt
  have mkN : (∀ p ∈ ws, p.2 = 0) → ∀ x dx, H2 x = none → H2 dx = none → dx ≠ x → sp_Store___init__ K [.ref x, .ref t, d, .non] (upd (upd H2 dx (.own x)) x (.ins (He.ga K "Store") dx [])) (fun v H3 => v = .non ∧ Q (.ref x) H3) E0 := fun z =>
    store_made (oc := some .none) (oh := some dh) tr hd2 (show Dq K H2 .non .none from .non) l1 (Nat.zero_le _) o1 rfl fun x H' e hx st => q x Fs H' (e02.trans e) (Evl.fresh_back e02 hx) (by rw [rr.ok0 few lt z] at st; exact st)
  have mkC : ∀ x dx, H2 x = none → H2 dx = none → dx ≠ x → sp_Store___init__ K [.ref x, .ref t, d, e] (upd (upd H2 dx (.own x)) x (.ins (He.ga K "Store") dx [])) (fun v H3 => v = .non ∧ Q (.ref x) H3) E0 :=
    store_made (oc := some dc) (oh := some dh) tr hd2 hc2 l1 l2 o1 o2 fun x H' e hx st => q x Fs H' (e02.trans e) (Evl.fresh_back e02 hx) (by rw [o3] at st; exact st)
  have ieq : ∀ a b : Int, decide (V.int a = V.int b) = decide (a = b) := fun a b => by
    rw [(Bool.eq_iff_iff), decide_eq_true_eq, decide_eq_true_eq]
    exact ⟨fun z => V.int.inj z, fun z => by rw [z]⟩
  dsimp only [gName]
  refine seq_at (ifs_at (test_at ?_))
  refine ⟨_, rfl, rfl, _, rfl, ?_⟩
  rw [ieq]
  by_cases k0 : k = 0
  · rw [decide_eq_true k0]
    refine iteT ?_
    refine ret_at ?_
    refine ⟨_, rfl, rfl, _, rfl, ?_⟩
    by_cases j0 : j = 0
    · rw [ieq, decide_eq_true j0]
      refine iteT ?_
      exact ⟨_, rfl, _, rfl, rfl, rfl, mkN (zero (.inl k0))⟩
    · rw [ieq, decide_eq_false j0]
      refine iteF ?_
      exact ⟨_, rfl, _, rfl, rfl, rfl, mkN (zero (.inl k0))⟩
  rw [decide_eq_false k0]
  refine iteF ?_
  dsimp only [tNext]
  refine seq_at (asg_at ?_)
  refine ⟨_, rfl, rfl, _, rfl, ?_⟩
  rw [ieq]
  by_cases k1 : k = 1
  · rw [decide_eq_true k1]
    refine iteT ?_
    show gName _ _ _ _ _
    dsimp only [gName]
    refine ret_at ?_
    refine ⟨_, rfl, rfl, _, rfl, ?_⟩
    by_cases j0 : j = 0
    · rw [ieq, decide_eq_true j0]
      refine iteT ?_
      exact ⟨_, rfl, _, rfl, _, rfl, rfl, rfl, mkN (zero (.inr k1))⟩
    · rw [ieq, decide_eq_false j0]
      refine iteF ?_
      exact ⟨_, rfl, _, rfl, _, rfl, rfl, rfl, mkN (zero (.inr k1))⟩
  · rw [decide_eq_false k1]
    refine iteF ⟨_, rfl, ?_⟩
    dsimp only [gName]
    refine ret_at ?_
    refine ⟨_, rfl, rfl, _, rfl, ?_⟩
    by_cases j0 : j = 0
    · rw [ieq, decide_eq_true j0]
      refine iteT ?_
      exact ⟨_, rfl, _, rfl, _, rfl, rfl, rfl, mkC⟩
    · rw [ieq, decide_eq_false j0]
      refine iteF ?_
      exact ⟨_, rfl, _, rfl, _, rfl, rfl, rfl, mkC⟩
end

end T1

namespace T1
open PySem PySem.Spec PyProof.Rows L2 G
open Evl (Ex)
local macro_rules | `(tactic| walk_at "dd") => `(tactic| (dsimp only [tCB, tCons, tNil, tC, tOp, tUn, tTest, tB, tVar, tAndV, tOrV, tNotV, tIf, tAnd, tOr, tNot, tSeq, tRet, tRetN, tIfS, tAsg, gName, tDrop, tTup, tLst, tChain, tNext, tCall, L2.start]))
structure Tx8 (L : Nat) (z : Str) : Prop where
  ln : z.length ≤ L
  as : TT.Asc z
theorem small_str {z : Str} (h : Tx8 500 z) : Small 500 1 (.str z) where
  lf := by
    show (z.cps.toList.all fun c => decide (c < 16 ^ 8)) = true
    rw [List.all_eq_true]
    intro c hc
    have : c < 128 := h.as c hc
    rw [decide_eq_true_eq]; omega
  sh := rfl
  dp := by simp [PyData.depth]
  wt := h.ln
theorem small_rds {n : Nat} {rs : List (Nat × Nat)} (G : Good n rs) (h : n ≤ 16) (l : rs.length ≤ 16) : Small 1000 3 (.tuple (rs.map pairD)) := by
  have c : SmallAll 40 2 (rs.map pairD) := fun d hd => by
    obtain ⟨p, hp, rfl⟩ := List.mem_map.mp hd
    have := G.lt p hp
    have b : SmallAll 8 1 [intD p.1, intD p.2] := fun d hd => by
      simp only [List.mem_cons, List.not_mem_nil, or_false] at hd
      rcases hd with rfl | rfl
      · exact Small.nat (by omega)
      · exact Small.nat (by omega)
    exact (Small.tuple b).mono (by simp) (by omega)
  have z := Small.tuple c
  rw [List.length_map] at z
  exact z.mono (by omega) (by omega)
section
variable {X : Cx} {K : PySem.W.Frag}
theorem store_len (T : Tx X.K X.mg) (hr : RG 2 X.A) (h : X.K = K := by rfl) : CallR X (.builtin "len") (rLenO (He.ga K "Store") (sp_Store___len__ K) E0) := by
  subst h
  obtain ⟨fd, F, G⟩ := ok_Store___len__ (P := X.prog) (w := X.w) (base := X.base) T
  exact call_lenO ⟨(me_Store___len__ T).at_, (me_Store___len__ T).fn.symm⟩ G hr (F.bindsN fun _ _ _ _ _ _ us hl => match us, hl with | [_], _ => rfl) pass0
end
theorem small_row {l : List Nat} {m : Nat} (h : ∀ k ∈ l, k < 100) (few : l.length ≤ 12) : Small 200 2 (rowD l) := by
  have c : SmallAll 8 1 (l.map intD) := fun d hd => by
    obtain ⟨k, hk, rfl⟩ := List.mem_map.mp hd
    have := h k hk
    exact Small.nat (by omega)
  have z := Small.tuple c
  rw [List.length_map] at z
  exact z.mono (by omega) (by omega)
def isD (n : Nat) (rs ws : List (Nat × Nat)) : PyData := .list [.int (n : Int), .tuple (rs.map pairD), rowD (ws.map (·.1)), rowD (ws.map (·.2)), .int (ws.length : Int), .str (TT.sline n rs ws)]
theorem tx_sline {n : Nat} {rs ws : List (Nat × Nat)} (ok : WorldT n rs) (few : ws.length ≤ 12) (lt : ∀ p ∈ ws, p.1 < n ∧ p.2 < 6) : Tx8 500 (TT.sline n rs ws) := by
  have n16 := ok.n16
  have rl := ok.rl
  have z := TT.sline_len (n := n) (rs := rs) (ws := ws) (by omega) (fun p hp => by have := ok.sub.1 p hp; omega) (fun p hp => by have := lt p hp; omega)
  exact ⟨by omega, TT.asc_sline n rs ws⟩
theorem small_is {n : Nat} {rs ws : List (Nat × Nat)} (ok : WorldT n rs) (few : ws.length ≤ 12) (lt : ∀ p ∈ ws, p.1 < n ∧ p.2 < 6) : Small 7000 4 (isD n rs ws) := by
  have n16 := ok.n16
  have rl := ok.rl
  have c : SmallAll 1000 3 [.int (n : Int), .tuple (rs.map pairD), rowD (ws.map (·.1)), rowD (ws.map (·.2)), .int (ws.length : Int), .str (TT.sline n rs ws)] := fun d hd => by
    simp only [List.not_mem_nil, List.mem_cons, or_false] at hd
    rcases hd with rfl | rfl | rfl | rfl | rfl | rfl
    · exact (Small.nat (by omega)).mono (by omega) (by omega)
    · exact small_rds ok.good n16 (by omega)
    · exact (small_row (m := 0) (fun k hk => by obtain ⟨p, hp, rfl⟩ := List.mem_map.mp hk; have := lt p hp; omega) (by rw [List.length_map]; exact few)).mono (by omega) (by omega)
    · exact (small_row (m := 0) (fun k hk => by obtain ⟨p, hp, rfl⟩ := List.mem_map.mp hk; have := lt p hp; omega) (by rw [List.length_map]; exact few)).mono (by omega) (by omega)
    · exact (Small.nat (by omega)).mono (by omega) (by omega)
    · exact (small_str (tx_sline ok few lt)).mono (by omega) (by omega)
  exact (Small.list c).mono (by simp) (by omega)
def sp__law_is (K : PySem.W.Frag) : Sp := sp2 fun a b H Q E => ∃ n rs ws s Fs, World3 K H a n rs ws ∧ b = .ref s ∧ StoreAt K H s n rs Fs ws ∧ ∀ H', Ex H H' → Q (.bl true) H'
section
variable {K : PySem.W.Frag} {mg : Str → Option Value} {P : Program} {w : World} {base : Heap}
theorem ok__law_is (T : Tx K mg) : Cal P w K mg base CX0 8 "_law_is" ["_law_world_here", "_law_asked"] (sp__law_is K) := by
  refine cal_of (fD__law_is T) (T.glo 35 rfl) sc__law_is (fun _ _ _ _ _ _ us hl => match us, hl with | [_, _], _ => rfl) (fun vs H Q E h => len2 h) (fun f cdv A outer s H vs Q E hr h => ?_)
  obtain ⟨a, b, rfl, h⟩ := h
  refine ⟨_, (PSs.nox (pss_cons (ps_set (i := 2) sc__law_is.nd rfl (Or.inl rfl) (pe_lst (pa_cons (pe_fldK (K := K) (pe_fldK (K := K) (pv 1))) (pa_cons (pe_fldK (K := K) (pe_fldK (K := K) (pv 1))) (pa_cons (pe_fldK (K := K) (pv 1)) (pa_cons (pe_fldK (K := K) (pv 1)) (pa_cons (pe_callB (store_len (K := K) T (hr.mono (by decide))) (by rfl) (T.free 7 rfl) (by decide +kernel) (pa_cons (pv 1) pa_nil)) (pa_cons (store_line (K := K) T (hr.mono (by decide)) (pv 1)) pa_nil))))))))
      (pss_cons (ps_set (i := 3) sc__law_is.nd rfl (Or.inl rfl) (pe_lst (pa_cons (pe_ix (ix_listK (K := K)) (pv 0) pe_int (fun _ _ => rfl)) (pa_cons (pe_callTy (call_tupK (K := K)) (by rfl) (T.free 17 rfl) (by decide +kernel) (pa_cons (pe_ix (ix_listK (K := K)) (pv 0) pe_int (fun _ _ => rfl)) pa_nil)) (pa_cons (pe_callTy (call_tupK (K := K)) (by rfl) (T.free 17 rfl) (by decide +kernel) (pa_cons (pe_ix (ix_listK (K := K)) (pv 0) pe_int (fun _ _ => rfl)) pa_nil)) (pa_cons (pe_callTy (call_tupK (K := K)) (by rfl) (T.free 17 rfl) (by decide +kernel) (pa_cons (pe_ix (ix_listK (K := K)) (pv 0) pe_int (fun _ _ => rfl)) pa_nil)) (pa_cons (pe_callB (call_lenK (K := K)) (by rfl) (T.free 7 rfl) (by decide +kernel) (pa_cons (pe_ix (ix_listK (K := K)) (pv 0) pe_int (fun _ _ => rfl)) pa_nil)) (pa_cons (pe_c (ok__law_text T) (hr.mono (by decide)) rfl pass0 (pa_cons (pv 0) pa_nil)) pa_nil))))))))
      (pss_one (ps_ret (pe_and (pe_cmpR op_eq (pe_callB (call_reprK (K := K) T.sm hr.g (hu64 hr.r)) (by rfl) (T.free 12 rfl) (by decide +kernel) (pa_cons (pv 2) pa_nil)) (pe_callB (call_reprK (K := K) T.sm hr.g (hu64 hr.r)) (by rfl) (T.free 12 rfl) (by decide +kernel) (pa_cons (pv 3) pa_nil)) (nomark _)) (pe_one (pe_cmpR (tree_eq (K := K) T (hr.mono (by decide))) (pe_fldK (K := K) (pv 1)) (tree_mk (K := K) T (hr.mono (by decide)) rfl (pa_cons (pe_ix (ix_listK (K := K)) (pv 0) pe_int (fun _ _ => rfl)) (pa_cons (pe_ix (ix_listK (K := K)) (pv 0) pe_int (fun _ _ => rfl)) pa_nil))) (nomark _))))))))), ?_⟩
  obtain ⟨n, rs, ws, s0, Fs, wo, rfl, st, q⟩ := h
  have wo0 := wo
  have st0 := st
  obtain ⟨⟨W, S, hl, cl, ts, rfl, hW, hS, tp, hh, hc⟩, ok, few, lt⟩ := wo
  obtain ⟨⟨dx, t1, r1, r2, g, tr, h1, h2⟩, _, _⟩ := st
  have tr0 := tr
  obtain ⟨⟨dxT, f1, f2, f3, gT, rd, _⟩, _⟩ := id tr0
  have sm := small_is ok few lt
  refine seq_at (asg_at ?_)
  refine ⟨_, rfl, s0, _, dx, _, _, rfl, g, cl_Store T, no_Store_tree T, rfl, t1, _, dxT, _, _, rfl, gT, cl_Tree T, no_Tree_houses T, rfl, _, rfl, s0, _, dx, _, _, rfl, g, cl_Store T, no_Store_tree T, rfl, t1, _, dxT, _, _, rfl, gT, cl_Tree T, no_Tree_roads T, rfl, ?_⟩
  refine ⟨_, rfl, s0, _, dx, _, _, rfl, g, cl_Store T, no_Store_homes T, rfl, _, rfl, s0, _, dx, _, _, rfl, g, cl_Store T, no_Store_cells T, rfl, ?_⟩
  refine ⟨_, rfl, s0, rfl, st0.ins, _, rfl, s0, n, rs, Fs, ws, rfl, st0, (ws.length : Int), rfl, ⟨by omega, by omega⟩, ?_⟩
  show tCons _ tNil _ _ _
  refine cons_at ?_
  refine ⟨_, rfl, s0, dx, _, rfl, g, rfl, ?_⟩
  refine ⟨_, rfl, s0, n, rs, Fs, ws, rfl, st0, fun H1 e1 => ?_⟩
  refine ⟨(by show 6 ≤ sizeLine; decide), fun L1 hL1 => ?_⟩
  have e2 := e1.trans (Evl.Ex.new (o := .lst [iV n, f1, r1, r2, .int (ws.length : Int), .str (TT.sline n rs ws)]) hL1)
  have told : ∀ {H'}, Ex (upd H1 L1 (.lst [iV n, f1, r1, r2, .int (ws.length : Int), .str (TT.sline n rs ws)])) H' → Dq K H' (.ref L1) (isD n rs ws) := fun {H'} e => by
    have e0 := e2.trans e
    exact .lst (SqL.of (e _ _ upd_same)) (.cons (.int _) (.cons (rd.mono e0) (.cons (h1.mono e0) (.cons (h2.mono e0) (.cons (.int _) (.cons (.str _) .nil))))))
  dsimp only [gName]
  generalize upd H1 L1 (.lst [iV n, f1, r1, r2, .int (ws.length : Int), .str (TT.sline n rs ws)]) = H2 at e2 told ⊢
  have hW2 := e2 _ _ hW
  refine seq_at (asg_at ?_)
  have hll : ((ws.map (·.1)).map iV).length = ws.length := by rw [(List.length_map), (List.length_map)]
  refine ⟨_, rfl, W, _, 0, _, rfl, rfl, SqL.of hW2, rfl, _, rfl, W, _, 1, _, rfl, rfl, SqL.of hW2, rfl, S, ts, rfl, .inl ⟨SqL.of (e2 _ _ hS), fun t4 ht4 => ?_⟩⟩
  have e4 := Evl.Ex.new (o := .tup ts) ht4
  refine ⟨_, rfl, W, _, 2, _, rfl, rfl, SqL.of (e4 _ _ hW2), rfl, hl, _, rfl, .inl ⟨SqL.of (e4 _ _ (e2 _ _ hh)), fun t5 ht5 => ?_⟩⟩
  have e5 := e4.trans (Evl.Ex.new (o := .tup ((ws.map (·.1)).map iV)) ht5)
  refine ⟨_, rfl, W, _, 3, _, rfl, rfl, SqL.of (e5 _ _ hW2), rfl, cl, _, rfl, .inl ⟨SqL.of (e5 _ _ (e2 _ _ hc)), fun t6 ht6 => ?_⟩⟩
  have e56 := Evl.Ex.new (o := .tup ((ws.map (·.2)).map iV)) ht6
  have e6 := e5.trans e56
  refine ⟨_, rfl, W, _, 2, _, rfl, rfl, SqL.of (e6 _ _ hW2), rfl, hl, _, rfl, .inl (SqL.of (e6 _ _ (e2 _ _ hh))), ?_⟩
  refine ⟨_, rfl, _, rfl, n, rs, ws, wo0.mono (e2.trans e6), fun H7 e7 => ?_⟩
  refine ⟨(by show 6 ≤ sizeLine; decide), fun L2 hL2 => ?_⟩
  have rows : ∀ l : List Nat, ∀ {H' : Hp}, Dqs K H' (l.map iV) (l.map intD) := fun l H' => by
    induction l with
    | nil => exact .nil
    | cons k l ih => exact .cons (.int _) ih
  rw [hll]
  have e27 := e6.trans e7
  have due : ∀ {H'}, Ex (upd H7 L2 (.lst [iV n, .ref t4, .ref t5, .ref t6, .int (ws.length : Int), .str (TT.sline n rs ws)])) H' → Dq K H' (.ref L2) (isD n rs ws) := fun {H'} e => by
    have e8 := e7.trans ((Evl.Ex.new hL2).trans e)
    have q4 := (Evl.Ex.new (o := .tup ((ws.map (·.1)).map iV)) ht5).trans (e56.trans e8)
    have q5 := e56.trans e8
    exact .lst (SqL.of (e _ _ upd_same)) (.cons (.int _) (.cons (.tup (SqT.of (q4 _ _ upd_same)) (tp_dqs (tp.imp fun _ _ z => TP.mono (e2.trans (e4.trans q4)) z))) (.cons (.tup (SqT.of (q5 _ _ upd_same)) (rows _)) (.cons (.tup (SqT.of (e8 _ _ upd_same)) (rows _)) (.cons (.int _) (.cons (.str _) .nil))))))
  dsimp only [gName]
  have e28 := e27.trans (Evl.Ex.new (o := .lst [iV n, .ref t4, .ref t5, .ref t6, .int (ws.length : Int), .str (TT.sline n rs ws)]) hL2)
  generalize upd H7 L2 (.lst [iV n, .ref t4, .ref t5, .ref t6, .int (ws.length : Int), .str (TT.sline n rs ws)]) = H8 at due e28 ⊢
  have e08 := e2.trans e28
  refine ret_at (andv_at (op_at ?_))
  refine cb_at ⟨_, rfl, rRepr_of (told e28) sm (by omega) (by omega) ?_⟩
  refine cb_at ⟨_, rfl, rRepr_of (due (Ex.refl _)) sm (by omega) (by omega) ?_⟩
  refine ⟨rfl, _, rfl, ?_⟩
  rw [decide_eq_true rfl]
  refine iteT ?_
  refine op_at ?_
  have hW8 := e08 _ _ hW
  have hS8 := e08 _ _ hS
  refine ⟨_, rfl, s0, _, dx, _, _, rfl, e08 _ _ g, cl_Store T, no_Store_tree T, rfl, ?_⟩
  refine ⟨_, rfl, W, _, 0, _, rfl, rfl, SqL.of hW8, rfl, _, rfl, W, _, 1, _, rfl, rfl, SqL.of hW8, rfl, rfl, rfl, ?_⟩
  refine world_tree (d2 := .list (rs.map pairD)) ok (.int _) (.lst (SqL.of hS8) (tp_dqs (tp.imp fun _ _ z => TP.mono e08 z))) rfl rfl fun y H9 Fs9 e9 _ t9 => ?_
  refine eq_trees T ((tr0.mono e08).mono e9) t9 ?_
  rw [show (decide (n = n) && decide (rs = rs)) = true by simp]
  exact q _ (e08.trans e9)
end

end T1

namespace T1
open PySem PySem.Spec PyProof.Rows L2 G
open Evl (Ex)
local macro_rules | `(tactic| walk_at "dd") => `(tactic| (dsimp only [tCB, tCons, tNil, tC, tOp, tUn, tTest, tB, tVar, tAndV, tOrV, tNotV, tIf, tAnd, tOr, tNot, tSeq, tRet, tRetN, tIfS, tAsg, gName, tDrop, tTup, tLst, tChain, tNext, tCall, L2.start]))
theorem small_places {l : List Nat} {k : Nat} (few : l.length ≤ 12) : Small 200 2 (.list ((plc l k).map intD)) := by
  have ll : (plc l k).length ≤ 12 := by
    unfold plc
    have := List.length_filter_le (fun i => decide (l[i]?.getD 0 = k)) (List.range l.length)
    rw [List.length_range] at this; omega
  have c : SmallAll 8 1 ((plc l k).map intD) := fun d hd => by
    obtain ⟨j, hj, rfl⟩ := List.mem_map.mp hd
    unfold plc at hj
    have := List.mem_range.mp (List.mem_filter.mp hj).1
    exact Small.nat (by omega)
  have z := Small.list c
  rw [List.length_map] at z
  exact z.mono (by omega) (by omega)
theorem rows_dq {K : PySem.W.Frag} {H : Hp} : ∀ l : List Nat, Dqs K H (l.map iV) (l.map intD)
  | [] => .nil
  | _ :: l => .cons (.int _) (rows_dq l)
theorem its_rng {K : PySem.W.Frag} {H : Hp} {a : Addr} {n : Nat} (h : SqL K H a ((List.range n).map iV)) : ItS (Itl K a) H n (fun i => iV i) := by
  have S := its_lm h
  rw [List.length_range] at S
  refine ⟨S.go, fun i x H' H'' e hi z => ?_, S.st⟩
  have y := S.yl i x H' H'' e hi z
  rwa [nth_map (List.getElem?_range hi)] at y
def sp__law_lists (K : PySem.W.Frag) : Sp := sp3 fun a b c H Q E => ∃ n rs ws s Fs k, World3 K H a n rs ws ∧ b = .ref s ∧ StoreAt K H s n rs Fs ws ∧ c = .int k ∧ ∀ H', Ex H H' → Q (.bl true) H'
section
variable {K : PySem.W.Frag} {mg : Str → Option Value} {P : Program} {w : World} {base : Heap}
theorem ok__law_lists (T : Tx K mg) : Cal P w K mg base CX0 7 "_law_lists" ["_law_world_here", "_law_asked", "_law_turn"] (sp__law_lists K) := by
  refine cal_of (fD__law_lists T) (T.glo 36 rfl) sc__law_lists (fun _ _ _ _ _ _ us hl => match us, hl with | [_, _, _], _ => rfl) (fun vs H Q E h => len3 h) (fun f cdv A outer s H vs Q E hr h => ?_)
  obtain ⟨a, b, c, rfl, h⟩ := h
  refine ⟨_, (PSs.nox (pss_cons (ps_set (i := 3) sc__law_lists.nd rfl (Or.inl rfl) (pe_listRg rfl rfl (T.free 8 rfl) (prg_1 rfl (T.free 11 rfl) (pe_callB (call_lenK (K := K)) (by rfl) (T.free 7 rfl) (by decide +kernel) (pa_cons (pe_ix (ix_listK (K := K)) (pv 0) pe_int (fun _ _ => rfl)) pa_nil)))))
      (pss_cons (ps_for PassesOwn.never rfl (pi_range1 (by rfl) (T.free 11 rfl) (pa_cons (pe_ix (ix_listK (K := K)) (pv 0) pe_int (fun _ _ => rfl)) pa_nil)) (pg_name (i := 4) sc__law_lists.nd rfl (Or.inr rfl)) (pss_cons (ps_set (i := 5) sc__law_lists.nd rfl (Or.inl rfl) (pe_ifExp (pt_cmpR op_eq (pv 2) pe_int (nomark _)) (pe_c (ok_made_in T) (hr.mono (by decide)) rfl passL (pa_cons (pv 1) (pa_cons (pv 4) pa_nil))) (pe_ck (ks := ["house", "store"]) [1, 0] (ok_made_in T) (fD_made_in T) (fun _ _ _ _ _ _ us ws h1 h2 => match us, ws, h1, h2 with | [], [_, _], _, _ => rfl) (hr.mono (by decide)) rfl passL (pk_cons (pv 4) (pk_cons (pv 1) pk_nil)))))
      (pss_cons (ps_if (pt_cmpR op_ne (pe_callB (call_reprK (K := K) T.sm hr.g (hu64 hr.r)) (by rfl) (T.free 12 rfl) (by decide +kernel) (pa_cons (pv 5) pa_nil)) (pe_callB (call_reprK (K := K) T.sm hr.g (hu64 hr.r)) (by rfl) (T.free 12 rfl) (by decide +kernel) (pa_cons (pe_lc (own := [("_law_k", 7)]) rfl sc__law_lists.nd (pi_list (pv 3)) (blkOk_by (own := [("_law_k", 7)]) (N := ["_law_world_here", "_law_asked", "_law_turn", "_law_writes", "_law_house", "_law_told", "_law_cell_here", "_law_k"]) (sc := defScope st__law_lists) (by decide +kernel)) (fun _ _ _ _ _ => (pg_name (i := 7) sc__law_lists.nd rfl (Or.inl rfl))) (fun _ _ _ _ _ => (pts_one (pt_cmpR op_eq (pe_ix (ix_listK (K := K)) (pe_ix (ix_listK (K := K)) (pv 0) pe_int (fun _ _ => rfl)) (pv 7) (fun _ _ => rfl)) (pv 4) (nomark _)))) (fun _ _ _ _ _ => (pv 7))) pa_nil)) (nomark _)) (pss_one (ps_ret pe_bl)) pss_nil)
      (pss_one (ps_expr (pe_bm PySem.F.plainAttrs_list PySem.F.slot_list_append PySem.F.type_list_append mt_append (pv 5) (pa_cons pe_int pa_nil)))))))
      (pss_cons (ps_for PassesOwn.never rfl (pi_range1 (by rfl) (T.free 11 rfl) (pa_cons pe_int pa_nil)) (pg_name (i := 6) sc__law_lists.nd rfl (Or.inr rfl)) (pss_cons (ps_set (i := 5) sc__law_lists.nd rfl (Or.inl rfl) (pe_ifExp (pt_cmpR op_eq (pv 2) pe_int (nomark _)) (pe_c (ok_written T) (hr.mono (by decide)) rfl passL (pa_cons (pv 1) (pa_cons (pv 6) pa_nil))) (pe_ck (ks := ["cell", "store"]) [1, 0] (ok_written T) (fD_written T) (fun _ _ _ _ _ _ us ws h1 h2 => match us, ws, h1, h2 with | [], [_, _], _, _ => rfl) (hr.mono (by decide)) rfl passL (pk_cons (pv 6) (pk_cons (pv 1) pk_nil)))))
      (pss_cons (ps_if (pt_cmpR op_ne (pe_callB (call_reprK (K := K) T.sm hr.g (hu64 hr.r)) (by rfl) (T.free 12 rfl) (by decide +kernel) (pa_cons (pv 5) pa_nil)) (pe_callB (call_reprK (K := K) T.sm hr.g (hu64 hr.r)) (by rfl) (T.free 12 rfl) (by decide +kernel) (pa_cons (pe_lc (own := [("_law_k", 7)]) rfl sc__law_lists.nd (pi_list (pv 3)) (blkOk_by (own := [("_law_k", 7)]) (N := ["_law_world_here", "_law_asked", "_law_turn", "_law_writes", "_law_house", "_law_told", "_law_cell_here", "_law_k"]) (sc := defScope st__law_lists) (by decide +kernel)) (fun _ _ _ _ _ => (pg_name (i := 7) sc__law_lists.nd rfl (Or.inl rfl))) (fun _ _ _ _ _ => (pts_one (pt_cmpR op_eq (pe_ix (ix_listK (K := K)) (pe_ix (ix_listK (K := K)) (pv 0) pe_int (fun _ _ => rfl)) (pv 7) (fun _ _ => rfl)) (pv 6) (nomark _)))) (fun _ _ _ _ _ => (pv 7))) pa_nil)) (nomark _)) (pss_one (ps_ret pe_bl)) pss_nil)
      (pss_one (ps_expr (pe_bm PySem.F.plainAttrs_list PySem.F.slot_list_append PySem.F.type_list_append mt_append (pv 5) (pa_cons pe_int pa_nil)))))))
      (pss_one (ps_ret pe_bl)))))), ?_⟩
  obtain ⟨n, rs, ws, s0, Fs, k, wo, rfl, st, rfl, q⟩ := h
  obtain ⟨⟨W, S, hl, cl, ts, rfl, hW, hS, tp, hh, hc⟩, ok, few, lt⟩ := wo
  have n16 := ok.n16
  have hlen : ((ws.map (·.1)).map iV).length = ws.length := by rw [(List.length_map), (List.length_map)]
  have l12 : (ws.map (·.1)).length ≤ 12 := by rw [List.length_map]; exact few
  have c12 : (ws.map (·.2)).length ≤ 12 := by rw [List.length_map]; exact few
  refine seq_at (asg_at ?_)
  refine ⟨_, rfl, W, _, 2, _, rfl, rfl, SqL.of hW, rfl, hl, _, rfl, .inl (SqL.of hh), ?_⟩
  rw [hlen]
  refine ⟨(ws.length : Nat), rfl, ⟨by decide, by decide, by omega, by omega, by omega⟩, fun L0 hL0 => ?_⟩
  have e1 := Evl.Ex.new (o := .lst (rgV 0 ((ws.length : Nat) : Int))) hL0
  have h0 : upd H L0 (.lst (rgV 0 ((ws.length : Nat) : Int))) L0 = some (.lst ((List.range ws.length).map iV)) := by rw [upd_same, rgV_nat]; rfl
  generalize upd H L0 (.lst (rgV 0 ((ws.length : Nat) : Int))) = H1 at e1 h0 ⊢
  dsimp only [gName]
  refine seq_at ?_
  refine for_at (B := H1) (n := n) (item := fun i => .int (0 + i)) (fun P q => w_rngB (n := n) (fun Q q => ⟨_, rfl, W, _, 0, _, rfl, rfl, SqL.of (e1 _ _ hW), rfl, q⟩) (by omega) fun J H2 e S => q J H2 e (S _))
    (fun i σ' H' => (∃ s4 s5 s6 s7, σ' = [some (.ref W), some (.ref s0), some (.int k), some (.ref L0), s4, s5, s6, s7]) ∧ Ex H1 H') ?_ (fun i σ' H' z => z.2) ?_ ?_
  · exact fun H2 e2 => ⟨⟨_, _, _, _, rfl⟩, e2⟩
  · rintro i σ' H2 hi ⟨⟨s4, s5, s6, s7, rfl⟩, e2⟩
    have ei : (0 : Int) + (i : Int) = ((i : Nat) : Int) := by omega
    rw [ei]
    have st2 := st.mono (e1.trans e2)
    have hx2 := (e1.trans e2) _ _ hh
    have hW2 := (e1.trans e2) _ _ hW
    have h02 := e2 _ _ h0
    have lw : (ws.map (·.1)).length = ws.length := List.length_map ..
    have call : ∀ R : VK, (∀ v H', (∃ L, v = V.ref L ∧ H2 L = none ∧ Ex H2 H' ∧ H' L = some (.lst ((plc (ws.map (·.1)) i).map iV))) → R v H') → sp_made_in K [.ref s0, .int (i : Int)] H2 R E0 := fun R hR => by
      have idx : isIdx (.int (i : Int)) n = true := by
        show (decide ((0 : Int) ≤ i) && decide ((i : Int) < n)) = true
        rw [decide_eq_true (by omega), decide_eq_true (by omega)]; rfl
      refine ⟨_, _, rfl, s0, n, rs, Fs, ws, .int (i : Int), rfl, st2, .int _, fun z => ?_, fun _ L H' e hL hL2 => hR _ _ ⟨L, rfl, hL, e, ?_⟩⟩
      · rw [idx] at z; cases z
      · rw [show natD (.int (i : Int)) = i from rfl] at hL2
        exact hL2
    dsimp only [gName]
    refine seq_at (asg_split (fun v H' => ∃ L, v = V.ref L ∧ H2 L = none ∧ Ex H2 H' ∧ H' L = some (.lst ((plc (ws.map (·.1)) i).map iV))) ?_ ?_)
    rotate_left
    · intro R hR
      refine ⟨_, rfl, rfl, _, rfl, ?_⟩
      cases decide (V.int k = V.int 0) with
      | true =>
        refine iteT ?_
        exact ⟨_, rfl, _, rfl, call R hR⟩
      | false =>
        refine iteF ?_
        exact ⟨_, rfl, _, rfl, rfl, rfl, call R hR⟩
    rintro _ H3 ⟨L, rfl, hL2, e3, hL⟩
    dsimp only [gName]
    have sm := small_places (k := i) l12
    refine seq_at (ifs_at (test_at ?_))
    refine cb_at ⟨_, rfl, rRepr_of (d := .list ((plc (ws.map (·.1)) i).map intD)) (.lst (SqL.of hL) (rows_dq _)) sm (by omega) (by omega) ?_⟩
    refine cb_at ?_
    have s0' := SqL.of (K := K) (e3 _ _ h02)
    refine lc_at (n := ws.length) (item := fun i => iV i) (fun t => decide ((ws.map (·.1))[t]?.getD 0 = i)) (fun t D y H' => y = iV t) (line_big (by omega))
      (fun P q => ⟨_, rfl, L0, rfl, ⟨_, s0'⟩, q _ _ (Ex.refl _) (its_rng s0')⟩) (fun _ _ _ _ _ _ h => h) (fun _ _ _ _ _ _ h => h) ?_ ?_
    · intro t D4 H4 ht hD4 e4 _ Ny Nn hy hn
      have g1 : ((ws.map (·.1)).map iV)[t]? = some (iV ((ws.map (·.1))[t]?.getD 0)) := by rw [List.getElem?_map, List.getElem?_eq_getElem (by omega)]; rfl
      refine ⟨rfl, ?_⟩
      refine ⟨_, rfl, W, _, 2, _, rfl, rfl, SqL.of (e4 _ _ (e3 _ _ hW2)), rfl, _, rfl, hl, _, _, _, rfl, rfl, SqL.of (e4 _ _ (e3 _ _ hx2)), atI_nat g1, _, rfl, rfl, _, rfl, ?_⟩
      by_cases c : (ws.map (·.1))[t]?.getD 0 = i
      · rw [decide_eq_true (show iV ((ws.map (·.1))[t]?.getD 0) = V.int (i : Int) by rw [c]; rfl)]
        refine iteT ?_
        exact ⟨_, rfl, hy _ _ (decide_eq_true c) (Ex.refl _) rfl⟩
      · rw [decide_eq_false (show iV ((ws.map (·.1))[t]?.getD 0) ≠ V.int (i : Int) from fun z => c (by have := V.int.inj z; omega))]
        refine iteF ?_
        exact hn _ (decide_eq_false c) (Ex.refl _)
    intro D4 ys H4 hD4 e4 hd4 f4
    have ey : ys = (plc (ws.map (·.1)) i).map iV := by
      unfold plc
      rw [lw]
      exact F2.map_eq f4
    rw [ey] at hd4
    refine rRepr_of (d := .list ((plc (ws.map (·.1)) i).map intD)) (.lst (SqL.of hd4) (rows_dq _)) sm (by omega) (by omega) ?_
    refine ⟨rfl, _, rfl, ?_⟩
    rw [decide_eq_true rfl]
    refine iteF ?_
    dsimp only [tNext]
    have hL4 := e4 _ _ hL
    have few9 : ((plc (ws.map (·.1)) i).map iV).length < sizeLine := line_big (by
      unfold plc
      have := List.length_filter_le (fun t => decide ((ws.map (·.1))[t]?.getD 0 = i)) (List.range (ws.map (·.1)).length)
      rw [List.length_range] at this
      rw [List.length_map]; omega)
    refine ⟨_, rfl, .inl ⟨rfl, _, SqL.of hL4⟩, L, _, _, rfl, rfl, hL4, few9, ?_⟩
    exact ⟨⟨_, _, _, _, rfl⟩, Evl.Ex.mut ((e2.trans e3).trans e4) (Evl.fresh_back e2 hL2)⟩
  rintro σ' Hh ⟨⟨s4, s5, s6, s7, rfl⟩, eh⟩
  dsimp only
  refine seq_at ?_
  refine for_at (B := H1) (n := 6) (item := fun i => .int (0 + i)) (fun P q => w_rngB (n := 6) (fun Q q => q) (by omega) fun J H2 e S => q J H2 e (S _))
    (fun i σ' H' => (∃ s4 s5 s6 s7, σ' = [some (.ref W), some (.ref s0), some (.int k), some (.ref L0), s4, s5, s6, s7]) ∧ Ex H1 H') ?_ (fun i σ' H' z => z.2) ?_ ?_
  · exact fun H2 e2 => ⟨⟨_, _, _, _, rfl⟩, eh.trans e2⟩
  · rintro i σ' H2 hi ⟨⟨s4, s5, s6, s7, rfl⟩, e2⟩
    have ei : (0 : Int) + (i : Int) = ((i : Nat) : Int) := by omega
    rw [ei]
    have st2 := st.mono (e1.trans e2)
    have hx2 := (e1.trans e2) _ _ hc
    have hW2 := (e1.trans e2) _ _ hW
    have h02 := e2 _ _ h0
    have lw : (ws.map (·.2)).length = ws.length := List.length_map ..
    have call : ∀ R : VK, (∀ v H', (∃ L, v = V.ref L ∧ H2 L = none ∧ Ex H2 H' ∧ H' L = some (.lst ((plc (ws.map (·.2)) i).map iV))) → R v H') → sp_written K [.ref s0, .int (i : Int)] H2 R E0 := fun R hR => by
      have idx : isIdx (.int (i : Int)) 6 = true := by
        show (decide ((0 : Int) ≤ i) && decide ((i : Int) < 6)) = true
        rw [decide_eq_true (by omega), decide_eq_true (by omega)]; rfl
      refine ⟨_, _, rfl, s0, n, rs, Fs, ws, .int (i : Int), rfl, st2, .int _, fun z => ?_, fun _ L H' e hL hL2 => hR _ _ ⟨L, rfl, hL, e, ?_⟩⟩
      · rw [idx] at z; cases z
      · rw [show natD (.int (i : Int)) = i from rfl] at hL2
        exact hL2
    dsimp only [gName]
    refine seq_at (asg_split (fun v H' => ∃ L, v = V.ref L ∧ H2 L = none ∧ Ex H2 H' ∧ H' L = some (.lst ((plc (ws.map (·.2)) i).map iV))) ?_ ?_)
    rotate_left
    · intro R hR
      refine ⟨_, rfl, rfl, _, rfl, ?_⟩
      cases decide (V.int k = V.int 1) with
      | true =>
        refine iteT ?_
        exact ⟨_, rfl, _, rfl, call R hR⟩
      | false =>
        refine iteF ?_
        exact ⟨_, rfl, _, rfl, rfl, rfl, call R hR⟩
    rintro _ H3 ⟨L, rfl, hL2, e3, hL⟩
    dsimp only [gName]
    have sm := small_places (k := i) c12
    refine seq_at (ifs_at (test_at ?_))
    refine cb_at ⟨_, rfl, rRepr_of (d := .list ((plc (ws.map (·.2)) i).map intD)) (.lst (SqL.of hL) (rows_dq _)) sm (by omega) (by omega) ?_⟩
    refine cb_at ?_
    have s0' := SqL.of (K := K) (e3 _ _ h02)
    refine lc_at (n := ws.length) (item := fun i => iV i) (fun t => decide ((ws.map (·.2))[t]?.getD 0 = i)) (fun t D y H' => y = iV t) (line_big (by omega))
      (fun P q => ⟨_, rfl, L0, rfl, ⟨_, s0'⟩, q _ _ (Ex.refl _) (its_rng s0')⟩) (fun _ _ _ _ _ _ h => h) (fun _ _ _ _ _ _ h => h) ?_ ?_
    · intro t D4 H4 ht hD4 e4 _ Ny Nn hy hn
      have g1 : ((ws.map (·.2)).map iV)[t]? = some (iV ((ws.map (·.2))[t]?.getD 0)) := by rw [List.getElem?_map, List.getElem?_eq_getElem (by omega)]; rfl
      refine ⟨rfl, ?_⟩
      refine ⟨_, rfl, W, _, 3, _, rfl, rfl, SqL.of (e4 _ _ (e3 _ _ hW2)), rfl, _, rfl, cl, _, _, _, rfl, rfl, SqL.of (e4 _ _ (e3 _ _ hx2)), atI_nat g1, _, rfl, rfl, _, rfl, ?_⟩
      by_cases c : (ws.map (·.2))[t]?.getD 0 = i
      · rw [decide_eq_true (show iV ((ws.map (·.2))[t]?.getD 0) = V.int (i : Int) by rw [c]; rfl)]
        refine iteT ?_
        exact ⟨_, rfl, hy _ _ (decide_eq_true c) (Ex.refl _) rfl⟩
      · rw [decide_eq_false (show iV ((ws.map (·.2))[t]?.getD 0) ≠ V.int (i : Int) from fun z => c (by have := V.int.inj z; omega))]
        refine iteF ?_
        exact hn _ (decide_eq_false c) (Ex.refl _)
    intro D4 ys H4 hD4 e4 hd4 f4
    have ey : ys = (plc (ws.map (·.2)) i).map iV := by
      unfold plc
      rw [lw]
      exact F2.map_eq f4
    rw [ey] at hd4
    refine rRepr_of (d := .list ((plc (ws.map (·.2)) i).map intD)) (.lst (SqL.of hd4) (rows_dq _)) sm (by omega) (by omega) ?_
    refine ⟨rfl, _, rfl, ?_⟩
    rw [decide_eq_true rfl]
    refine iteF ?_
    dsimp only [tNext]
    have hL4 := e4 _ _ hL
    have few9 : ((plc (ws.map (·.2)) i).map iV).length < sizeLine := line_big (by
      unfold plc
      have := List.length_filter_le (fun t => decide ((ws.map (·.2))[t]?.getD 0 = i)) (List.range (ws.map (·.2)).length)
      rw [List.length_range] at this
      rw [List.length_map]; omega)
    refine ⟨_, rfl, .inl ⟨rfl, _, SqL.of hL4⟩, L, _, _, rfl, rfl, hL4, few9, ?_⟩
    exact ⟨⟨_, _, _, _, rfl⟩, Evl.Ex.mut ((e2.trans e3).trans e4) (Evl.fresh_back e2 hL2)⟩
  rintro σ' H9 ⟨⟨s4, s5, s6, s7, rfl⟩, e9⟩
  exact q _ (e1.trans e9)
end

end T1

namespace T1
open PySem PySem.Spec PyProof.Rows L2 G
open Evl (Ex)
local macro_rules | `(tactic| walk_at "dd") => `(tactic| (dsimp only [tCB, tCons, tNil, tC, tOp, tUn, tTest, tB, tVar, tAndV, tOrV, tNotV, tIf, tAnd, tOr, tNot, tSeq, tRet, tRetN, tIfS, tAsg, gName, tDrop, tTup, tLst, tChain, tNext, tCall, L2.start]))
/-- the number of one or two figures that a text writes, else -1 -/
def num2 (w : Str) : Option Nat := if w.length ≤ 2 then TT.num w else none
def num2I (w : Str) : Int := match num2 w with
  | none => -1
  | some n => (n : Int)
def sp__law_number (K : PySem.W.Frag) : Sp := sp1 fun a H Q E => ∃ w : Str, a = .str w ∧ w.length ≤ 600 ∧ ∀ H', Ex H H' → Q (.int (num2I w)) H'
section
variable {K : PySem.W.Frag} {mg : Str → Option Value} {P : Program} {w : World} {base : Heap}
theorem ok__law_number (T : Tx K mg) : Cal P w K mg base CX0 1 "_law_number" ["_law_text_here"] (sp__law_number K) := by
  refine cal_of (fD__law_number T) (T.glo 45 rfl) sc__law_number (fun _ _ _ _ _ _ us hl => match us, hl with | [_], _ => rfl) (fun vs H Q E h => len1 h) (fun f cdv A outer s H vs Q E hr h => ?_)
  obtain ⟨a, rfl, h⟩ := h
  refine ⟨_, (PSs.nox (pss_cons (ps_if (PW.pt (pw_or (pt_cmpR (op_ninK (K := K)) (pe_callB call_len_str (by rfl) (T.free 7 rfl) (by decide +kernel) (pa_cons (pv 0) pa_nil)) (pe_lst (pa_cons pe_int (pa_cons pe_int pa_nil))) (by with_unfolding_all rfl)) (pw_or1 (pt_cmpR (op_neNil (K := K) (hu0 hr.r)) (pe_lc (own := [("_law_sign", 1)]) rfl sc__law_number.nd (pi_str (pv 0)) (blkOk_by (own := [("_law_sign", 1)]) (N := ["_law_text_here", "_law_sign"]) (sc := defScope st__law_number) (by decide +kernel)) (fun _ _ _ _ _ => (pg_name (i := 1) sc__law_number.nd rfl (Or.inl rfl))) (fun _ _ _ _ _ => (pts_one (pt_cmpR op_notIn_sign (pv 1) pe_str (by with_unfolding_all rfl)))) (fun _ _ _ _ _ => (pv 1))) (pe_lst pa_nil) (nomark _))))) (pss_one (ps_ret (pe_un un_neg pe_int))) pss_nil)
      (pss_one (ps_ret (pe_ifExp (PW.pt (pw_and (pt_cmpR op_eq (pe_callB call_len_str (by rfl) (T.free 7 rfl) (by decide +kernel) (pa_cons (pv 0) pa_nil)) pe_int (nomark _)) (pw_and1 (pt_cmpR op_eq (pe_ix ix_str (pv 0) pe_int (fun _ _ => rfl)) pe_str (nomark _))))) (pe_un un_neg pe_int) (pe_callTy call_int_str (by rfl) (T.free 5 rfl) (by decide +kernel) (pa_cons (pv 0) pa_nil))))))), ?_⟩
  obtain ⟨w, rfl, hl, q⟩ := h
  obtain ⟨n1, n2, n3⟩ := num_cases w
  have none_ : num2 w = none → ∀ H', Ex H H' → Q (.int (-1)) H' := fun e H' e' => by
    have z := q H' e'
    unfold num2I at z
    rw [e] at z
    exact z
  refine seq_at (ifs_at (or_at ?_))
  refine ⟨_, rfl, w, rfl, Nat.le_of_lt (line_big (by omega)), (by show 2 ≤ sizeLine; decide), fun l0 hl0 => ?_⟩
  have e0 := Ex.new (o := .lst [V.int 1, V.int 2]) hl0
  refine ⟨l0, _, rfl, .inl (SqL.of upd_same), rfl, rfl, _, rfl, ?_⟩
  generalize upd H l0 (.lst [V.int 1, V.int 2]) = H0 at e0 ⊢
  have inq : inV (V.int (w.length : Int)) [V.int 1, V.int 2] = (decide (w.length = 1) || decide (w.length = 2)) := by
    show (((1 : Int) == (w.length : Int)) || (((2 : Int) == (w.length : Int)) || false)) = _
    rw [Bool.eq_iff_iff]
    simp only [Bool.or_eq_true, beq_iff_eq, decide_eq_true_eq, Bool.or_false]
    omega
  show (if (!inV (V.int (w.length : Int)) [V.int 1, V.int 2]) = true then _ else _)
  rw [inq]
  by_cases bad : w.length = 0 ∨ 2 < w.length
  · have z : (decide (w.length = 1) || decide (w.length = 2)) = false := by
      rw [decide_eq_false (by omega), decide_eq_false (by omega)]; rfl
    rw [z]
    refine iteT (iteT ?_)
    refine ⟨1, rfl, none_ ?_ _ e0⟩
    unfold num2
    by_cases w2 : w.length ≤ 2
    · rw [if_pos w2]
      refine n1 (TL.ext_tl ?_)
      have l0 : (TL.tl w).length = 0 := by rw [← TL.len_tl]; omega
      rw [List.length_eq_zero_iff.mp l0]; rfl
    · rw [if_neg w2]
  have w2 : w.length ≤ 2 := by omega
  have z : (decide (w.length = 1) || decide (w.length = 2)) = true := by
    by_cases l1 : w.length = 1
    · rw [decide_eq_true l1]; rfl
    · rw [decide_eq_true (show w.length = 2 by omega), Bool.or_true]
  rw [z]
  refine iteF ?_
  have c0 : w ≠ Str.ofString "" := fun z => bad (.inl (by rw [z]; rfl))
  replace q := fun H' (e' : Ex H0 H') => q H' (e0.trans e')
  replace none_ := fun (e : num2 w = none) H' (e' : Ex H0 H') => none_ e H' (e0.trans e')
  refine test_at ?_
  have ln : (TL.tl w).length = w.cps.size := (TL.len_tl w).symm
  have at_ : ∀ i, i < w.cps.size → ∃ c, (TL.tl w)[i]? = some c := fun i hi => ⟨_, List.getElem?_eq_getElem (by omega)⟩
  refine lc_at (fun i => !TT.dig ((TL.tl w)[i]?.getD 0)) (fun i D y H' => True) (line_big (n := w.cps.size) (by rw [len_size]; omega)) (fun P q => l_str rfl q) (fun _ _ _ _ _ _ h => h) (fun _ _ _ _ _ _ h => h) ?_ ?_
  · intro i D H2 hi hD e2 hacc Ny Nn hy hn
    refine ⟨rfl, ?_⟩
    obtain ⟨c, hc⟩ := at_ i hi
    refine ⟨_, rfl, c, _, by rw [sgn_at hc], rfl, _, rfl, ?_⟩
    rw [dig_mem]
    cases d : TT.dig c with
    | true => refine iteF ?_; exact hn _ (by rw [hc]; show (!TT.dig c) = false; rw [d]; rfl) (Ex.refl _)
    | false => refine iteT ?_; exact ⟨_, rfl, hy _ _ (by rw [hc]; show (!TT.dig c) = true; rw [d]; rfl) (Ex.refl _) trivial⟩
  · intro D ys H2 hD e2 hd2 f
    have yl := f.length
    refine ⟨Nat.zero_le _, fun p hp => ?_⟩
    refine ⟨D, ys, p, rfl, rfl, Evl.ex_l (Ex.new hp) (SqL.of hd2), SqL.of upd_same, _, rfl, ?_⟩
    have e3 := e2.trans (Ex.new (o := .lst []) hp)
    cases al : (TL.tl w).all TT.dig with
    | false =>
      have ne : ys.isEmpty = false := by
        obtain ⟨c, hc, cd⟩ := List.all_eq_false.mp al
        obtain ⟨i, hi, ei⟩ := List.getElem_of_mem hc
        have m : i ∈ (List.range w.cps.size).filter fun i => !TT.dig ((TL.tl w)[i]?.getD 0) := List.mem_filter.mpr ⟨List.mem_range.mpr (by omega), by
          rw [List.getElem?_eq_getElem hi, ei]; show (!TT.dig c) = true; cases d : TT.dig c with
          | true => exact absurd d cd
          | false => rfl⟩
        cases ys with
        | nil => rw [List.length_eq_zero_iff.mp yl] at m; cases m
        | cons => rfl
      rw [ne]
      refine iteT ?_
      exact ⟨_, rfl, none_ (by unfold num2; rw [if_pos w2]; exact n2 al) _ e3⟩
    | true =>
      have em : ys = [] := by
        refine List.length_eq_zero_iff.mp (yl.symm.trans (List.length_eq_zero_iff.mpr (List.filter_eq_nil_iff.mpr fun i hi => ?_)))
        obtain ⟨c, hc⟩ := at_ i (List.mem_range.mp hi)
        have d := List.all_eq_true.mp al c (List.mem_of_getElem? hc)
        rw [hc]
        show ¬ (!TT.dig c) = true
        rw [d]; simp
      rw [em]
      refine iteF ?_
      obtain ⟨c, ⟨hc, it⟩ | big⟩ := n3 c0 al
      rotate_left
      · omega
      have num_is : TT.num w = if ((TL.tl w).tail.isEmpty || c != 48) = true then some (NumText.digitsVal (TL.tl w)) else none := by
        unfold TT.num
        cases e : TL.tl w with
        | nil => rw [e] at hc; cases hc
        | cons c' r =>
          rw [e] at hc al
          cases hc
          rw [TT.numS_cons, al, Bool.true_and]; rfl
      have e4 := e3
      have fine : TT.num w = some (NumText.digitsVal (TL.tl w)) → ∀ H', Ex H0 H' → Q (V.int ((NumText.digitsVal (TL.tl w) : Nat) : Int)) H' := fun e H' e' => by
        have z := q H' e'
        unfold num2I num2 at z
        rw [if_pos w2, e] at z
        exact z
      have wl : w.length ≤ sizeLine := Nat.le_of_lt (line_big (by omega))
      have tl_ : (TL.tl w).tail.isEmpty = decide (w.length ≤ 1) := by
        have lw := TL.len_tl w
        cases e : TL.tl w with
        | nil => rw [e] at hc; cases hc
        | cons c' r =>
          rw [e] at lw
          cases r with
          | nil => rw [lw]; rfl
          | cons d r => rw [lw]; simp
      refine ⟨_, rfl, w, rfl, wl, rfl, _, rfl, ?_⟩
      by_cases l2 : w.length = 2
      · rw [decide_eq_true (show V.int (w.length : Int) = V.int 2 by rw [l2]; rfl)]
        refine iteT ⟨_, rfl, w, 0, c, rfl, rfl, wl, atI_nat (j := 0) hc, rfl, _, rfl, ?_⟩
        rw [decide_eq_false (show ¬ w.length ≤ 1 by omega)] at tl_
        by_cases c48 : c = 48
        · subst c48
          rw [decide_eq_true (show V.str (⟨#[48]⟩ : Str) = V.str (Str.ofString "0") by decide +kernel)]
          refine iteT ⟨1, rfl, none_ ?_ _ e3⟩
          unfold num2
          rw [if_pos w2, num_is, tl_]; rfl
        · rw [decide_eq_false (show ¬ V.str (⟨#[c]⟩ : Str) = V.str (Str.ofString "0") from fun z => c48 (by
              have y : (⟨#[c]⟩ : Str) = ⟨#[48]⟩ := (V.str.inj z).trans (show Str.ofString "0" = ⟨#[48]⟩ by decide +kernel)
              exact one_str.mp y))]
          refine iteF ⟨_, rfl, _, _, rfl, it, by omega, fine ?_ _ e3⟩
          rw [num_is, if_pos]
          rw [Bool.or_eq_true]
          exact .inr (by simpa using c48)
      · rw [decide_eq_false (show V.int (w.length : Int) ≠ V.int 2 from fun z => l2 (by have := V.int.inj z; omega))]
        rw [decide_eq_true (show w.length ≤ 1 by omega)] at tl_
        refine iteF (iteF ⟨_, rfl, _, _, rfl, it, by omega, fine ?_ _ e3⟩)
        rw [num_is, tl_]; rfl
end

end T1

namespace T1
open PySem PySem.Spec PyProof.Rows L2 G
open Evl (Ex)
local macro_rules | `(tactic| walk_at "dd") => `(tactic| (dsimp only [tCB, tCons, tNil, tC, tOp, tUn, tTest, tB, tVar, tAndV, tOrV, tNotV, tIf, tAnd, tOr, tNot, tSeq, tRet, tRetN, tIfS, tAsg, gName, tDrop, tTup, tLst, tChain, tNext, tCall, L2.start]))
def sp__law_barred (K : PySem.W.Frag) : Sp := sp4 fun a b c e H Q E => ∃ s n rs Fs ws d1 d2 k, a = .ref s ∧ StoreAt K H s n rs Fs ws ∧ Dq K H b d1 ∧ isIdx d1 n = false ∧ Dq K H c d2 ∧ isIdx d2 6 = false ∧ Small 5000 8 (.list [d1, d2]) ∧ e = .int k ∧ ∀ H', Ex H H' → Q (.bl true) H'
section
variable {K : PySem.W.Frag} {mg : Str → Option Value} {P : Program} {w : World} {base : Heap}
theorem ok__law_barred (T : Tx K mg) : Cal P w K mg base CX0 8 "_law_barred" ["_law_asked", "_law_value", "_law_other_here", "_law_turn"] (sp__law_barred K) := by
  refine cal_of (fD__law_barred T) (T.glo 43 rfl) sc__law_barred (fun _ _ _ _ _ _ us hl => match us, hl with | [_, _, _, _], _ => rfl) (fun vs H Q E h => len4 h) (fun f cdv A outer s H vs Q E hr h => ?_)
  obtain ⟨a, b, c, d, rfl, h⟩ := h
  refine ⟨_, (PSs.nox (pss_cons (ps_tryAs (i := 4) rfl rfl sc__law_barred.nd rfl rfl (fun W pn xe tk po => (pss_cons (ps_if (pt_cmpR op_eq (pv 3) pe_int (nomark _)) (pss_one (ps_expr (pe_cW (ok_made_in T) (hr.mono (by decide)) rfl tk (pa_cons (pv 0) (pa_cons (pv 1) pa_nil))))) (pss_one (ps_expr (pe_ckW (ks := ["store", "house"]) [0, 1] (ok_made_in T) (fD_made_in T) (fun _ _ _ _ _ _ us ws h1 h2 => match us, ws, h1, h2 with | [], [_, _], _, _ => rfl) (hr.mono (by decide)) rfl tk (pk_cons (pv 0) (pk_cons (pv 1) pk_nil))))))
      (pss_one (ps_ret pe_bl)))) (HdsAs.cons ⟨rfl, by decide, .inl (T.glo 3 rfl)⟩ (fun ax oe cls dx pn hz hf => (pss_one (ps_set (i := 5) sc__law_barred.nd rfl (Or.inl rfl) (pe_xf (T.err 2 rfl).xf ((T.err 2 rfl).no "given" (by simp)) hz hf (pv 4))))) HdsAs.nil))
      (pss_one (ps_tryAs (i := 4) rfl rfl sc__law_barred.nd rfl rfl (fun W pn xe tk po => (pss_cons (ps_if (pt_cmpR op_eq (pv 3) pe_int (nomark _)) (pss_one (ps_expr (pe_cW (ok_written T) (hr.mono (by decide)) rfl tk (pa_cons (pv 0) (pa_cons (pv 2) pa_nil))))) (pss_one (ps_expr (pe_ckW (ks := ["store", "cell"]) [0, 1] (ok_written T) (fD_written T) (fun _ _ _ _ _ _ us ws h1 h2 => match us, ws, h1, h2 with | [], [_, _], _, _ => rfl) (hr.mono (by decide)) rfl tk (pk_cons (pv 0) (pk_cons (pv 2) pk_nil))))))
      (pss_one (ps_ret pe_bl)))) (HdsAs.cons ⟨rfl, by decide, .inl (T.glo 7 rfl)⟩ (fun ax oe cls dx pn hz hf => (pss_one (ps_ret (pe_cmpR op_eq (pe_callB (call_reprK (K := K) T.sm hr.g (let z := hu64 hr.r; z)) (by rfl) (T.free 12 rfl) (by decide +kernel) (pa_cons (pe_lst (pa_cons (pv 5) (pa_cons (pe_xf (T.err 6 rfl).xf ((T.err 6 rfl).no "given" (by simp)) hz hf (pv 4)) pa_nil))) pa_nil)) (pe_callB (call_reprK (K := K) T.sm hr.g (let z := hu64 hr.r; z)) (by rfl) (T.free 12 rfl) (by decide +kernel) (pa_cons (pe_lst (pa_cons (pv 1) (pa_cons (pv 2) pa_nil))) pa_nil)) (nomark _))))) HdsAs.nil))))), ?_⟩
  obtain ⟨s0, n, rs, Fs, ws, d1, d2, k, rfl, st, h1, i1, h2, i2, sm, rfl, q⟩ := h
  have made : ∀ (R : VK) (E' : XK), Err1 K E' H "InvalidHouse" "given" b → sp_made_in K [.ref s0, b] H R E' := fun R E' he => ⟨_, _, rfl, s0, n, rs, Fs, ws, d1, rfl, st, h1, fun _ => he, fun z => by rw [i1] at z; cases z⟩
  refine seq_at ?_
  refine seq_at (ifs_at (test_at ?_))
  refine ⟨_, rfl, rfl, _, rfl, ?_⟩
  cases decide (V.int k = V.int 0)
  case true =>
    refine iteT ?_
    refine ⟨_, rfl, _, rfl, made _ _ ?_⟩
    intro d' H' ex hx
    refine ⟨true, T.exm (x := "InvalidHouse") (y := "InvalidHouse") 2 2 rfl rfl rfl, fun _ ax hax => ?_, fun z => nomatch z⟩
    refine ⟨_, rfl, rfl, rfl, d', _, _, rfl, hx, rfl, ?_⟩
    dsimp only [gName, Ends.gone]
    have wrt_ : ∀ (R : VK) (E' : XK), Err1 K E' H' "InvalidCell" "given" c → sp_written K [.ref s0, c] H' R E' := fun R E' he => ⟨_, _, rfl, s0, n, rs, Fs, ws, d2, rfl, st.mono ex, h2.mono ex, fun _ => he, fun z => by rw [i2] at z; cases z⟩
    refine seq_at (ifs_at (test_at ?_))
    refine ⟨_, rfl, rfl, _, rfl, ?_⟩
    cases decide (V.int k = V.int 1)
    case true =>
      refine iteT ?_
      refine ⟨_, rfl, _, rfl, wrt_ _ _ ?_⟩
      intro d3 H3 e3 hx3
      refine ⟨true, T.exm (x := "InvalidCell") (y := "InvalidCell") 6 6 rfl rfl rfl, fun _ ax3 hax3 => ?_, fun z => nomatch z⟩
      dsimp only
      refine ret_at (op_at (cb_at ?_))
      have e03 := ex.trans e3
      refine ⟨_, rfl, _, rfl, rfl, rfl, d3, _, _, rfl, hx3, rfl, (by show 2 ≤ sizeLine; decide), fun l1 hl1 => ?_⟩
      have e4 := e03.trans (Ex.new (o := .lst [b, c]) hl1)
      refine rRepr_of (d := .list [d1, d2]) (.lst (SqL.of upd_same) (.cons (h1.mono e4) (.cons (h2.mono e4) .nil))) sm (by omega) (by omega) ?_
      refine cb_at ?_
      refine ⟨_, rfl, _, rfl, (by show 2 ≤ sizeLine; decide), fun l2 hl2 => ?_⟩
      have e5 := e4.trans (Ex.new (o := .lst [b, c]) hl2)
      refine rRepr_of (d := .list [d1, d2]) (.lst (SqL.of upd_same) (.cons (h1.mono e5) (.cons (h2.mono e5) .nil))) sm (by omega) (by omega) ?_
      refine ⟨rfl, ?_⟩
      rw [decide_eq_true rfl]
      exact q _ e5
    case false =>
      refine iteF ?_
      refine ⟨_, rfl, _, rfl, rfl, rfl, wrt_ _ _ ?_⟩
      intro d3 H3 e3 hx3
      refine ⟨true, T.exm (x := "InvalidCell") (y := "InvalidCell") 6 6 rfl rfl rfl, fun _ ax3 hax3 => ?_, fun z => nomatch z⟩
      dsimp only
      refine ret_at (op_at (cb_at ?_))
      have e03 := ex.trans e3
      refine ⟨_, rfl, _, rfl, rfl, rfl, d3, _, _, rfl, hx3, rfl, (by show 2 ≤ sizeLine; decide), fun l1 hl1 => ?_⟩
      have e4 := e03.trans (Ex.new (o := .lst [b, c]) hl1)
      refine rRepr_of (d := .list [d1, d2]) (.lst (SqL.of upd_same) (.cons (h1.mono e4) (.cons (h2.mono e4) .nil))) sm (by omega) (by omega) ?_
      refine cb_at ?_
      refine ⟨_, rfl, _, rfl, (by show 2 ≤ sizeLine; decide), fun l2 hl2 => ?_⟩
      have e5 := e4.trans (Ex.new (o := .lst [b, c]) hl2)
      refine rRepr_of (d := .list [d1, d2]) (.lst (SqL.of upd_same) (.cons (h1.mono e5) (.cons (h2.mono e5) .nil))) sm (by omega) (by omega) ?_
      refine ⟨rfl, ?_⟩
      rw [decide_eq_true rfl]
      exact q _ e5
  case false =>
    refine iteF ?_
    refine ⟨_, rfl, _, rfl, rfl, rfl, made _ _ ?_⟩
    intro d' H' ex hx
    refine ⟨true, T.exm (x := "InvalidHouse") (y := "InvalidHouse") 2 2 rfl rfl rfl, fun _ ax hax => ?_, fun z => nomatch z⟩
    refine ⟨_, rfl, rfl, rfl, d', _, _, rfl, hx, rfl, ?_⟩
    dsimp only [gName, Ends.gone]
    have wrt_ : ∀ (R : VK) (E' : XK), Err1 K E' H' "InvalidCell" "given" c → sp_written K [.ref s0, c] H' R E' := fun R E' he => ⟨_, _, rfl, s0, n, rs, Fs, ws, d2, rfl, st.mono ex, h2.mono ex, fun _ => he, fun z => by rw [i2] at z; cases z⟩
    refine seq_at (ifs_at (test_at ?_))
    refine ⟨_, rfl, rfl, _, rfl, ?_⟩
    cases decide (V.int k = V.int 1)
    case true =>
      refine iteT ?_
      refine ⟨_, rfl, _, rfl, wrt_ _ _ ?_⟩
      intro d3 H3 e3 hx3
      refine ⟨true, T.exm (x := "InvalidCell") (y := "InvalidCell") 6 6 rfl rfl rfl, fun _ ax3 hax3 => ?_, fun z => nomatch z⟩
      dsimp only
      refine ret_at (op_at (cb_at ?_))
      have e03 := ex.trans e3
      refine ⟨_, rfl, _, rfl, rfl, rfl, d3, _, _, rfl, hx3, rfl, (by show 2 ≤ sizeLine; decide), fun l1 hl1 => ?_⟩
      have e4 := e03.trans (Ex.new (o := .lst [b, c]) hl1)
      refine rRepr_of (d := .list [d1, d2]) (.lst (SqL.of upd_same) (.cons (h1.mono e4) (.cons (h2.mono e4) .nil))) sm (by omega) (by omega) ?_
      refine cb_at ?_
      refine ⟨_, rfl, _, rfl, (by show 2 ≤ sizeLine; decide), fun l2 hl2 => ?_⟩
      have e5 := e4.trans (Ex.new (o := .lst [b, c]) hl2)
      refine rRepr_of (d := .list [d1, d2]) (.lst (SqL.of upd_same) (.cons (h1.mono e5) (.cons (h2.mono e5) .nil))) sm (by omega) (by omega) ?_
      refine ⟨rfl, ?_⟩
      rw [decide_eq_true rfl]
      exact q _ e5
    case false =>
      refine iteF ?_
      refine ⟨_, rfl, _, rfl, rfl, rfl, wrt_ _ _ ?_⟩
      intro d3 H3 e3 hx3
      refine ⟨true, T.exm (x := "InvalidCell") (y := "InvalidCell") 6 6 rfl rfl rfl, fun _ ax3 hax3 => ?_, fun z => nomatch z⟩
      dsimp only
      refine ret_at (op_at (cb_at ?_))
      have e03 := ex.trans e3
      refine ⟨_, rfl, _, rfl, rfl, rfl, d3, _, _, rfl, hx3, rfl, (by show 2 ≤ sizeLine; decide), fun l1 hl1 => ?_⟩
      have e4 := e03.trans (Ex.new (o := .lst [b, c]) hl1)
      refine rRepr_of (d := .list [d1, d2]) (.lst (SqL.of upd_same) (.cons (h1.mono e4) (.cons (h2.mono e4) .nil))) sm (by omega) (by omega) ?_
      refine cb_at ?_
      refine ⟨_, rfl, _, rfl, (by show 2 ≤ sizeLine; decide), fun l2 hl2 => ?_⟩
      have e5 := e4.trans (Ex.new (o := .lst [b, c]) hl2)
      refine rRepr_of (d := .list [d1, d2]) (.lst (SqL.of upd_same) (.cons (h1.mono e5) (.cons (h2.mono e5) .nil))) sm (by omega) (by omega) ?_
      refine ⟨rfl, ?_⟩
      rw [decide_eq_true rfl]
      exact q _ e5
end

end T1

namespace T1
open PySem PySem.Spec PyProof.Rows L2 G
open Evl (Ex)
local macro_rules | `(tactic| walk_at "dd") => `(tactic| (dsimp only [tCB, tCons, tNil, tC, tOp, tUn, tTest, tB, tVar, tAndV, tOrV, tNotV, tIf, tAnd, tOr, tNot, tSeq, tRet, tRetN, tIfS, tAsg, gName, tDrop, tTup, tLst, tChain, tNext, tCall, L2.start]))
theorem ifs_split {c : L2.TT} {a u : TS} {D : Ends} {σ : L2.St} {H : Hp} (S : L2.St → Hp → Prop) (hr : ∀ σ1 H1, S σ1 H1 → u D σ1 H1) (h : ∀ R : L2.St → Hp → Prop, (∀ σ1 H1, S σ1 H1 → R σ1 H1) → c σ H fun b H1 => if b = true then a { D with nx := R } σ H1 else R σ H1) : tSeq (tIfS c a tNext) u D σ H := h (u D) hr
theorem cut_drop {α : Type} (f : α → V) (l : List α) (i : Nat) : cutV (l.map f) (some (i : Int)) none = (l.drop i).map f := by
  unfold cutV
  rw [HT.sIx_none, HT.sIx_nat, List.map_drop, List.length_map]
  have e : (l.map f).drop (min i l.length) = (l.map f).drop i := by
    by_cases c : i ≤ l.length
    · rw [Nat.min_eq_left c]
    · rw [Nat.min_eq_right (by omega), List.drop_of_length_le (by simp), List.drop_of_length_le (by rw [List.length_map]; omega)]
  rw [e]
  exact List.take_of_length_le (by rw [List.length_drop, List.length_map]; omega)

theorem seq_split {t u : TS} {D : Ends} {σ : L2.St} {H : Hp} (S : L2.St → Hp → Prop) (hr : ∀ σ1 H1, S σ1 H1 → u D σ1 H1) (h : ∀ R : L2.St → Hp → Prop, (∀ σ1 H1, S σ1 H1 → R σ1 H1) → t { D with nx := R } σ H) : tSeq t u D σ H := h (u D) hr
/-- two rows that become the writes: the homes and the cells -/
structure HC (H : Hp) (A B C : Addr) (n : Nat) (hs cs : List Nat) : Prop where
  h : H B = some (.lst (hs.map iV))
  c : H C = some (.lst (cs.map iV))
  ne : B ≠ A ∧ C ≠ A ∧ B ≠ C
  l : hs.length = cs.length
  few : hs.length ≤ 12
  lh : ∀ k ∈ hs, k < n
  lc : ∀ k ∈ cs, k < 6
theorem maxI (k : Nat) : (if (k : Int) > 1 then (k : Int) else 1) = ((max 1 k : Nat) : Int) := by
  by_cases c : (k : Int) > 1
  · rw [if_pos c]; omega
  · rw [if_neg c]; omega
theorem int_eqb (a b : Nat) : decide (V.int (a : Int) = V.int (b : Int)) = decide (a = b) := by
  by_cases e : a = b
  · rw [decide_eq_true e, e]; exact decide_eq_true rfl
  · rw [decide_eq_false e, decide_eq_false fun z => e (by have := V.int.inj z; omega)]
theorem iV_at {l : List Nat} {i : Nat} (h : i < l.length) : (l.map iV)[i]? = some (iV (l[i]?.getD 0)) := by
  rw [List.getElem?_map, List.getElem?_eq_getElem h]; rfl
theorem mem_at {l : List Nat} {i : Nat} (h : i < l.length) : l[i]?.getD 0 ∈ l := by
  rw [List.getElem?_eq_getElem h]; exact List.getElem_mem h
theorem set_iV (l : List Nat) (i k : Nat) : (l.map iV).set i (iV k) = (l.set i k).map iV := by rw [List.map_set]
theorem set_all {P : Nat → Prop} {l : List Nat} {i k : Nat} (h : ∀ x ∈ l, P x) (hk : P k) : ∀ x ∈ l.set i k, P x := fun x m => by
  rcases List.mem_or_eq_of_mem_set m with z | z
  · exact h x z
  · rw [z]; exact hk
theorem minI (a b : Nat) : (if ((b : Int) - 1) < (a : Int) then ((b : Int) - 1) else (a : Int)) = if b ≤ a then ((b : Int) - 1) else (a : Int) := by
  by_cases c : b ≤ a
  · rw [if_pos c, if_pos (by omega)]
  · rw [if_neg c, if_neg (by omega)]
/-- what stands while the other store is told -/
structure OSt (H H' : Hp) (A P B C : Addr) (n : Nat) (rs : List (Nat × Nat)) (ts : List V) (hs cs : List Nat) (c : Nat) : Prop where
  e : Ex (L2.del H A) H'
  bx : BoxAt H' A c
  t1 : H' P = some (.lst ts)
  hc : HC H' A B C n hs cs
  fB : L2.del H A B = none
  fC : L2.del H A C = none
  nB : P ≠ B
  nC : P ≠ C
  nA : P ≠ A
  ok : WorldT n rs
  tp : F2 (TP (L2.del H' A)) rs ts
theorem TP.delU {H : Hp} {A B : Addr} {ys zs : List V} {p : Nat × Nat} {v : V} (hB : H B = some (.lst ys)) (h : TP (L2.del H A) p v) : TP (L2.del (upd H B (.lst zs)) A) p v := by
  obtain ⟨t, e, z⟩ := h
  have tA : t ≠ A := fun q => by rw [q, del_same] at z; cases z
  rw [del_ne tA] at z
  exact ⟨t, e, by rw [del_ne tA, upd_ne (ne_of z hB (by intro y; cases y))]; exact z⟩
section
variable {H H' H'' : Hp} {A P B C : Addr} {n : Nat} {rs : List (Nat × Nat)} {ts : List V} {hs cs : List Nat} {c : Nat}
theorem OSt.take {d : Nat} (S : OSt H H' A P B C n rs ts hs cs c) (e : Ex (L2.del H' A) H'') (b : BoxAt H'' A d) : OSt H H'' A P B C n rs ts hs cs d :=
  ⟨ex_of_del S.e del_same e, b, del_get e S.nA S.t1, ⟨del_get e S.hc.ne.1 S.hc.h, del_get e S.hc.ne.2.1 S.hc.c, S.hc.ne, S.hc.l, S.hc.few, S.hc.lh, S.hc.lc⟩, S.fB, S.fC, S.nB, S.nC, S.nA, S.ok, S.tp.imp fun _ _ z => z.mono (ex_dels e)⟩
theorem OSt.grow (S : OSt H H' A P B C n rs ts hs cs c) (e : Ex H' H'') : OSt H H'' A P B C n rs ts hs cs c := S.take (Ex.ofDel.trans e) (S.bx.mono e)
theorem OSt.setB (S : OSt H H' A P B C n rs ts hs cs c) {i k : Nat} (hk : k < n) : OSt H (upd H' B (.lst ((hs.set i k).map iV))) A P B C n rs ts (hs.set i k) cs c := by
  obtain ⟨x0, b0, y0, k0, z, r⟩ := S.bx
  exact ⟨Evl.Ex.mut S.e S.fB, ⟨x0, b0, y0, k0, by rw [upd_ne S.hc.ne.1.symm]; exact z, r⟩, by rw [upd_ne S.nB]; exact S.t1,
    ⟨upd_same, by rw [upd_ne S.hc.ne.2.2.symm]; exact S.hc.c, S.hc.ne, by rw [List.length_set]; exact S.hc.l, by rw [List.length_set]; exact S.hc.few, set_all S.hc.lh hk, S.hc.lc⟩, S.fB, S.fC, S.nB, S.nC, S.nA, S.ok, S.tp.imp fun _ _ z => TP.delU S.hc.h z⟩
theorem OSt.setC (S : OSt H H' A P B C n rs ts hs cs c) {i k : Nat} (hk : k < 6) : OSt H (upd H' C (.lst ((cs.set i k).map iV))) A P B C n rs ts hs (cs.set i k) c := by
  obtain ⟨x0, b0, y0, k0, z, r⟩ := S.bx
  exact ⟨Evl.Ex.mut S.e S.fC, ⟨x0, b0, y0, k0, by rw [upd_ne S.hc.ne.2.1.symm]; exact z, r⟩, by rw [upd_ne S.nC]; exact S.t1,
    ⟨by rw [upd_ne S.hc.ne.2.2]; exact S.hc.h, upd_same, S.hc.ne, by rw [List.length_set]; exact S.hc.l, S.hc.few, S.hc.lh, set_all S.hc.lc hk⟩, S.fB, S.fC, S.nB, S.nC, S.nA, S.ok, S.tp.imp fun _ _ z => TP.delU S.hc.c z⟩
/-- two new rows -/
theorem OSt.two (S : OSt H H' A P B C n rs ts hs cs c) {B' C' : Addr} {hs' cs' : List Nat} (e : Ex H' H'') (nB : H' B' = none) (nC : H' C' = none) (h1 : H'' B' = some (.lst (hs'.map iV))) (h2 : H'' C' = some (.lst (cs'.map iV))) (ne : B' ≠ C') (l : hs'.length = cs'.length) (few : hs'.length ≤ 12)
    (lh : ∀ k ∈ hs', k < n) (lc : ∀ k ∈ cs', k < 6) : OSt H H'' A P B' C' n rs ts hs' cs' c := by
  obtain ⟨l0, hA⟩ := S.bx.some
  have G := S.grow e
  exact ⟨G.e, G.bx, G.t1, ⟨h1, h2, ⟨(ne_of_none hA nB).symm, (ne_of_none hA nC).symm, ne⟩, l, few, lh, lc⟩, Evl.fresh_back S.e nB, Evl.fresh_back S.e nC, ne_of_none S.t1 nB, ne_of_none S.t1 nC, S.nA, S.ok, G.tp⟩
end
def sp__law_other (K : PySem.W.Frag) : Sp := sp3 fun a b c H Q E => ∃ (A : Addr) (c0 k : Nat) (n : Nat) (rs ws : List (Nat × Nat)), a = .ref A ∧ World3 K (L2.del H A) b n rs ws ∧ c = .int (k : Int) ∧ c0 ≤ 700000 ∧ BoxAt H A c0 ∧ ∀ w m qs us H', Ex (L2.del H A) H' → BoxAt H' A (c0 + 50) → World3 K (L2.del H' A) w m qs us → Q w H'
section
variable {K : PySem.W.Frag} {mg : Str → Option Value} {P : Program} {w : World} {base : Heap}
theorem ok__law_other (T : Tx K mg) : Cal P w K mg base CX0 4 "_law_other" ["_law_box_here", "_law_world_here", "_law_kind"] (sp__law_other K) := by
  refine cal_of (fD__law_other T) (T.glo 37 rfl) sc__law_other (fun _ _ _ _ _ _ us hl => match us, hl with | [_, _, _], _ => rfl) (fun vs H Q E h => len3 h) (fun f cdv A outer s H vs Q E hr h => ?_)
  obtain ⟨a, b, c, rfl, h⟩ := h
  refine ⟨_, (PSs.nox (pss_cons (ps_asg (pe_tup (pa_cons (pe_ix (ix_listK (K := K)) (pv 1) pe_int (fun _ _ => rfl)) (pa_cons (pe_callTy (call_listK (K := K)) (by rfl) (T.free 8 rfl) (by decide +kernel) (pa_cons (pe_ix (ix_listK (K := K)) (pv 1) pe_int (fun _ _ => rfl)) pa_nil)) (pa_cons (pe_callTy (call_listK (K := K)) (by rfl) (T.free 8 rfl) (by decide +kernel) (pa_cons (pe_ix (ix_listK (K := K)) (pv 1) pe_int (fun _ _ => rfl)) pa_nil)) (pa_cons (pe_callTy (call_listK (K := K)) (by rfl) (T.free 8 rfl) (by decide +kernel) (pa_cons (pe_ix (ix_listK (K := K)) (pv 1) pe_int (fun _ _ => rfl)) pa_nil)) pa_nil))))) (pg_tup (n := 4) rfl (pgs_cons (pg_name (i := 3) sc__law_other.nd rfl (Or.inr rfl)) (pgs_cons (pg_name (i := 4) sc__law_other.nd rfl (Or.inl rfl)) (pgs_cons (pg_name (i := 5) sc__law_other.nd rfl (Or.inl rfl)) (pgs_cons (pg_name (i := 6) sc__law_other.nd rfl (Or.inl rfl)) pgs_nil))))))
      (pss_cons (ps_par (i := 7) (j := 8) rfl sc__law_other.nd rfl rfl (by decide) rfl rfl (pa_cons (pe_c (ok__law_take T) (hr.mono (by decide)) rfl pass0 (pa_cons (pv 0) (pa_cons (pe_callB (call_max2 rfl) (by rfl) (T.free 9 rfl) (by decide +kernel) (pa_cons pe_int (pa_cons (pe_callB (call_lenK (K := K)) (by rfl) (T.free 7 rfl) (by decide +kernel) (pa_cons (pv 5) pa_nil)) pa_nil))) pa_nil))) (pa_cons (pe_op op_add pe_int (pe_c (ok__law_take T) (hr.mono (by decide)) rfl pass0 (pa_cons (pv 0) (pa_cons pe_int pa_nil)))) pa_nil)) (by rfl))
      (pss_cons (ps_if (PW.pt (pw_and (pt_cmpR op_eq (pv 2) pe_int (nomark _)) (pw_and1 (pt_cmpR (op_neNil (K := K) (hu0 hr.r)) (pv 5) (pe_lst pa_nil) (nomark _))))) (pss_one (ps_asg (pe_op op_mod (pe_callTy call_int1 (by rfl) (T.free 5 rfl) (by decide +kernel) (pa_cons (pe_op op_add (pe_ix (ix_listK (K := K)) (pv 5) (pv 7) (fun _ _ => rfl)) pe_int) pa_nil)) (pv 3)) (pg_sub (pv 5) (pv 7) set_list))) pss_nil)
      (pss_cons (ps_if (PW.pt (pw_and (pt_cmpR op_eq (pv 2) pe_int (nomark _)) (pw_and1 (pt_cmpR (op_neNil (K := K) (hu0 hr.r)) (pv 6) (pe_lst pa_nil) (nomark _))))) (pss_one (ps_asg (pe_op op_mod (pe_callTy call_int1 (by rfl) (T.free 5 rfl) (by decide +kernel) (pa_cons (pe_op op_add (pe_ix (ix_listK (K := K)) (pv 6) (pv 7) (fun _ _ => rfl)) (pv 8)) pa_nil)) pe_int) (pg_sub (pv 6) (pv 7) set_list))) pss_nil)
      (pss_cons (ps_if (PW.pt (pw_and (pt_cmpR op_eq (pv 2) pe_int (nomark _)) (pw_and1 (pt_cmpR op_lt (pe_callB (call_lenK (K := K)) (by rfl) (T.free 7 rfl) (by decide +kernel) (pa_cons (pv 5) pa_nil)) pe_int (nomark _))))) (pss_one (ps_par (i := 5) (j := 6) rfl sc__law_other.nd rfl rfl (by decide) rfl rfl (pa_cons (pe_op op_cat (pv 5) (pe_lst (pa_cons (pe_op op_sub (pv 3) pe_int) pa_nil))) (pa_cons (pe_op op_cat (pv 6) (pe_lst (pa_cons pe_int pa_nil))) pa_nil)) (by rfl))) (pss_one (ps_if (pt_cmpR op_eq (pv 2) pe_int (nomark _)) (pss_one (ps_par (i := 5) (j := 6) rfl sc__law_other.nd rfl rfl (by decide) rfl rfl (pa_cons (pe_slice (sl_listK (K := K)) (pv 5) (po_some pe_int) po_none) (pa_cons (pe_slice (sl_listK (K := K)) (pv 6) (po_some pe_int) po_none) pa_nil)) (by rfl))) pss_nil)))
      (pss_cons (ps_if (pt_cmpR op_eq (pv 2) pe_int (nomark _)) (pss_cons (ps_asg (pe_c (ok__law_tree T) (hr.mono (by decide)) rfl pass0 (pa_cons (pv 0) pa_nil)) (pg_lst rfl (pgs_cons (pg_name (i := 3) sc__law_other.nd rfl (Or.inr rfl)) (pgs_cons (pg_name (i := 4) sc__law_other.nd rfl (Or.inl rfl)) pgs_nil))))
      (pss_one (ps_setLc (i := 5) (own := [("_law_home", 9)]) rfl sc__law_other.nd rfl rfl (sw_true rfl rfl rfl (by decide +kernel)) (pi_list (pv 5)) (blkOk_by (own := [("_law_home", 9)]) (N := ["_law_box_here", "_law_world_here", "_law_kind", "_law_houses", "_law_roads", "_law_homes", "_law_cells", "_law_at", "_law_step", "_law_home"]) (sc := defScope st__law_other) (by decide +kernel)) (fun _ _ _ _ _ => (pg_name (i := 9) sc__law_other.nd rfl (Or.inl rfl))) (fun _ _ _ _ _ => pts_nil) (fun _ _ _ _ _ => (pe_callB (call_min2 rfl) (by rfl) (T.free 10 rfl) (by decide +kernel) (pa_cons (pv 9) (pa_cons (pe_op op_sub (pv 3) pe_int) pa_nil))))))) pss_nil)
      (pss_one (ps_ret (pe_lst (pa_cons (pv 3) (pa_cons (pv 4) (pa_cons (pv 5) (pa_cons (pv 6) pa_nil)))))))))))))), ?_⟩
  obtain ⟨A, c0, k, n, rs, ws, rfl, wo, rfl, c9, hb, q⟩ := h
  have d0 : Ex (L2.del H A) H := Ex.ofDel
  obtain ⟨l0, hA⟩ := hb.some
  have wd := wo
  obtain ⟨⟨W, S, hl, cl, ts, rfl, hW, hS, tp, hh, hc⟩, ok, few, lt⟩ := wo.mono d0
  have tpD : F2 (TP (L2.del H A)) rs ts := by
    obtain ⟨⟨_, S', _, _, ts', q0, q1, q2, q3, _⟩, _⟩ := wd
    cases q0
    have z := d0 _ _ q1
    rw [hW] at z
    cases z
    have y := d0 _ _ q2
    rw [hS] at y
    cases y
    exact q3
  have n1 := ok.n1
  have n16 := ok.n16
  have lh : (ws.map (·.1)).length = ws.length := List.length_map ..
  refine seq_at (asg_at ?_)
  refine ⟨_, rfl, W, _, 0, _, rfl, rfl, SqL.of hW, rfl, _, rfl, W, _, 1, _, rfl, rfl, SqL.of hW, rfl, S, ts, rfl, .inl (SqL.of hS), fun p1 hL1 => ?_⟩
  have x1 := Evl.Ex.new (o := .lst ts) hL1
  refine ⟨_, rfl, W, _, 2, _, rfl, rfl, SqL.of (x1 _ _ hW), rfl, hl, _, rfl, .inl (SqL.of (x1 _ _ hh)), fun p2 hL2 => ?_⟩
  have x2 := x1.trans (Evl.Ex.new (o := .lst ((ws.map (·.1)).map iV)) hL2)
  refine ⟨_, rfl, W, _, 3, _, rfl, rfl, SqL.of (x2 _ _ hW), rfl, cl, _, rfl, .inl (SqL.of (x2 _ _ hc)), fun p3 hL3 => ⟨(by show 4 ≤ sizeLine; decide), fun t ht => ?_⟩⟩
  have y2 := Evl.Ex.new (o := .lst ((ws.map (·.1)).map iV)) hL2
  have y3 := Evl.Ex.new (o := .lst ((ws.map (·.2)).map iV)) hL3
  have yt := Evl.Ex.new (o := .tup [iV n, .ref p1, .ref p2, .ref p3]) ht
  refine ⟨t, _, rfl, SqT.of upd_same, rfl, _, _, rfl, _, _, rfl, _, _, rfl, _, _, rfl, rfl, ?_⟩
  dsimp only
  have xt := x2.trans (y3.trans yt)
  have g1 := (y2.trans (y3.trans yt)) _ _ (upd_same (H := H) (a := p1) (o := .lst ts))
  have g2 := (y3.trans yt) _ _ (upd_same (a := p2) (o := .lst ((ws.map (·.1)).map iV)))
  have g3 := yt _ _ (upd_same (a := p3) (o := .lst ((ws.map (·.2)).map iV)))
  have n2 : p2 ≠ A := (ne_of_none (x1 _ _ hA) hL2).symm
  have n3 : p3 ≠ A := (ne_of_none (x2 _ _ hA) hL3).symm
  have n23 : p2 ≠ p3 := ne_of_none (upd_same (a := p2)) hL3
  have m12 : p1 ≠ p2 := ne_of_none (upd_same (a := p1)) hL2
  have m13 : p1 ≠ p3 := ne_of_none ((Evl.Ex.new hL2) _ _ (upd_same (a := p1))) hL3
  have n1A : p1 ≠ A := (ne_of_none hA hL1).symm
  have hb2 := hb.mono xt
  have exA : Ex (L2.del H A) (upd (upd (upd (upd H p1 (.lst ts)) p2 (.lst ((ws.map (·.1)).map iV))) p3 (.lst ((ws.map (·.2)).map iV))) t (.tup [iV n, .ref p1, .ref p2, .ref p3])) := d0.trans xt
  have tp2 := tp.imp fun _ _ z => TP.mono xt z
  have f2 := Evl.fresh_back d0 (Evl.fresh_back x1 hL2)
  have f3 := Evl.fresh_back d0 (Evl.fresh_back x2 hL3)
  generalize upd (upd (upd (upd H p1 (.lst ts)) p2 (.lst ((ws.map (·.1)).map iV))) p3 (.lst ((ws.map (·.2)).map iV))) t (.tup [iV n, .ref p1, .ref p2, .ref p3]) = H2 at exA g1 g2 g3 hb2 tp2 ⊢
  have hc0 : HC H2 A p2 p3 n (ws.map (·.1)) (ws.map (·.2)) := ⟨g2, g3, ⟨n2, n3, n23⟩, by rw [(List.length_map), (List.length_map)], by rw [lh]; exact few, fun x m => by obtain ⟨p, hp, rfl⟩ := List.mem_map.mp m; exact (lt p hp).1, fun x m => by obtain ⟨p, hp, rfl⟩ := List.mem_map.mp m; exact (lt p hp).2⟩
  have fr : L2.del H A p2 = none ∧ L2.del H A p3 = none := ⟨f2, f3⟩
  have tpA : F2 (TP (L2.del H A)) rs ts := tpD
  clear x1 x2 y2 y3 yt xt ht hL1 hL2 hL3 f2 f3

  refine seq_at ?_
  refine ⟨_, rfl, _, rfl, p2, _, rfl, .inl (SqL.of g2), _, _, rfl, _, _, rfl, A, max 1 ws.length, c0, rfl, (by rw [List.length_map, lh, maxI]), by omega, by omega, by omega, hb2, fun at_ H3 hat e3 hb3 => ?_⟩
  refine ⟨_, rfl, _, _, rfl, A, 5, c0 + 1, rfl, rfl, by decide, by decide, by omega, hb3, fun st H4 hst e4 hb4 => ?_⟩
  refine ⟨_, _, rfl, rfl, _, _, rfl, ?_⟩
  dsimp only [List.set]
  have n12 : p1 ≠ p2 := m12
  have S0 : OSt H H4 A p1 p2 p3 n rs ts (ws.map (·.1)) (ws.map (·.2)) (c0 + 2) := ⟨ex_of_del (ex_of_del exA del_same e3) del_same e4, hb4, del_get e4 n1A (del_get e3 n1A g1), ⟨del_get e4 n2 (del_get e3 n2 hc0.h), del_get e4 n3 (del_get e3 n3 hc0.c), hc0.ne, hc0.l, hc0.few, hc0.lh, hc0.lc⟩, fr.1, fr.2, m12, m13, n1A, ok, tpA.imp fun _ _ z => z.mono (ex_dels (ex_of_del (ex_of_del exA del_same e3) del_same e4))⟩
  clear hc0 g1 g2 g3 tp2
  let σf : Nat → List (Nat × Nat) → Addr → Addr → Addr → L2.St := fun m _ P B C => [some (.ref A), some (.ref W), some (.int (k : Int)), some (.int (m : Int)), some (.ref P), some (.ref B), some (.ref C), some (.int (at_ : Int)), some (.int (1 + (st : Int))), none]
  refine ifs_split (fun σ' H' => ∃ hs, hs.length = ws.length ∧ σ' = σf n rs p1 p2 p3 ∧ OSt H H' A p1 p2 p3 n rs ts hs (ws.map (·.2)) (c0 + 2)) ?_ ?_
  rotate_left
  · intro R hR
    refine ⟨_, rfl, rfl, _, rfl, ?_⟩
    rw [show decide (V.int (k : Int) = V.int 1) = decide (k = 1) from int_eqb k 1]
    by_cases k1 : k = 1
    rotate_left
    · rw [decide_eq_false k1]
      exact iteF (iteF (hR _ _ ⟨_, lh, rfl, S0⟩))
    rw [decide_eq_true k1]
    refine iteT ?_
    refine ⟨_, rfl, Nat.zero_le _, fun p hp => ?_⟩
    have ep := Evl.Ex.new (o := .lst []) hp
    refine ⟨_, _, p, rfl, rfl, SqL.of (ep _ _ S0.hc.h), SqL.of upd_same, _, rfl, ?_⟩
    have S1 := S0.grow ep
    generalize upd H4 p (.lst []) = H5 at S1 ⊢
    cases em : ((ws.map (·.1)).map iV).isEmpty with
    | true => exact iteF (hR _ _ ⟨_, lh, rfl, S1⟩)
    | false =>
      have pos : 1 ≤ ws.length := by
        cases ws with
        | nil => cases em
        | cons => exact Nat.succ_le_succ (Nat.zero_le _)
      have ha : at_ < (ws.map (·.1)).length := by rw [lh]; omega
      refine iteT (asg_at ?_)
      refine ⟨_, rfl, _, rfl, p2, _, _, _, rfl, rfl, SqL.of S1.hc.h, atI_nat (iV_at ha), _, _, rfl, rfl, .inl ⟨_, rfl, _, rfl, _, _, rfl, rfl, by omega, ?_⟩⟩
      have eq : (((ws.map (·.1))[at_]?.getD 0 : Nat) + 1 : Int) % (n : Int) = (((ws.map (·.1))[at_]?.getD 0 + 1) % n : Nat) := rfl
      refine ⟨_, rfl, _, rfl, p2, _, _, at_, rfl, rfl, S1.hc.h, Evl.ixN_nat (by rw [List.length_map]; exact ha), ?_⟩
      refine hR _ _ ⟨(ws.map (·.1)).set at_ (((ws.map (·.1))[at_]?.getD 0 + 1) % n), by rw [List.length_set, lh], rfl, ?_⟩
      have z := S1.setB (i := at_) (k := ((ws.map (·.1))[at_]?.getD 0 + 1) % n) (Nat.mod_lt _ (by omega))
      rw [← set_iV] at z
      dsimp only
      rw [eq]
      exact z
  rintro _ H5 ⟨hs1, l1, rfl, S1⟩
  have c12 : (ws.map (·.2)).length = ws.length := List.length_map ..
  refine ifs_split (fun σ' H' => ∃ cs, σ' = σf n rs p1 p2 p3 ∧ OSt H H' A p1 p2 p3 n rs ts hs1 cs (c0 + 2)) ?_ ?_
  rotate_left
  · intro R hR
    refine ⟨_, rfl, rfl, _, rfl, ?_⟩
    rw [show decide (V.int (k : Int) = V.int 2) = decide (k = 2) from int_eqb k 2]
    by_cases k2 : k = 2
    rotate_left
    · rw [decide_eq_false k2]
      exact iteF (iteF (hR _ _ ⟨_, rfl, S1⟩))
    rw [decide_eq_true k2]
    refine iteT ?_
    refine ⟨_, rfl, Nat.zero_le _, fun p hp => ?_⟩
    have ep := Evl.Ex.new (o := .lst []) hp
    refine ⟨_, _, p, rfl, rfl, SqL.of (ep _ _ S1.hc.c), SqL.of upd_same, _, rfl, ?_⟩
    have S2 := S1.grow ep
    generalize upd H5 p (.lst []) = H6 at S2 ⊢
    cases em : ((ws.map (·.2)).map iV).isEmpty with
    | true => exact iteF (hR _ _ ⟨_, rfl, S2⟩)
    | false =>
      have pos : 1 ≤ ws.length := by
        cases ws with
        | nil => cases em
        | cons => exact Nat.succ_le_succ (Nat.zero_le _)
      have ha : at_ < (ws.map (·.2)).length := by rw [c12]; omega
      refine iteT (asg_at ?_)
      refine ⟨_, rfl, _, rfl, p3, _, _, _, rfl, rfl, SqL.of S2.hc.c, atI_nat (iV_at ha), _, rfl, _, _, rfl, rfl, .inl ⟨_, rfl, _, _, rfl, rfl, (by show (0 : Int) < 6; decide), ?_⟩⟩
      have eq : (((ws.map (·.2))[at_]?.getD 0 : Nat) + (1 + (st : Int)) : Int) % 6 = (((ws.map (·.2))[at_]?.getD 0 + (1 + st)) % 6 : Nat) := by omega
      refine ⟨_, rfl, _, rfl, p3, _, _, at_, rfl, rfl, S2.hc.c, Evl.ixN_nat (by rw [List.length_map]; exact ha), ?_⟩
      refine hR _ _ ⟨(ws.map (·.2)).set at_ (((ws.map (·.2))[at_]?.getD 0 + (1 + st)) % 6), rfl, ?_⟩
      have z := S2.setC (i := at_) (k := ((ws.map (·.2))[at_]?.getD 0 + (1 + st)) % 6) (Nat.mod_lt _ (by omega))
      rw [← set_iV] at z
      dsimp only
      rw [eq]
      exact z
  rintro _ H6 ⟨cs1, rfl, S2⟩
  have lc1 : cs1.length = hs1.length := S2.hc.l.symm
  have f1 : hs1.length ≤ 12 := S2.hc.few
  refine seq_split (fun σ' H' => ∃ B C hs cs, σ' = σf n rs p1 B C ∧ OSt H H' A p1 B C n rs ts hs cs (c0 + 2)) ?_ ?_
  rotate_left
  · intro R hR
    refine ifs_at ⟨_, rfl, rfl, _, rfl, ?_⟩
    rw [show decide (V.int (k : Int) = V.int 3) = decide (k = 3) from int_eqb k 3]
    by_cases k3 : k = 3
    rotate_left
    · rw [decide_eq_false k3]
      refine iteF (iteF (ifs_at (test_at ⟨_, rfl, rfl, _, rfl, ?_⟩)))
      rw [show decide (V.int (k : Int) = V.int 3) = decide (k = 3) from int_eqb k 3, decide_eq_false k3]
      exact iteF (hR _ _ ⟨_, _, _, _, rfl, S2⟩)
    rw [decide_eq_true k3]
    refine iteT ?_
    refine ⟨_, rfl, p2, _, rfl, .inl (SqL.of S2.hc.h), _, _, rfl, rfl, _, rfl, ?_⟩
    rw [show decide (((hs1.map iV).length : Int) < 12) = decide (hs1.length < 12) by rw [List.length_map, Bool.eq_iff_iff, decide_eq_true_eq, decide_eq_true_eq]; omega]
    by_cases c12 : hs1.length < 12
    · rw [decide_eq_true c12]
      refine iteT ?_
      have x := S2.hc
      refine ⟨_, rfl, _, rfl, _, _, rfl, rfl, (by show 1 ≤ sizeLine; decide), fun a1 h1 => ?_⟩
      have e1 := Evl.Ex.new (o := .lst [V.int ((n : Int) - 1)]) h1
      have g1 : upd H6 a1 (.lst [V.int ((n : Int) - 1)]) a1 = some (.lst [V.int ((n : Int) - 1)]) := upd_same
      dsimp only
      generalize upd H6 a1 (.lst [V.int ((n : Int) - 1)]) = J1 at e1 g1 ⊢
      refine ⟨p2, a1, _, _, rfl, rfl, e1 _ _ x.h, g1, Nat.le_of_lt (line_big (by simp; omega)), fun a2 h2 => ?_⟩
      have e2 := Evl.Ex.new (o := .lst (hs1.map iV ++ [V.int ((n : Int) - 1)])) h2
      have g2 : upd J1 a2 (.lst (hs1.map iV ++ [V.int ((n : Int) - 1)])) a2 = some (.lst (hs1.map iV ++ [V.int ((n : Int) - 1)])) := upd_same
      generalize upd J1 a2 (.lst (hs1.map iV ++ [V.int ((n : Int) - 1)])) = J2 at e2 g2 ⊢
      refine ⟨_, rfl, (by show 1 ≤ sizeLine; decide), fun a3 h3 => ?_⟩
      have e3 := Evl.Ex.new (o := .lst [V.int 0]) h3
      have g3 : upd J2 a3 (.lst [V.int 0]) a3 = some (.lst [V.int 0]) := upd_same
      generalize upd J2 a3 (.lst [V.int 0]) = J3 at e3 g3 ⊢
      refine ⟨p3, a3, _, _, rfl, rfl, (e1.trans (e2.trans e3)) _ _ x.c, g3, Nat.le_of_lt (line_big (by simp; omega)), fun a4 h4 => ?_⟩
      have e4 := Evl.Ex.new (o := .lst (cs1.map iV ++ [V.int 0])) h4
      have e14 := e1.trans (e2.trans (e3.trans e4))
      refine ⟨_, _, rfl, hR _ _ ⟨a2, a4, hs1 ++ [n - 1], cs1 ++ [0], rfl, S2.two e14 (Evl.fresh_back e1 h2) (Evl.fresh_back (e1.trans (e2.trans e3)) h4) ?_ ?_ (ne_of_none (e3 _ _ g2) h4) (by rw [List.length_append, List.length_append, lc1]; rfl) (by rw [List.length_append]; show hs1.length + 1 ≤ 12; omega) ?_ ?_⟩⟩
      · rw [(e3.trans e4) _ _ g2, List.map_append]
        show some (HO.lst (_ ++ [V.int ((n : Int) - 1)])) = some (HO.lst (_ ++ [V.int ((n - 1 : Nat) : Int)]))
        rw [show ((n - 1 : Nat) : Int) = (n : Int) - 1 by omega]
      · rw [upd_same, List.map_append]; rfl
      · intro z m
        rcases (List.mem_append.mp m) with m | m
        · exact x.lh z m
        · rw [List.mem_singleton.mp m]; omega
      · intro z m
        rcases (List.mem_append.mp m) with m | m
        · exact x.lc z m
        · rw [List.mem_singleton.mp m]; decide
    · rw [decide_eq_false c12]
      refine iteF (ifs_at (test_at ⟨_, rfl, rfl, _, rfl, ?_⟩))
      rw [show decide (V.int (k : Int) = V.int 3) = decide (k = 3) from int_eqb k 3, decide_eq_true k3]
      refine iteT ?_
      have x := S2.hc
      refine ⟨_, rfl, _, rfl, p2, _, rfl, SqL.of x.h, fun a1 h1 => ?_⟩
      rw [show cutV (hs1.map iV) (some 1) none = (hs1.drop 1).map iV from cut_drop iV hs1 1]
      have e1 := Evl.Ex.new (o := .lst ((hs1.drop 1).map iV)) h1
      have g1 : upd H6 a1 (.lst ((hs1.drop 1).map iV)) a1 = some (.lst ((hs1.drop 1).map iV)) := upd_same
      generalize upd H6 a1 (.lst ((hs1.drop 1).map iV)) = J1 at e1 g1 ⊢
      refine ⟨_, rfl, _, rfl, p3, _, rfl, SqL.of (e1 _ _ x.c), fun a2 h2 => ?_⟩
      rw [show cutV (cs1.map iV) (some 1) none = (cs1.drop 1).map iV from cut_drop iV cs1 1]
      have e2 := Evl.Ex.new (o := .lst ((cs1.drop 1).map iV)) h2
      refine ⟨_, _, rfl, hR _ _ ⟨a1, a2, hs1.drop 1, cs1.drop 1, rfl, S2.two (e1.trans e2) h1 (Evl.fresh_back e1 h2) (e2 _ _ g1) upd_same (ne_of_none g1 h2) (by rw [List.length_drop, List.length_drop, lc1]) (by rw [List.length_drop]; omega) (fun z m => x.lh z (List.mem_of_mem_drop m)) fun z m => x.lc z (List.mem_of_mem_drop m)⟩⟩
  rintro _ H7 ⟨B, C, hs2, cs2, rfl, S3⟩
  have lc2 : cs2.length = hs2.length := S3.hc.l.symm
  have f2 : hs2.length ≤ 12 := S3.hc.few
  refine ifs_split (fun σ' H' => ∃ (m : Nat) (qs : List (Nat × Nat)) (P : Addr) (us : List V) (B : Addr) (hs : List Nat) (x9 : Option V), σ' = [some (.ref A), some (.ref W), some (.int (k : Int)), some (.int (m : Int)), some (.ref P), some (.ref B), some (.ref C), some (.int (at_ : Int)), some (.int (1 + (st : Int))), x9] ∧ OSt H H' A P B C m qs us hs cs2 (c0 + 42)) ?_ ?_
  rotate_left
  · intro R hR
    refine ⟨_, rfl, rfl, _, rfl, ?_⟩
    rw [show decide (V.int (k : Int) = V.int 4) = decide (k = 4) from int_eqb k 4]
    by_cases k4 : k = 4
    rotate_left
    · rw [decide_eq_false k4]
      exact iteF (hR _ _ ⟨_, _, _, _, _, _, _, rfl, S3.take Ex.ofDel (S3.bx.up (by omega))⟩)
    rw [decide_eq_true k4]
    refine iteT (seq_at (asg_at ?_))
    refine ⟨_, rfl, _, rfl, A, c0 + 2, rfl, by omega, S3.bx, fun w m qs H8 e8 hb8 wo1 wo2 => ?_⟩
    have S4 := S3.take e8 (hb8.up (d := c0 + 42) (by omega))
    obtain ⟨l7, hA7⟩ := S3.bx.some
    obtain ⟨⟨w8, s8, us, rfl, hw8, hs8, tp8⟩, ok8⟩ := wo2 A l7 hA7
    have hw8' := Ex.ofDel _ _ hw8
    have hs8' := Ex.ofDel _ _ hs8
    have sA : s8 ≠ A := fun q => by rw [q, del_same] at hs8; cases hs8
    have m1 := ok8.n1
    refine ⟨w8, _, rfl, SqL.of hw8', rfl, _, _, rfl, _, _, rfl, rfl, ?_⟩
    dsimp only
    refine asg_at ?_
    have lx : (hs2.map iV).length = hs2.length := List.length_map ..
    refine lc_at (n := hs2.length) (item := _root_.G.nth (hs2.map iV)) (fun _ => true) (fun i D y H' => y = iV (min (hs2[i]?.getD 0) (m - 1))) (line_big (by omega)) (fun P q => ⟨_, rfl, B, rfl, ⟨_, SqL.of S4.hc.h⟩, q _ _ (Ex.refl _) (lx ▸ its_l (SqL.of S4.hc.h))⟩) (fun _ _ _ _ _ _ h => h) (fun _ _ _ _ _ _ h => h) ?_ ?_
    · intro i D H9 hi hD e9 hacc Ny Nn hy _
      have nt : _root_.G.nth (hs2.map iV) i = iV (hs2[i]?.getD 0) := by unfold _root_.G.nth; rw [iV_at hi]; rfl
      rw [nt]
      refine ⟨rfl, ?_⟩
      refine ⟨_, rfl, _, rfl, _, _, rfl, rfl, _, _, rfl, ?_⟩
      have z : (if ((m : Int) - 1) < ((hs2[i]?.getD 0 : Nat) : Int) then ((m : Int) - 1) else ((hs2[i]?.getD 0 : Nat) : Int)) = ((min (hs2[i]?.getD 0) (m - 1) : Nat) : Int) := by
        split <;> omega
      exact hy _ _ rfl (Ex.refl _) (congrArg V.int z)
    · intro D ys H9 hD e9 hd9 f9
      rw [range_all] at f9
      have ey := F2.map_eq f9
      have ey2 : ys = (hs2.map fun h => min h (m - 1)).map iV := by
        rw [ey, List.map_map]
        refine List.ext_getElem? fun i => ?_
        rw [(List.getElem?_map), (List.getElem?_map)]
        by_cases hi : i < hs2.length
        · rw [List.getElem?_range hi, List.getElem?_eq_getElem hi]; simp [hi]
        · rw [List.getElem?_eq_none (by rw [List.length_range]; omega), List.getElem?_eq_none (by omega)]; rfl
      rw [ey2] at hd9
      dsimp only [gName]
      have S9 := S4.grow e9
      obtain ⟨l8, hA8⟩ := hb8.some
      refine hR _ _ ⟨m, qs, s8, us, D, hs2.map fun h => min h (m - 1), _, rfl, ⟨S9.e, S9.bx, e9 _ _ hs8', ⟨hd9, S9.hc.c, ⟨(ne_of_none hA8 hD).symm, S4.hc.ne.2.1, (ne_of_none S4.hc.c hD).symm⟩, by rw [List.length_map]; exact S4.hc.l, by rw [List.length_map]; exact f2, fun x hx => ?_, S4.hc.lc⟩, Evl.fresh_back S4.e hD, S4.fC, ne_of_none hs8' hD, ?_, sA, ok8.t, tp8.imp fun _ _ z => TP.mono (Ex.del e9) z⟩⟩
      · obtain ⟨y, _, rfl⟩ := List.mem_map.mp hx
        omega
      · obtain ⟨⟨w8', s8', _, q1, q2, q3, _⟩, _⟩ := wo2 C _ S3.hc.c
        cases q1
        have q2' := Ex.ofDel _ _ q2
        rw [hw8'] at q2'
        cases q2'
        exact fun z => by rw [z, del_same] at q3; cases q3
  rintro _ H8 ⟨m, qs, P, us, B', hs, x9, rfl, S4⟩
  refine ret_at ?_
  refine ⟨_, rfl, _, rfl, _, rfl, _, rfl, (by show 4 ≤ sizeLine; decide), fun w hw => ?_⟩
  have ew := Evl.Ex.new (o := .lst [iV m, .ref P, .ref B', .ref C]) hw
  obtain ⟨l8, hA8⟩ := S4.bx.some
  have wA : w ≠ A := (ne_of_none hA8 hw).symm
  have S5 := S4.grow ew
  have mp := zip_maps S4.hc.l
  refine q (.ref w) m qs (hs.zip cs2) _ S5.e (S5.bx.up (by omega)) ⟨⟨w, P, B', C, us, rfl, ?_, ?_, S5.tp, ?_, ?_⟩, S5.ok, ?_, fun p hp => ?_⟩
  · rw [del_ne wA]; exact upd_same
  · rw [del_ne S5.nA]; exact S5.t1
  · rw [del_ne S5.hc.ne.1, mp.1]; exact S5.hc.h
  · rw [del_ne S5.hc.ne.2.1, mp.2]; exact S5.hc.c
  · rw [List.length_zip]
    have := S4.hc.few
    omega
  · have z := List.of_mem_zip hp
    exact ⟨S4.hc.lh _ z.1, S4.hc.lc _ z.2⟩
end

end T1

namespace T1
open PySem PySem.Spec PyProof.Rows L2 G
open Evl (Ex)
local macro_rules | `(tactic| walk_at "dd") => `(tactic| (dsimp only [tCB, tCons, tNil, tC, tOp, tUn, tTest, tB, tVar, tAndV, tOrV, tNotV, tIf, tAnd, tOr, tNot, tSeq, tRet, tRetN, tIfS, tAsg, gName, tDrop, tTup, tLst, tChain, tNext, tCall, L2.start]))
theorem cut_take {α : Type} (f : α → V) (l : List α) (i : Nat) : cutV (l.map f) none (some (i : Int)) = (l.take i).map f := by
  unfold cutV
  rw [HT.sIx_none, HT.sIx_nat, List.drop_zero, Nat.sub_zero, List.map_take, List.length_map]
  by_cases c : i ≤ l.length
  · rw [Nat.min_eq_left c]
  · rw [Nat.min_eq_right (by omega), List.take_of_length_le (by simp), List.take_of_length_le (by rw [List.length_map]; omega)]
def fresh (H H' : Hp) : Hp := fun a => match H a with
  | none => H' a
  | some _ => none
theorem fresh_get {H H' : Hp} {a : Addr} {o : HO} (n : H a = none) (h : H' a = some o) : fresh H H' a = some o := by
  unfold fresh; rw [n]; exact h
theorem fresh_ex {H H' : Hp} : Ex (fresh H H') H' := fun a o h => by
  unfold fresh at h
  split at h
  · exact h
  · cases h
theorem fresh_up {H H5 H6 : Hp} (e : Ex H5 H6) : Ex (fresh H H5) (fresh H H6) := fun a o h => by
  have n : H a = none := by
    cases z : H a with
    | none => rfl
    | some u => unfold fresh at h; rw [z] at h; cases h
  exact fresh_get n (e a o (fresh_ex a o h))
theorem tups_rds (rs : List (Nat × Nat)) : tups (.tuple (rs.map pairD)) = true := by
  rw [tups, tupsAll_iff]
  intro d hd
  obtain ⟨p, _, rfl⟩ := List.mem_map.mp hd
  exact tups_row [p.1, p.2]
theorem TreeAt.del {K : PySem.W.Frag} {H : Hp} {D a : Addr} {ac : List V} {n : Nat} {rs Fs} (hD : H D = some (.lst ac)) (h : TreeAt K H a n rs Fs) : TreeAt K (L2.del H D) a n rs Fs := by
  obtain ⟨⟨dx, r1, r2, r3, z, h1, h2, h3, h4⟩, b1, b2, b3, b4, b5⟩ := h
  refine ⟨⟨dx, r1, r2, r3, ?_, Dq.del hD h1 (tups_rds rs), Dq.del hD h2 (tups_rows _), Dq.del hD h3 ?_, ?_⟩, b1, b2, b3, b4, b5⟩
  · rw [del_ne (fun e => by rw [e, hD] at z; cases z)]; exact z
  · rw [tups, tupsAll_iff]
    intro d hd
    obtain ⟨F, _, rfl⟩ := List.mem_map.mp hd
    exact tups_rows F
  · obtain ⟨p, ys, e, sq, f⟩ := h4
    exact ⟨p, ys, e, SqT.del sq hD, f.imp fun _ _ z => RF.del hD z⟩
/-- an odd value that is no list -/
structure Flt (d : PyData) : Prop where
  sm : Small 100 4 d
  nl : ∀ ds, d ≠ .list ds
  nt : ∀ ds, d ≠ .tuple ds
theorem fltB {d : PyData} (h : smallB 100 4 d = true) (z : isSeq d = false) : Flt d := ⟨smallB_ok h, fun ds e => (by rw [e] at z; cases z), fun ds e => (by rw [e] at z; cases z)⟩
/-- a value, a list of it no part of B: what it is as data (none: a tree) -/
def New (K : PySem.W.Frag) (B H : Hp) (v : V) (o : Option PyData) : Prop :=
  (∃ a xs ds, v = .ref a ∧ B a = none ∧ H a = some (.lst xs) ∧ Dqs K (L2.del (fresh B H) a) xs ds ∧ o = some (.list ds) ∧ SmallAll 100 4 ds ∧ ds.length ≤ 20) ∨
  (∃ d, Dq K (fresh B H) v d ∧ Flt d ∧ o = some d) ∨
  (∃ t n rs Fs, v = .ref t ∧ TreeAt K H t n rs Fs ∧ o = none)
theorem New.mono {K : PySem.W.Frag} {B H H' : Hp} {v : V} {o : Option PyData} (e : Ex H H') (h : New K B H v o) : New K B H' v o := by
  rcases h with ⟨a, xs, ds, h1, h2, h3, h4, h5⟩ | ⟨d, h1, h2⟩ | ⟨t, n, rs, Fs, h1, h2, h3⟩
  · exact .inl ⟨a, xs, ds, h1, h2, e _ _ h3, h4.mono (Ex.del (fresh_up e)), h5⟩
  · exact .inr (.inl ⟨d, h1.mono (fresh_up e), h2⟩)
  · exact .inr (.inr ⟨t, n, rs, Fs, h1, h2.mono e, h3⟩)
theorem New.val {K : PySem.W.Frag} {B H : Hp} {v : V} {o : Option PyData} (h : New K B H v o) : ValD K H v o ∧ lenD o ≤ 100000 := by
  rcases h with ⟨a, xs, ds, rfl, h2, h3, h4, rfl, h5, h6⟩ | ⟨d, h1, h2, rfl⟩ | ⟨t, n, rs, Fs, rfl, h2, rfl⟩
  · exact ⟨.lst (SqL.of h3) (h4.mono (Ex.ofDel.trans fresh_ex)), by show ds.length ≤ _; omega⟩
  · refine ⟨h1.mono fresh_ex, ?_⟩
    have z : items d = [] := by cases d <;> first | rfl | exact absurd rfl (h2.nl _) | exact absurd rfl (h2.nt _)
    show (items d).length ≤ _
    rw [z]; exact Nat.zero_le _
  · exact ⟨⟨0, "Tree", t, rfl, rfl, h2.ins⟩, Nat.zero_le _⟩
theorem ex_to_del {F G : Hp} {a : Addr} (e : Ex F G) (n : F a = none) : Ex F (L2.del G a) := fun b o z => by
  rw [del_ne (fun q => by rw [q, n] at z; cases z)]; exact e b o z
theorem fresh_old {B H : Hp} {p : Addr} (h : B p ≠ none) : fresh B H p = none := by
  unfold fresh
  split
  · rename_i z; exact absurd z h
  · rfl
theorem fresh_out {B H : Hp} {p : Addr} (h : B p ≠ none) : Ex (fresh B H) (fresh B (L2.del H p)) := fun b o z => by
  have n : B b = none := by
    cases q : B b with
    | none => rfl
    | some u => unfold fresh at z; rw [q] at z; cases z
  exact fresh_get n (by rw [del_ne (fun q => h (by rw [← q]; exact n))]; exact fresh_ex b o z)
/-- an older list is no part of it -/
theorem New.del {K : PySem.W.Frag} {B H : Hp} {v : V} {o : Option PyData} {p : Addr} {l : List V} (h : New K B H v o) (old : B p ≠ none) (hp : H p = some (.lst l)) : New K B (L2.del H p) v o := by
  rcases h with ⟨a, xs, ds, h1, h2, h3, h4, h5⟩ | ⟨d, h1, h2⟩ | ⟨t, n, rs, Fs, h1, h2, h3⟩
  · exact .inl ⟨a, xs, ds, h1, h2, by rw [del_ne (fun q => old (by rw [← q]; exact h2))]; exact h3, h4.mono (Ex.del (fresh_out old)), h5⟩
  · exact .inr (.inl ⟨d, h1.mono (fresh_out old), h2⟩)
  · exact .inr (.inr ⟨t, n, rs, Fs, h1, TreeAt.del hp h2, h3⟩)
theorem one_ok : WorldT 1 [] := ⟨by decide, by decide, rfl, ⟨by simp, .nil⟩, .nil, fun v hv => by
  obtain rfl : v = 0 := by omega
  exact ⟨_, M.Path.one _ _⟩⟩
theorem okH_odd {n : Nat} {ds es : List PyData} {d : PyData} (h : isIdx d n = false) : okH n (some (.list (ds ++ d :: es))) = false := by
  show (areIdx (.list (ds ++ d :: es)) n && _) = false
  have : areIdx (.list (ds ++ d :: es)) n = false := by
    unfold areIdx
    show (true && (ds ++ d :: es).all (isIdx · n)) = false
    rw [Bool.true_and, List.all_eq_false]
    exact ⟨d, by simp, by simp [h]⟩
  rw [this]; rfl
theorem okC_odd {m : Nat} {ds es : List PyData} {d : PyData} (h : isIdx d 6 = false) : okC m (some (.list (ds ++ d :: es))) = false := by
  show (areIdx (.list (ds ++ d :: es)) 6 && _) = false
  have : areIdx (.list (ds ++ d :: es)) 6 = false := by
    unfold areIdx
    show (true && (ds ++ d :: es).all (isIdx · 6)) = false
    rw [Bool.true_and, List.all_eq_false]
    exact ⟨d, by simp, by simp [h]⟩
  rw [this]; rfl
theorem okH_long {n : Nat} {ds : List PyData} (h : 12 < ds.length) : okH n (some (.list ds)) = false := by
  show (_ && decide (ds.length ≤ 12)) = false
  rw [(decide_eq_false (by omega)), Bool.and_false]
theorem sm_int {k : Nat} (h : k < 128) : Small 100 4 (.int (k : Int)) := (Small.nat h).mono (by decide) (by decide)
theorem nat_rows (K : PySem.W.Frag) (H : Hp) : ∀ l : List Nat, Dqs K H (l.map iV) (l.map intD)
  | [] => .nil
  | _ :: l => .cons (.int _) (nat_rows K H l)
theorem dqs_snoc {K : PySem.W.Frag} {H : Hp} {v : V} {d : PyData} (l r : List Nat) (h : Dq K H v d) : Dqs K H (l.map iV ++ [v] ++ r.map iV) (l.map intD ++ d :: r.map intD) := by
  rw [List.append_assoc]
  exact (nat_rows K H l).append (.cons h (nat_rows K H r))
theorem small_snoc {l r : List Nat} {d : PyData} (hl : ∀ k ∈ l, k < 128) (hr : ∀ k ∈ r, k < 128) (h : Small 100 4 d) : SmallAll 100 4 (l.map intD ++ d :: r.map intD) := fun x m => by
  rcases (List.mem_append.mp m) with m | m
  · obtain ⟨k, hk, rfl⟩ := List.mem_map.mp m
    exact sm_int (hl k hk)
  · rcases (List.mem_cons.mp m) with rfl | m
    · exact h
    · obtain ⟨k, hk, rfl⟩ := List.mem_map.mp m
      exact sm_int (hr k hk)
theorem okC_len {m : Nat} {ds : List PyData} (h : ds.length ≠ m) : okC m (some (.list ds)) = false := by
  show (_ && decide (ds.length = m)) = false
  rw [decide_eq_false h, Bool.and_false]
theorem flat_ok {d : PyData} (h : Flt d) (n m : Nat) : okH n (some d) = false ∧ (d ≠ .none → okC m (some d) = false) := by
  have z : isSeq d = false := by cases d <;> first | rfl | exact absurd rfl (h.nl _) | exact absurd rfl (h.nt _)
  have y : ∀ k, areIdx d k = false := fun k => by unfold areIdx; rw [z]; rfl
  refine ⟨by show (areIdx d n && _) = false; rw [y]; rfl, fun ne => ?_⟩
  have : okC m (some d) = (areIdx d 6 && decide ((items d).length = m)) := by cases d <;> first | rfl | exact absurd rfl ne
  rw [this, y]; rfl
/-- an odd item: the value as it stands, in a heap without the list -/
structure Itm (K : PySem.W.Frag) (H : Hp) (v : V) (d : PyData) : Prop where
  dq : Dq K H v d
  sm : Small 100 4 d
def sp__law_wrong_homes (K : PySem.W.Frag) : Sp := sp2 fun a b H Q E => ∃ (A : Addr) (c n : Nat) (rs ws : List (Nat × Nat)), a = .ref A ∧ World3 K (L2.del H A) b n rs ws ∧ c ≤ 900000 ∧ BoxAt H A c ∧ ∀ v o H', Ex (L2.del H A) H' → BoxAt H' A (c + 3) → New K (L2.del H A) (L2.del H' A) v o → okH n o = false → Q v H'
section
variable {K : PySem.W.Frag} {mg : Str → Option Value} {P : Program} {w : World} {base : Heap}
theorem ok__law_wrong_homes (T : Tx K mg) : Cal P w K mg base CX0 7 "_law_wrong_homes" ["_law_box_here", "_law_world_here"] (sp__law_wrong_homes K) := by
  refine cal_of (fD__law_wrong_homes T) (T.glo 38 rfl) sc__law_wrong_homes (fun _ _ _ _ _ _ us hl => match us, hl with | [_, _], _ => rfl) (fun vs H Q E h => len2 h) (fun f cdv A outer s H vs Q E hr h => ?_)
  obtain ⟨a, b, rfl, h⟩ := h
  refine ⟨_, (PSs.nox (pss_cons (ps_par3 (i := 2) (j := 3) (l := 4) rfl sc__law_wrong_homes.nd rfl rfl rfl (by decide) (by decide) (by decide) rfl rfl rfl (pa_cons (pe_c (ok__law_take T) (hr.mono (by decide)) rfl pass0 (pa_cons (pv 0) (pa_cons pe_int pa_nil))) (pa_cons (pe_c (ok__law_take T) (hr.mono (by decide)) rfl pass0 (pa_cons (pv 0) (pa_cons pe_int pa_nil))) (pa_cons (pe_c (ok__law_take T) (hr.mono (by decide)) rfl pass0 (pa_cons (pv 0) (pa_cons (pe_op op_add (pe_callB (call_lenK (K := K)) (by rfl) (T.free 7 rfl) (by decide +kernel) (pa_cons (pe_ix (ix_listK (K := K)) (pv 1) pe_int (fun _ _ => rfl)) pa_nil)) pe_int) pa_nil))) pa_nil))) (by rfl))
      (pss_cons (ps_if (pt_cmpR op_eq (pv 2) pe_int (nomark _)) (pss_one (ps_ret (pe_op op_rep (pe_lst (pa_cons pe_int pa_nil)) pe_int))) pss_nil)
      (pss_cons (ps_if (pt_cmpR op_eq (pv 2) pe_int (nomark _)) (pss_one (ps_ret (pe_ix (ix_listK (K := K)) (pe_lst (pa_cons pe_non (pa_cons pe_int (pa_cons pe_str (pa_cons pe_bl (pa_cons pe_str (pa_cons (pe_un un_neg pe_int) (pa_cons (pe_disp (pps_cons pe_str (pe_lst (pa_cons pe_int pa_nil)) pps_nil) rfl rfl (fun z => nomatch z) (by decide)) (pa_cons (tree_mk (K := K) T (hr.mono (by decide)) rfl (pa_cons pe_int (pa_cons (pe_lst pa_nil) pa_nil))) pa_nil))))))))) (pv 3) (fun _ _ => rfl)))) pss_nil)
      (pss_cons (ps_set (i := 5) sc__law_wrong_homes.nd rfl (Or.inl rfl) (pe_ix (ix_listK (K := K)) (pe_lst (pa_cons (pe_ix (ix_listK (K := K)) (pv 1) pe_int (fun _ _ => rfl)) (pa_cons (pe_un un_neg pe_int) (pa_cons pe_bl (pa_cons pe_bl (pa_cons pe_non (pa_cons pe_str (pa_cons (pe_lst (pa_cons pe_int pa_nil)) (pa_cons (pe_tup (pa_cons pe_int pa_nil)) pa_nil))))))))) (pv 3) (fun _ _ => rfl)))
      (pss_one (ps_ret (pe_op op_cat (pe_op op_cat (pe_slice (sl_listK (K := K)) (pe_ix (ix_listK (K := K)) (pv 1) pe_int (fun _ _ => rfl)) po_none (po_some (pv 4))) (pe_lst (pa_cons (pv 5) pa_nil))) (pe_slice (sl_listK (K := K)) (pe_ix (ix_listK (K := K)) (pv 1) pe_int (fun _ _ => rfl)) (po_some (pe_op op_add (pv 4) pe_int)) po_none))))))))), ?_⟩
  obtain ⟨A, c, n, rs, ws, rfl, wo, c9, hb, q⟩ := h
  obtain ⟨⟨W, S, hl, cl, ts, rfl, hW, hS, tp, hh, hc⟩, ok, few, lt⟩ := wo
  have n16 := ok.n16
  have lts : ∀ k ∈ ws.map (·.1), k < 128 := fun k m => by obtain ⟨p, hp, rfl⟩ := List.mem_map.mp m; have := lt p hp; omega
  have lh : ((ws.map (·.1)).map iV).length = ws.length := by rw [(List.length_map), (List.length_map)]
  refine seq_at ?_
  refine ⟨_, rfl, _, _, rfl, A, 6, c, rfl, rfl, by decide, by decide, by omega, hb, fun kd H1 hk e1 hb1 => ?_⟩
  refine ⟨_, rfl, _, _, rfl, A, 8, c + 1, rfl, rfl, by decide, by decide, by omega, hb1, fun wh H2 hw e2 hb2 => ?_⟩
  have e02 := ex_of_del e1 del_same e2
  refine ⟨_, rfl, _, rfl, W, _, 2, _, rfl, rfl, SqL.of (e02 _ _ hW), rfl, hl, _, rfl, .inl (SqL.of (e02 _ _ hh)), _, _, rfl, rfl, _, _, rfl, A, ws.length + 1, c + 2, rfl, (by rw [lh]; rfl), by omega, by omega, by omega, hb2, fun at_ H3 hat e3 hb3 => ?_⟩
  refine ⟨_, _, _, rfl, ?_⟩
  dsimp only
  have e03 := ex_of_del e02 del_same e3
  clear e1 e2 e3 e02 hb1 hb2 hb
  obtain ⟨l3, hA3⟩ := hb3.some
  refine seq_at (ifs_at (test_at ⟨_, rfl, rfl, _, rfl, ?_⟩))
  rw [show decide (V.int (kd : Int) = V.int 0) = decide (kd = 0) from int_eqb kd 0]
  by_cases k0 : kd = 0
  · rw [decide_eq_true k0]
    refine iteT (ret_at ?_)
    refine ⟨(by show 1 ≤ sizeLine; decide), fun p1 h1 => ?_⟩
    have x1 := Ex.new (o := .lst [V.int 0]) h1
    refine ⟨p1, 13, _, rfl, rfl, upd_same, by decide, by decide, (by decide), fun p2 h2 => ?_⟩
    have x2 := Ex.new (o := .lst (List.replicate 13 (V.int 0))) h2
    have n2 : p2 ≠ A := (ne_of_none (x1 _ _ hA3) h2).symm
    refine q (.ref p2) (some (.list ((List.replicate 13 0).map intD))) _ (e03.trans (x1.trans x2)) ((hb3.mono (x1.trans x2)).up (by omega)) (.inl ⟨p2, (List.replicate 13 0).map iV, _, rfl, Evl.fresh_back (e03.trans x1) h2, by rw [del_ne n2]; exact upd_same, nat_rows _ _ _, rfl, fun d m => ?_, by decide⟩) (okH_long (by decide))
    obtain ⟨k, hk, rfl⟩ := List.mem_map.mp m
    rw [List.eq_of_mem_replicate hk]
    exact sm_int (by decide)
  rw [decide_eq_false k0]
  refine iteF ?_
  dsimp only [tNext]
  refine seq_at (ifs_at (test_at ⟨_, rfl, rfl, _, rfl, ?_⟩))
  rw [show decide (V.int (kd : Int) = V.int 1) = decide (kd = 1) from int_eqb kd 1]
  by_cases k1 : kd = 1
  · rw [decide_eq_true k1]
    refine iteT (ret_at ?_)
    refine ⟨_, rfl, fun p hp => ⟨(by show 1 ≤ sizeLine; decide), fun l hl => ⟨?_, [(.inr "homes", .ref l)], rfl, (by show 1 ≤ 15; decide), Nat.zero_le _, fun em hem => ⟨rfl, rfl, ?_⟩⟩⟩⟩
    · rw [upd_ne (ne_of_none (upd_same (a := p)) hl)]; exact upd_same
    have x1 := Ex.mut (o := .dK (mergeK [] [(.inr "homes", .ref l)])) ((Ex.new (o := .dK []) hp).trans (Ex.new (o := .lst [V.int 0]) hl)) hp
    have g0 : upd (upd (upd H3 p (.dK [])) l (.lst [V.int 0])) p (.dK (mergeK [] [(.inr "homes", .ref l)])) p = some (.dK [(.inr "homes", .ref l)]) := upd_same
    have pl : l ≠ p := (ne_of_none (upd_same (a := p)) hl).symm
    have g1 : upd (upd (upd H3 p (.dK [])) l (.lst [V.int 0])) p (.dK (mergeK [] [(.inr "homes", .ref l)])) l = some (.lst [V.int 0]) := by rw [upd_ne pl]; exact upd_same
    have lA : l ≠ A := (ne_of_none ((Ex.new (o := .dK []) hp) _ _ hA3) hl).symm
    have pA : p ≠ A := (ne_of_none hA3 hp).symm
    generalize upd (upd (upd H3 p (.dK [])) l (.lst [V.int 0])) p (.dK (mergeK [] [(.inr "homes", .ref l)])) = H4 at x1 g0 g1 hem ⊢
    have x2 := Ex.new (o := .lst []) hem
    refine world_tree (d2 := .list []) one_ok (.int _) (.lst (SqL.of upd_same) .nil) rfl rfl fun t H5 Fs x3 ht tr => ?_
    have x15 := x1.trans (x2.trans x3)
    refine ⟨(by show 8 ≤ sizeLine; decide), fun L hL => ?_⟩
    have xL := Ex.new (o := .lst [V.non, .int 7, .str "0", .bl true, .str "", .int (-1), .ref p, .ref t]) hL
    have hA5 := x15 _ _ hA3
    have g0' := (x2.trans x3) _ _ g0
    have g1' := (x2.trans x3) _ _ g1
    have tA : t ≠ A := (ne_of_none ((x1.trans x2) _ _ hA3) ht).symm
    have hb5 := hb3.mono x15
    have trd := TreeAt.del hA5 tr
    obtain ⟨v, o, hv, nw, bad⟩ : ∃ v o, [V.non, .int 7, .str "0", .bl true, .str "", .int (-1), .ref p, .ref t][wh]? = some v ∧ New K (L2.del H A) (L2.del H5 A) v o ∧ okH n o = false := by
      match wh, hw with
      | 0, _ => exact ⟨_, some .none, rfl, .inr (.inl ⟨_, .non, fltB (by decide +kernel) rfl, rfl⟩), rfl⟩
      | 1, _ => exact ⟨_, some (.int 7), rfl, .inr (.inl ⟨_, .int _, fltB (by decide +kernel) rfl, rfl⟩), rfl⟩
      | 2, _ => exact ⟨_, some (.str "0"), rfl, .inr (.inl ⟨_, .str _, fltB (by decide +kernel) rfl, rfl⟩), rfl⟩
      | 3, _ => exact ⟨_, some (.bool true), rfl, .inr (.inl ⟨_, .bl _, fltB (by decide +kernel) rfl, rfl⟩), rfl⟩
      | 4, _ => exact ⟨_, some (.str ""), rfl, .inr (.inl ⟨_, .str _, fltB (by decide +kernel) rfl, rfl⟩), rfl⟩
      | 5, _ => exact ⟨_, some (.int (-1)), rfl, .inr (.inl ⟨_, .int _, fltB (by decide +kernel) rfl, rfl⟩), rfl⟩
      | 6, _ => exact ⟨.ref p, some (.dict [(.str "homes", .list [.int 0])]), rfl, .inr (.inl ⟨_, .dic (kvs := [(.inr "homes", .ref l)]) (ds := [.list [.int 0]]) (fresh_get (Evl.fresh_back e03 hp) (by rw [del_ne pA]; exact g0')) (.cons (.lst (SqL.of (fresh_get (Evl.fresh_back (e03.trans (Ex.new (o := .dK []) hp)) hl) (by rw [del_ne lA]; exact g1'))) (.cons (.int _) .nil)) .nil), fltB (d := .dict [(.str "homes", .list [.int 0])]) (by decide +kernel) rfl, rfl⟩), rfl⟩
      | 7, _ => exact ⟨.ref t, none, rfl, .inr (.inr ⟨t, _, _, _, rfl, trd, rfl⟩), rfl⟩
    refine ⟨_, rfl, L, _, _, _, rfl, rfl, SqL.of upd_same, atI_nat hv, ?_⟩
    exact q v o _ (e03.trans (x15.trans xL)) ((hb5.mono xL).up (by omega)) (nw.mono (Ex.del xL)) bad
  rw [decide_eq_false k1]
  refine iteF ?_
  dsimp only [tNext]
  refine seq_at (asg_at ?_)
  refine ⟨_, rfl, W, _, 0, _, rfl, rfl, SqL.of (e03 _ _ hW), rfl, _, rfl, (by show 1 ≤ sizeLine; decide), fun i1 h1 => ⟨(by show 1 ≤ sizeLine; decide), fun i2 h2 => ⟨(by show 8 ≤ sizeLine; decide), fun L hL => ?_⟩⟩⟩
  have x1 := Ex.new (o := .lst [V.int 0]) h1
  have x2 := Ex.new (o := .tup [V.int 0]) h2
  have g1 := x2 _ _ (upd_same (H := H3) (a := i1) (o := .lst [V.int 0]))
  have g2 := upd_same (H := upd H3 i1 (.lst [V.int 0])) (a := i2) (o := .tup [V.int 0])
  have hA5 := (x1.trans x2) _ _ hA3
  have xL := Ex.new (o := .lst [iV n, .int (-1), .bl true, .bl false, .non, .str "0", .ref i1, .ref i2]) hL
  obtain ⟨ov, d, hv, it, bad⟩ : ∃ ov d, [iV n, .int (-1), .bl true, .bl false, .non, .str "0", .ref i1, .ref i2][wh]? = some ov ∧ Itm K (fresh (L2.del H A) (L2.del (upd (upd H3 i1 (.lst [V.int 0])) i2 (.tup [V.int 0])) A)) ov d ∧ isIdx d n = false := by
    have n1 : i1 ≠ A := (ne_of_none hA3 h1).symm
    have n2 : i2 ≠ A := (ne_of_none (x1 _ _ hA3) h2).symm
    match wh, hw with
    | 0, _ => exact ⟨_, intD n, rfl, ⟨.int _, sm_int (by omega)⟩, by show (decide ((0 : Int) ≤ (n : Int)) && decide ((n : Int) < (n : Int))) = false; simp⟩
    | 1, _ => exact ⟨_, _, rfl, ⟨.int _, smallB_ok (by decide +kernel)⟩, rfl⟩
    | 2, _ => exact ⟨_, _, rfl, ⟨.bl _, smallB_ok (by decide +kernel)⟩, rfl⟩
    | 3, _ => exact ⟨_, _, rfl, ⟨.bl _, smallB_ok (by decide +kernel)⟩, rfl⟩
    | 4, _ => exact ⟨_, _, rfl, ⟨.non, smallB_ok (by decide +kernel)⟩, rfl⟩
    | 5, _ => exact ⟨_, _, rfl, ⟨.str _, smallB_ok (by decide +kernel)⟩, rfl⟩
    | 6, _ => exact ⟨_, .list [.int 0], rfl, ⟨.lst (SqL.of (fresh_get (Evl.fresh_back e03 h1) (by rw [del_ne n1]; exact g1))) (.cons (.int _) .nil), smallB_ok (by decide +kernel)⟩, rfl⟩
    | 7, _ => exact ⟨_, .tuple [.int 0], rfl, ⟨.tup (SqT.of (fresh_get (Evl.fresh_back (e03.trans x1) h2) (by rw [del_ne n2]; exact g2))) (.cons (.int _) .nil), smallB_ok (by decide +kernel)⟩, rfl⟩
  generalize upd (upd H3 i1 (.lst [V.int 0])) i2 (.tup [V.int 0]) = H5 at x1 x2 xL hv it hL hA5 g1 g2 ⊢
  refine ⟨_, rfl, L, _, _, _, rfl, rfl, SqL.of upd_same, atI_nat hv, ?_⟩
  have e06 := e03.trans (x1.trans (x2.trans xL))
  have hb6 := hb3.mono (x1.trans (x2.trans xL))
  have it6 : Dq K (fresh (L2.del H A) (L2.del (upd H5 L (.lst [iV n, .int (-1), .bl true, .bl false, .non, .str "0", .ref i1, .ref i2])) A)) ov d := it.dq.mono (fresh_up (Ex.del xL))
  have hA6 := xL _ _ hA5
  generalize upd H5 L (.lst [iV n, .int (-1), .bl true, .bl false, .non, .str "0", .ref i1, .ref i2]) = H6 at e06 hb6 it6 hA6 ⊢
  dsimp only [gName]
  refine ret_at ?_
  refine ⟨_, rfl, W, _, 2, _, rfl, rfl, SqL.of (e06 _ _ hW), rfl, _, rfl, _, rfl, hl, _, rfl, SqL.of (e06 _ _ hh), fun a1 ha1 => ?_⟩
  rw [cut_take]
  have y1 := Ex.new (o := .lst (((ws.map (·.1)).take at_).map iV)) ha1
  have f1 := upd_same (H := H6) (a := a1) (o := .lst (((ws.map (·.1)).take at_).map iV))
  generalize upd H6 a1 (.lst (((ws.map (·.1)).take at_).map iV)) = J1 at y1 f1 ⊢
  refine ⟨_, rfl, (by show 1 ≤ sizeLine; decide), fun a2 ha2 => ?_⟩
  have y2 := Ex.new (o := .lst [ov]) ha2
  have f2 := upd_same (H := J1) (a := a2) (o := .lst [ov])
  generalize upd J1 a2 (.lst [ov]) = J2 at y2 f2 ⊢
  have lr : (ws.map (·.1)).length = ws.length := List.length_map ..
  refine ⟨a1, a2, _, _, rfl, rfl, y2 _ _ f1, f2, Nat.le_of_lt (line_big (by simp; omega)), fun a3 ha3 => ?_⟩
  have y3 := Ex.new (o := .lst (((ws.map (·.1)).take at_).map iV ++ [ov])) ha3
  have f3 := upd_same (H := J2) (a := a3) (o := .lst (((ws.map (·.1)).take at_).map iV ++ [ov]))
  generalize upd J2 a3 (.lst (((ws.map (·.1)).take at_).map iV ++ [ov])) = J3 at y3 f3 ⊢
  have y13 := y1.trans (y2.trans y3)
  refine ⟨_, rfl, W, _, 2, _, rfl, rfl, SqL.of ((e06.trans y13) _ _ hW), rfl, _, rfl, _, _, rfl, rfl, _, rfl, hl, _, rfl, SqL.of ((e06.trans y13) _ _ hh), fun a4 ha4 => ?_⟩
  rw [show cutV ((ws.map (·.1)).map iV) (some ((at_ : Int) + 1)) none = ((ws.map (·.1)).drop (at_ + 1)).map iV from cut_drop iV (ws.map (·.1)) (at_ + 1)]
  have y4 := Ex.new (o := .lst (((ws.map (·.1)).drop (at_ + 1)).map iV)) ha4
  have f4 := upd_same (H := J3) (a := a4) (o := .lst (((ws.map (·.1)).drop (at_ + 1)).map iV))
  generalize upd J3 a4 (.lst (((ws.map (·.1)).drop (at_ + 1)).map iV)) = J4 at y4 f4 ⊢
  refine ⟨a3, a4, _, _, rfl, rfl, y4 _ _ f3, f4, Nat.le_of_lt (line_big (by simp; omega)), fun a5 ha5 => ?_⟩
  have y5 := Ex.new (o := .lst (((ws.map (·.1)).take at_).map iV ++ [ov] ++ ((ws.map (·.1)).drop (at_ + 1)).map iV)) ha5
  have y14 := y13.trans y4
  have nA : a5 ≠ A := (ne_of_none (y14 _ _ hA6) ha5).symm
  refine q (.ref a5) (some (.list (((ws.map (·.1)).take at_).map intD ++ d :: ((ws.map (·.1)).drop (at_ + 1)).map intD))) _ (e06.trans (y14.trans y5)) ((hb6.mono (y14.trans y5)).up (by omega)) (.inl ⟨a5, _, _, rfl, Evl.fresh_back (e06.trans y14) ha5, by rw [del_ne nA]; exact upd_same, dqs_snoc _ _ (it6.mono ?_), rfl, small_snoc (fun k m => ?_) (fun k m => ?_) it.sm, ?_⟩) (okH_odd bad)
  · refine ex_to_del (fresh_up (Ex.del (y14.trans y5))) ?_
    unfold fresh
    split
    · rw [del_ne nA]; exact Evl.fresh_back y14 ha5
    · rfl
  · have := lts k (List.mem_of_mem_take m); omega
  · have := lts k (List.mem_of_mem_drop m); omega
  · simp; omega
end
def sp__law_wrong_cells (K : PySem.W.Frag) : Sp := sp2 fun a b H Q E => ∃ (A : Addr) (c n : Nat) (rs ws : List (Nat × Nat)), a = .ref A ∧ World3 K (L2.del H A) b n rs ws ∧ c ≤ 900000 ∧ BoxAt H A c ∧ ∀ v o H', Ex (L2.del H A) H' → BoxAt H' A (c + 3) → New K (L2.del H A) (L2.del H' A) v o → okC ws.length o = false → Q v H'
section
variable {K : PySem.W.Frag} {mg : Str → Option Value} {P : Program} {w : World} {base : Heap}
theorem ok__law_wrong_cells (T : Tx K mg) : Cal P w K mg base CX0 7 "_law_wrong_cells" ["_law_box_here", "_law_world_here"] (sp__law_wrong_cells K) := by
  refine cal_of (fD__law_wrong_cells T) (T.glo 39 rfl) sc__law_wrong_cells (fun _ _ _ _ _ _ us hl => match us, hl with | [_, _], _ => rfl) (fun vs H Q E h => len2 h) (fun f cdv A outer s H vs Q E hr h => ?_)
  obtain ⟨a, b, rfl, h⟩ := h
  refine ⟨_, (PSs.nox (pss_cons (ps_par3 (i := 2) (j := 3) (l := 4) rfl sc__law_wrong_cells.nd rfl rfl rfl (by decide) (by decide) (by decide) rfl rfl rfl (pa_cons (pe_c (ok__law_take T) (hr.mono (by decide)) rfl pass0 (pa_cons (pv 0) (pa_cons pe_int pa_nil))) (pa_cons (pe_c (ok__law_take T) (hr.mono (by decide)) rfl pass0 (pa_cons (pv 0) (pa_cons pe_int pa_nil))) (pa_cons (pe_c (ok__law_take T) (hr.mono (by decide)) rfl pass0 (pa_cons (pv 0) (pa_cons (pe_callB (call_max2 rfl) (by rfl) (T.free 9 rfl) (by decide +kernel) (pa_cons pe_int (pa_cons (pe_callB (call_lenK (K := K)) (by rfl) (T.free 7 rfl) (by decide +kernel) (pa_cons (pe_ix (ix_listK (K := K)) (pv 1) pe_int (fun _ _ => rfl)) pa_nil)) pa_nil))) pa_nil))) pa_nil))) (by rfl))
      (pss_cons (ps_if (PW.pt (pw_or (pt_cmpR op_eq (pv 2) pe_int (nomark _)) (pw_or1 (pt_cmpR (op_eqNil (K := K) (hu0 hr.r)) (pe_ix (ix_listK (K := K)) (pv 1) pe_int (fun _ _ => rfl)) (pe_lst pa_nil) (nomark _))))) (pss_one (ps_ret (pe_op op_cat (pe_ix (ix_listK (K := K)) (pv 1) pe_int (fun _ _ => rfl)) (pe_lst (pa_cons pe_int pa_nil))))) pss_nil)
      (pss_cons (ps_if (pt_cmpR op_eq (pv 2) pe_int (nomark _)) (pss_one (ps_ret (pe_ix (ix_listK (K := K)) (pe_lst (pa_cons pe_bl (pa_cons pe_int (pa_cons pe_str (pa_cons pe_bl (pa_cons pe_str (pa_cons pe_int (pa_cons (pe_disp (pps_cons pe_str (pe_lst (pa_cons pe_int pa_nil)) pps_nil) rfl rfl (fun z => nomatch z) (by decide)) (pa_cons (tree_mk (K := K) T (hr.mono (by decide)) rfl (pa_cons pe_int (pa_cons (pe_lst pa_nil) pa_nil))) pa_nil))))))))) (pv 3) (fun _ _ => rfl)))) pss_nil)
      (pss_cons (ps_if (pt_cmpR op_eq (pv 2) pe_int (nomark _)) (pss_one (ps_ret (pe_op op_cat (pe_slice (sl_listK (K := K)) (pe_ix (ix_listK (K := K)) (pv 1) pe_int (fun _ _ => rfl)) po_none (po_some (pv 4))) (pe_slice (sl_listK (K := K)) (pe_ix (ix_listK (K := K)) (pv 1) pe_int (fun _ _ => rfl)) (po_some (pe_op op_add (pv 4) pe_int)) po_none)))) pss_nil)
      (pss_cons (ps_set (i := 5) sc__law_wrong_cells.nd rfl (Or.inl rfl) (pe_ix (ix_listK (K := K)) (pe_lst (pa_cons pe_int (pa_cons (pe_un un_neg pe_int) (pa_cons pe_bl (pa_cons pe_bl (pa_cons pe_non (pa_cons pe_str (pa_cons (pe_lst (pa_cons pe_int pa_nil)) (pa_cons (pe_tup (pa_cons pe_int pa_nil)) pa_nil))))))))) (pv 3) (fun _ _ => rfl)))
      (pss_one (ps_ret (pe_op op_cat (pe_op op_cat (pe_slice (sl_listK (K := K)) (pe_ix (ix_listK (K := K)) (pv 1) pe_int (fun _ _ => rfl)) po_none (po_some (pv 4))) (pe_lst (pa_cons (pv 5) pa_nil))) (pe_slice (sl_listK (K := K)) (pe_ix (ix_listK (K := K)) (pv 1) pe_int (fun _ _ => rfl)) (po_some (pe_op op_add (pv 4) pe_int)) po_none)))))))))), ?_⟩
  obtain ⟨A, c, n, rs, ws, rfl, wo, c9, hb, q⟩ := h
  obtain ⟨⟨W, S, hl, cl, ts, rfl, hW, hS, tp, hh, hc⟩, ok, few, lt⟩ := wo
  have n16 := ok.n16
  have lts : ∀ k ∈ ws.map (·.2), k < 128 := fun k m => by obtain ⟨p, hp, rfl⟩ := List.mem_map.mp m; have := lt p hp; omega
  have lr0 : (ws.map (·.2)).length = ws.length := List.length_map ..
  have lh : ((ws.map (·.2)).map iV).length = ws.length := by rw [(List.length_map), (List.length_map)]
  refine seq_at ?_
  refine ⟨_, rfl, _, _, rfl, A, 6, c, rfl, rfl, by decide, by decide, by omega, hb, fun kd H1 hk e1 hb1 => ?_⟩
  refine ⟨_, rfl, _, _, rfl, A, 8, c + 1, rfl, rfl, by decide, by decide, by omega, hb1, fun wh H2 hw e2 hb2 => ?_⟩
  have e02 := ex_of_del e1 del_same e2
  refine ⟨_, rfl, _, rfl, W, _, 3, _, rfl, rfl, SqL.of (e02 _ _ hW), rfl, cl, _, rfl, .inl (SqL.of (e02 _ _ hc)), _, _, rfl, _, _, rfl, A, max 1 ws.length, c + 2, rfl, (by rw [lh, maxI]), by omega, by omega, by omega, hb2, fun at_ H3 hat e3 hb3 => ?_⟩
  refine ⟨_, _, _, rfl, ?_⟩
  dsimp only
  have e03 := ex_of_del e02 del_same e3
  clear e1 e2 e3 e02 hb1 hb2 hb
  obtain ⟨l3, hA3⟩ := hb3.some
  refine seq_at (ifs_at (tst_split (fun b H2 => Ex H3 H2 ∧ (b = false → 1 ≤ ws.length)) ?_ ?_))
  · intro R hR
    refine or_at ⟨_, rfl, rfl, _, rfl, ?_⟩
    rw [show decide (V.int (kd : Int) = V.int 0) = decide (kd = 0) from int_eqb kd 0]
    by_cases k0 : kd = 0
    · rw [decide_eq_true k0]
      exact iteT (hR _ _ ⟨Ex.refl _, fun z => nomatch z⟩)
    rw [decide_eq_false k0]
    refine iteF (test_at ⟨_, rfl, W, _, 3, _, rfl, rfl, SqL.of (e03 _ _ hW), rfl, Nat.zero_le _, fun p hp => ?_⟩)
    have xp := Ex.new (o := .lst []) hp
    refine ⟨_, _, p, rfl, rfl, SqL.of (xp _ _ (e03 _ _ hc)), SqL.of upd_same, _, rfl, hR _ _ ⟨xp, fun z => ?_⟩⟩
    cases ws with
    | nil => cases z
    | cons => exact Nat.succ_le_succ (Nat.zero_le _)
  rintro b H4 ⟨x34, hpos⟩
  replace e03 := e03.trans x34
  replace hb3 := hb3.mono x34
  clear hA3
  obtain ⟨l4, hA4⟩ := hb3.some
  have lz : ∀ l : List Nat, l.map iV ++ [V.int 0] = (l ++ [0]).map iV := fun l => by rw [List.map_append]; rfl
  cases b with
  | true =>
    refine iteT (ret_at ?_)
    refine ⟨_, rfl, W, _, 3, _, rfl, rfl, SqL.of (e03 _ _ hW), rfl, (by show 1 ≤ sizeLine; decide), fun p1 h1 => ?_⟩
    have x1 := Ex.new (o := .lst [V.int 0]) h1
    refine ⟨cl, p1, _, _, rfl, rfl, x1 _ _ (e03 _ _ hc), upd_same, Nat.le_of_lt (line_big (by simp; omega)), fun p2 h2 => ?_⟩
    rw [lz]
    have x2 := Ex.new (o := .lst (((ws.map fun p : Nat × Nat => p.2) ++ [0]).map iV)) h2
    have n2 : p2 ≠ A := (ne_of_none (x1 _ _ hA4) h2).symm
    refine q (.ref p2) (some (.list (((ws.map fun p : Nat × Nat => p.2) ++ [0]).map intD))) _ (e03.trans (x1.trans x2)) (hb3.mono (x1.trans x2)) (.inl ⟨p2, _, _, rfl, Evl.fresh_back (e03.trans x1) h2, by rw [del_ne n2]; exact upd_same, nat_rows _ _ _, rfl, fun d m => ?_, by simp; omega⟩) (okC_len (by simp))
    obtain ⟨k, hk, rfl⟩ := List.mem_map.mp m
    rcases (List.mem_append.mp hk) with hk | hk
    · exact sm_int (lts k hk)
    · rw [List.mem_singleton.mp hk]; exact sm_int (by decide)
  | false =>
  have pos := hpos rfl
  refine iteF ?_
  dsimp only [tNext]
  clear x34 hpos
  generalize hH : H4 = H3 at e03 hb3 hA4 ⊢
  clear hH H4
  have hA3 := hA4
  refine seq_at (ifs_at (test_at ⟨_, rfl, rfl, _, rfl, ?_⟩))
  rw [show decide (V.int (kd : Int) = V.int 1) = decide (kd = 1) from int_eqb kd 1]
  by_cases k1 : kd = 1
  · rw [decide_eq_true k1]
    refine iteT (ret_at ?_)
    refine fun p hp => ⟨(by show 1 ≤ sizeLine; decide), fun l hl => ⟨?_, [(.inr "cells", .ref l)], rfl, (by show 1 ≤ 15; decide), Nat.zero_le _, fun em hem => ⟨rfl, rfl, ?_⟩⟩⟩
    · rw [upd_ne (ne_of_none (upd_same (a := p)) hl)]; exact upd_same
    have x1 := Ex.mut (o := .dK (mergeK [] [(.inr "cells", .ref l)])) ((Ex.new (o := .dK []) hp).trans (Ex.new (o := .lst [V.int 0]) hl)) hp
    have g0 : upd (upd (upd H3 p (.dK [])) l (.lst [V.int 0])) p (.dK (mergeK [] [(.inr "cells", .ref l)])) p = some (.dK [(.inr "cells", .ref l)]) := upd_same
    have pl : l ≠ p := (ne_of_none (upd_same (a := p)) hl).symm
    have g1 : upd (upd (upd H3 p (.dK [])) l (.lst [V.int 0])) p (.dK (mergeK [] [(.inr "cells", .ref l)])) l = some (.lst [V.int 0]) := by rw [upd_ne pl]; exact upd_same
    have lA : l ≠ A := (ne_of_none ((Ex.new (o := .dK []) hp) _ _ hA3) hl).symm
    have pA : p ≠ A := (ne_of_none hA3 hp).symm
    generalize upd (upd (upd H3 p (.dK [])) l (.lst [V.int 0])) p (.dK (mergeK [] [(.inr "cells", .ref l)])) = H4 at x1 g0 g1 hem ⊢
    have x2 := Ex.new (o := .lst []) hem
    refine world_tree (d2 := .list []) one_ok (.int _) (.lst (SqL.of upd_same) .nil) rfl rfl fun t H5 Fs x3 ht tr => ?_
    have x15 := x1.trans (x2.trans x3)
    refine ⟨(by show 8 ≤ sizeLine; decide), fun L hL => ?_⟩
    have xL := Ex.new (o := .lst [V.bl false, .int 7, .str "0", .bl true, .str "", .int 0, .ref p, .ref t]) hL
    have hA5 := x15 _ _ hA3
    have g0' := (x2.trans x3) _ _ g0
    have g1' := (x2.trans x3) _ _ g1
    have tA : t ≠ A := (ne_of_none ((x1.trans x2) _ _ hA3) ht).symm
    have hb5 := hb3.mono x15
    have trd := TreeAt.del hA5 tr
    obtain ⟨v, o, hv, nw, bad⟩ : ∃ v o, [V.bl false, .int 7, .str "0", .bl true, .str "", .int 0, .ref p, .ref t][wh]? = some v ∧ New K (L2.del H A) (L2.del H5 A) v o ∧ okC ws.length o = false := by
      match wh, hw with
      | 0, _ => exact ⟨_, some (.bool false), rfl, .inr (.inl ⟨_, .bl _, fltB (by decide +kernel) rfl, rfl⟩), rfl⟩
      | 1, _ => exact ⟨_, some (.int 7), rfl, .inr (.inl ⟨_, .int _, fltB (by decide +kernel) rfl, rfl⟩), rfl⟩
      | 2, _ => exact ⟨_, some (.str "0"), rfl, .inr (.inl ⟨_, .str _, fltB (by decide +kernel) rfl, rfl⟩), rfl⟩
      | 3, _ => exact ⟨_, some (.bool true), rfl, .inr (.inl ⟨_, .bl _, fltB (by decide +kernel) rfl, rfl⟩), rfl⟩
      | 4, _ => exact ⟨_, some (.str ""), rfl, .inr (.inl ⟨_, .str _, fltB (by decide +kernel) rfl, rfl⟩), rfl⟩
      | 5, _ => exact ⟨_, some (.int 0), rfl, .inr (.inl ⟨_, .int _, fltB (by decide +kernel) rfl, rfl⟩), rfl⟩
      | 6, _ => exact ⟨.ref p, some (.dict [(.str "cells", .list [.int 0])]), rfl, .inr (.inl ⟨_, .dic (kvs := [(.inr "cells", .ref l)]) (ds := [.list [.int 0]]) (fresh_get (Evl.fresh_back e03 hp) (by rw [del_ne pA]; exact g0')) (.cons (.lst (SqL.of (fresh_get (Evl.fresh_back (e03.trans (Ex.new (o := .dK []) hp)) hl) (by rw [del_ne lA]; exact g1'))) (.cons (.int _) .nil)) .nil), fltB (d := .dict [(.str "cells", .list [.int 0])]) (by decide +kernel) rfl, rfl⟩), rfl⟩
      | 7, _ => exact ⟨.ref t, none, rfl, .inr (.inr ⟨t, _, _, _, rfl, trd, rfl⟩), rfl⟩
    refine ⟨_, rfl, L, _, _, _, rfl, rfl, SqL.of upd_same, atI_nat hv, ?_⟩
    exact q v o _ (e03.trans (x15.trans xL)) ((hb5.mono xL).up (by omega)) (nw.mono (Ex.del xL)) bad
  rw [decide_eq_false k1]
  refine iteF ?_
  dsimp only [tNext]
  refine seq_at (ifs_at (test_at ⟨_, rfl, rfl, _, rfl, ?_⟩))
  rw [show decide (V.int (kd : Int) = V.int 2) = decide (kd = 2) from int_eqb kd 2]
  by_cases k2 : kd = 2
  · rw [decide_eq_true k2]
    refine iteT (ret_at ?_)
    refine ⟨_, rfl, W, _, 3, _, rfl, rfl, SqL.of (e03 _ _ hW), rfl, _, rfl, _, rfl, cl, _, rfl, SqL.of (e03 _ _ hc), fun a1 ha1 => ?_⟩
    rw [cut_take]
    have y1 := Ex.new (o := .lst (((ws.map (·.2)).take at_).map iV)) ha1
    have f1 := upd_same (H := H3) (a := a1) (o := .lst (((ws.map (·.2)).take at_).map iV))
    generalize upd H3 a1 (.lst (((ws.map (·.2)).take at_).map iV)) = J1 at y1 f1 ⊢
    have e04 := e03.trans y1
    refine ⟨_, rfl, W, _, 3, _, rfl, rfl, SqL.of (e04 _ _ hW), rfl, _, rfl, _, _, rfl, rfl, _, rfl, cl, _, rfl, SqL.of (e04 _ _ hc), fun a2 ha2 => ?_⟩
    rw [show cutV ((ws.map (·.2)).map iV) (some ((at_ : Int) + 1)) none = ((ws.map (·.2)).drop (at_ + 1)).map iV from cut_drop iV (ws.map (·.2)) (at_ + 1)]
    have y2 := Ex.new (o := .lst (((ws.map (·.2)).drop (at_ + 1)).map iV)) ha2
    have f2 := upd_same (H := J1) (a := a2) (o := .lst (((ws.map (·.2)).drop (at_ + 1)).map iV))
    generalize upd J1 a2 (.lst (((ws.map (·.2)).drop (at_ + 1)).map iV)) = J2 at y2 f2 ⊢
    refine ⟨a1, a2, _, _, rfl, rfl, y2 _ _ f1, f2, Nat.le_of_lt (line_big (by simp; omega)), fun a3 ha3 => ?_⟩
    rw [← List.map_append]
    have y3 := Ex.new (o := .lst (((ws.map (·.2)).take at_ ++ (ws.map (·.2)).drop (at_ + 1)).map iV)) ha3
    have nA : a3 ≠ A := (ne_of_none ((y1.trans y2) _ _ hA3) ha3).symm
    refine q (.ref a3) (some (.list (((ws.map (·.2)).take at_ ++ (ws.map (·.2)).drop (at_ + 1)).map intD))) _ (e04.trans (y2.trans y3)) (hb3.mono (y1.trans (y2.trans y3))) (.inl ⟨a3, _, _, rfl, Evl.fresh_back (e04.trans y2) ha3, by rw [del_ne nA]; exact upd_same, nat_rows _ _ _, rfl, fun d m => ?_, by simp; omega⟩) (okC_len (by simp; omega))
    obtain ⟨k, hk, rfl⟩ := List.mem_map.mp m
    rcases (List.mem_append.mp hk) with hk | hk
    · exact sm_int (lts k (List.mem_of_mem_take hk))
    · exact sm_int (lts k (List.mem_of_mem_drop hk))
  rw [decide_eq_false k2]
  refine iteF ?_
  dsimp only [tNext]
  refine seq_at (asg_at ?_)
  refine ⟨_, rfl, (by show 1 ≤ sizeLine; decide), fun i1 h1 => ⟨(by show 1 ≤ sizeLine; decide), fun i2 h2 => ⟨(by show 8 ≤ sizeLine; decide), fun L hL => ?_⟩⟩⟩
  have x1 := Ex.new (o := .lst [V.int 0]) h1
  have x2 := Ex.new (o := .tup [V.int 0]) h2
  have g1 := x2 _ _ (upd_same (H := H3) (a := i1) (o := .lst [V.int 0]))
  have g2 := upd_same (H := upd H3 i1 (.lst [V.int 0])) (a := i2) (o := .tup [V.int 0])
  have hA5 := (x1.trans x2) _ _ hA3
  have xL := Ex.new (o := .lst [V.int 6, .int (-1), .bl true, .bl false, .non, .str "0", .ref i1, .ref i2]) hL
  obtain ⟨ov, d, hv, it, bad⟩ : ∃ ov d, [V.int 6, .int (-1), .bl true, .bl false, .non, .str "0", .ref i1, .ref i2][wh]? = some ov ∧ Itm K (fresh (L2.del H A) (L2.del (upd (upd H3 i1 (.lst [V.int 0])) i2 (.tup [V.int 0])) A)) ov d ∧ isIdx d 6 = false := by
    have n1 : i1 ≠ A := (ne_of_none hA3 h1).symm
    have n2 : i2 ≠ A := (ne_of_none (x1 _ _ hA3) h2).symm
    match wh, hw with
    | 0, _ => exact ⟨_, .int 6, rfl, ⟨.int _, smallB_ok (by decide +kernel)⟩, rfl⟩
    | 1, _ => exact ⟨_, _, rfl, ⟨.int _, smallB_ok (by decide +kernel)⟩, rfl⟩
    | 2, _ => exact ⟨_, _, rfl, ⟨.bl _, smallB_ok (by decide +kernel)⟩, rfl⟩
    | 3, _ => exact ⟨_, _, rfl, ⟨.bl _, smallB_ok (by decide +kernel)⟩, rfl⟩
    | 4, _ => exact ⟨_, _, rfl, ⟨.non, smallB_ok (by decide +kernel)⟩, rfl⟩
    | 5, _ => exact ⟨_, _, rfl, ⟨.str _, smallB_ok (by decide +kernel)⟩, rfl⟩
    | 6, _ => exact ⟨_, .list [.int 0], rfl, ⟨.lst (SqL.of (fresh_get (Evl.fresh_back e03 h1) (by rw [del_ne n1]; exact g1))) (.cons (.int _) .nil), smallB_ok (by decide +kernel)⟩, rfl⟩
    | 7, _ => exact ⟨_, .tuple [.int 0], rfl, ⟨.tup (SqT.of (fresh_get (Evl.fresh_back (e03.trans x1) h2) (by rw [del_ne n2]; exact g2))) (.cons (.int _) .nil), smallB_ok (by decide +kernel)⟩, rfl⟩
  generalize upd (upd H3 i1 (.lst [V.int 0])) i2 (.tup [V.int 0]) = H5 at x1 x2 xL hv it hL hA5 g1 g2 ⊢
  refine ⟨_, rfl, L, _, _, _, rfl, rfl, SqL.of upd_same, atI_nat hv, ?_⟩
  have e06 := e03.trans (x1.trans (x2.trans xL))
  have hb6 := hb3.mono (x1.trans (x2.trans xL))
  have it6 : Dq K (fresh (L2.del H A) (L2.del (upd H5 L (.lst [V.int 6, .int (-1), .bl true, .bl false, .non, .str "0", .ref i1, .ref i2])) A)) ov d := it.dq.mono (fresh_up (Ex.del xL))
  have hA6 := xL _ _ hA5
  generalize upd H5 L (.lst [V.int 6, .int (-1), .bl true, .bl false, .non, .str "0", .ref i1, .ref i2]) = H6 at e06 hb6 it6 hA6 ⊢
  dsimp only [gName]
  refine ret_at ?_
  refine ⟨_, rfl, W, _, 3, _, rfl, rfl, SqL.of (e06 _ _ hW), rfl, _, rfl, _, rfl, cl, _, rfl, SqL.of (e06 _ _ hc), fun a1 ha1 => ?_⟩
  rw [cut_take]
  have y1 := Ex.new (o := .lst (((ws.map (·.2)).take at_).map iV)) ha1
  have f1 := upd_same (H := H6) (a := a1) (o := .lst (((ws.map (·.2)).take at_).map iV))
  generalize upd H6 a1 (.lst (((ws.map (·.2)).take at_).map iV)) = J1 at y1 f1 ⊢
  refine ⟨_, rfl, (by show 1 ≤ sizeLine; decide), fun a2 ha2 => ?_⟩
  have y2 := Ex.new (o := .lst [ov]) ha2
  have f2 := upd_same (H := J1) (a := a2) (o := .lst [ov])
  generalize upd J1 a2 (.lst [ov]) = J2 at y2 f2 ⊢
  have lr : (ws.map (·.2)).length = ws.length := List.length_map ..
  refine ⟨a1, a2, _, _, rfl, rfl, y2 _ _ f1, f2, Nat.le_of_lt (line_big (by simp; omega)), fun a3 ha3 => ?_⟩
  have y3 := Ex.new (o := .lst (((ws.map (·.2)).take at_).map iV ++ [ov])) ha3
  have f3 := upd_same (H := J2) (a := a3) (o := .lst (((ws.map (·.2)).take at_).map iV ++ [ov]))
  generalize upd J2 a3 (.lst (((ws.map (·.2)).take at_).map iV ++ [ov])) = J3 at y3 f3 ⊢
  have y13 := y1.trans (y2.trans y3)
  refine ⟨_, rfl, W, _, 3, _, rfl, rfl, SqL.of ((e06.trans y13) _ _ hW), rfl, _, rfl, _, _, rfl, rfl, _, rfl, cl, _, rfl, SqL.of ((e06.trans y13) _ _ hc), fun a4 ha4 => ?_⟩
  rw [show cutV ((ws.map (·.2)).map iV) (some ((at_ : Int) + 1)) none = ((ws.map (·.2)).drop (at_ + 1)).map iV from cut_drop iV (ws.map (·.2)) (at_ + 1)]
  have y4 := Ex.new (o := .lst (((ws.map (·.2)).drop (at_ + 1)).map iV)) ha4
  have f4 := upd_same (H := J3) (a := a4) (o := .lst (((ws.map (·.2)).drop (at_ + 1)).map iV))
  generalize upd J3 a4 (.lst (((ws.map (·.2)).drop (at_ + 1)).map iV)) = J4 at y4 f4 ⊢
  refine ⟨a3, a4, _, _, rfl, rfl, y4 _ _ f3, f4, Nat.le_of_lt (line_big (by simp; omega)), fun a5 ha5 => ?_⟩
  have y5 := Ex.new (o := .lst (((ws.map (·.2)).take at_).map iV ++ [ov] ++ ((ws.map (·.2)).drop (at_ + 1)).map iV)) ha5
  have y14 := y13.trans y4
  have nA : a5 ≠ A := (ne_of_none (y14 _ _ hA6) ha5).symm
  refine q (.ref a5) (some (.list (((ws.map (·.2)).take at_).map intD ++ d :: ((ws.map (·.2)).drop (at_ + 1)).map intD))) _ (e06.trans (y14.trans y5)) ((hb6.mono (y14.trans y5)).up (by omega)) (.inl ⟨a5, _, _, rfl, Evl.fresh_back (e06.trans y14) ha5, by rw [del_ne nA]; exact upd_same, dqs_snoc _ _ (it6.mono ?_), rfl, small_snoc (fun k m => ?_) (fun k m => ?_) it.sm, ?_⟩) (okC_odd bad)
  · refine ex_to_del (fresh_up (Ex.del (y14.trans y5))) ?_
    unfold fresh
    split
    · rw [del_ne nA]; exact Evl.fresh_back y14 ha5
    · rfl
  · have := lts k (List.mem_of_mem_take m); omega
  · have := lts k (List.mem_of_mem_drop m); omega
  · simp; omega
end

end T1

namespace T1
open PySem PySem.Spec PyProof.Rows L2 G
open Evl (Ex)
local macro_rules | `(tactic| walk_at "dd") => `(tactic| (dsimp only [tCB, tCons, tNil, tC, tOp, tUn, tTest, tB, tVar, tAndV, tOrV, tNotV, tIf, tAnd, tOr, tNot, tSeq, tRet, tRetN, tIfS, tAsg, gName, tDrop, tTup, tLst, tChain, tNext, tCall, L2.start]))
section
variable {X : Cx} {K : PySem.W.Frag} {W : WX}
theorem lets_XN {X : Cx} {W : WX} (tk : Takes X W) : Lets (L2N.CX X.prog X.w) X (atS W) := fun pins σ H s e s' I c => lets_X tk pins σ H s e s' I (cx_wider c)
/-- Store(tree=a, cells=b, homes=c) in a try's body -/
theorem store_mkKW {kws : List Keyword} {tk : TA} {p pos : Pos} (T : Tx X.K X.mg) (hr : RG 5 X.A) (hg : Gl X "Store") (hx : Takes X W) (hkw : PK X kws tk) (h : X.K = K := by rfl)
    (nk : NamedOnly X kws pos ["tree", "cells", "homes"] := by exact ⟨rfl, rfl, rfl⟩) :
    PE X (.Call (.Name "Store" p) [] kws pos) (tGMW (He.ga K "Store") 0 3 (sp_Store___init__ K) (fun us ws => us ++ sel [0, 2, 1] ws) W tNil tk) := by
  subst h
  obtain ⟨fd, F, G⟩ := ok_Store___init__ (P := X.prog) (w := X.w) (base := X.base) T
  obtain ⟨mv, kb⟩ := FunD.kbinds0 (ps := ["self", "tree", "homes", "cells"]) F 1 ["tree", "cells", "homes"] [] (fun us mv ws => us ++ sel [0, 2, 1] ws) (by simp) (fun q hq => absurd hq (by simp)) (fun r1 _ r3 => vals_app r1 (vals_sel r3 _))
    fun D doc pm an cdv ct us mv ws h1 h2 h3 => match us, mv, ws, h1, h2, h3 with
      | [a], [], [b, c, d], _, _, _ => rfl
  exact pe_gmk0W (mk_Store T) G.wider hr hg (T.glo 10 rfl) kb hx hkw nk (by decide)
end
theorem exc_is {K : PySem.W.Frag} {x : Str} (h : excB K x = true) : ExcC K (He.ga K x) ∧ PySem.W.kitOne K (.ref (He.ga K x)) (.ref (He.ga K "LeftError")) = some true ∧ PySem.W.kitOne K (.ref (He.ga K x)) (.type "ValueError") = some true := by
  unfold excB at h
  simp only [Bool.and_eq_true, List.all_cons, List.all_nil, decide_eq_true_eq, and_true] at h
  obtain ⟨⟨h1, h2, h3⟩, h4, h5, h6, h7, h8, h9, h10⟩ := h
  exact ⟨⟨h1, h2, h7, h8, h3, h4, h5, h6⟩, h9, h10⟩
def sp__law_caught (K : PySem.W.Frag) : Sp := sp4 fun a b c d H Q E => ∃ t n rs Fs oh oc k, a = .ref t ∧ TreeAt K H t n rs Fs ∧ ValD K H b oh ∧ lenD oh ≤ 100000 ∧ ValD K H c oc ∧ lenD oc ≤ 100000 ∧ d = .int k ∧
  (okH n oh = false → ∀ L H', Ex H H' → H L = none → H' L = some (.lst [.str "homes", b, .bl true]) → Q (.ref L) H') ∧
  (okH n oh = true → okC (lenD oh) oc = false → ∀ L H', Ex H H' → H L = none → H' L = some (.lst [.str "cells", c, .bl true]) → Q (.ref L) H') ∧
  (okH n oh = true → okC (lenD oh) oc = true → ∀ L H', Ex H H' → H L = none → H' L = some (.lst [.str "none", .non, .bl true]) → Q (.ref L) H')
section
variable {K : PySem.W.Frag} {mg : Str → Option Value} {P : Program} {w : World} {base : Heap}
theorem ok__law_caught (T : Tx K mg) : Cal P w K mg base CX0 7 "_law_caught" ["_law_built", "_law_homes", "_law_cells", "_law_turn"] (sp__law_caught K) := by
  refine cal_of (fD__law_caught T) (T.glo 40 rfl) sc__law_caught (fun _ _ _ _ _ _ us hl => match us, hl with | [_, _, _, _], _ => rfl) (fun vs H Q E h => len4 h) (fun f cdv A outer s H vs Q E hr h => ?_)
  obtain ⟨a, b, c, d, rfl, h⟩ := h
  refine ⟨_, (PSs.nox (pss_cons (ps_tryAs (i := 4) rfl rfl sc__law_caught.nd rfl rfl (fun W pn xe tk po => (pss_one (ps_if (pt_cmpR op_eq (pv 3) pe_int (nomark _)) (pss_one (ps_expr (store_mkZ (K := K) T (hr.mono (by decide)) rfl (lets_XN tk) (pa_cons (pv 0) (pa_cons (pv 1) pa_nil)) (pk_cons (pv 2) pk_nil)))) (pss_one (ps_expr (store_mkKW (K := K) T (hr.mono (by decide)) rfl tk (pk_cons (pv 0) (pk_cons (pv 2) (pk_cons (pv 1) pk_nil))))))))) (HdsAs.cons ⟨rfl, by decide, .inl (T.glo 5 rfl)⟩ (fun ax oe cls dx pn hz hf => (pss_one (ps_ret (pe_lst (pa_cons pe_str (pa_cons (pe_xf (T.err 4 rfl).xf ((T.err 4 rfl).no "given" (by simp)) hz hf (pv 4)) (pa_cons (pe_and (pe_callB (call_isX (K := K) hz hf) (by rfl) (T.free 6 rfl) (by decide +kernel) (pa_cons (pv 4) (pa_cons (pe_glob (v := .ref (He.ga K "LeftError")) rfl (T.glo 0 rfl) rfl) pa_nil))) (pe_one (pe_callB (call_isX (K := K) hz hf) (by rfl) (T.free 6 rfl) (by decide +kernel) (pa_cons (pv 4) (pa_cons (pe_bltn (v := .ty "ValueError") (u := .type "ValueError") (by rfl) (T.free 0 rfl) (by decide +kernel) rfl) pa_nil))))) pa_nil))))))) (HdsAs.cons ⟨rfl, by decide, .inl (T.glo 6 rfl)⟩ (fun ax oe cls dx pn hz hf => (pss_one (ps_ret (pe_lst (pa_cons pe_str (pa_cons (pe_xf (T.err 5 rfl).xf ((T.err 5 rfl).no "given" (by simp)) hz hf (pv 4)) (pa_cons (pe_and (pe_callB (call_isX (K := K) hz hf) (by rfl) (T.free 6 rfl) (by decide +kernel) (pa_cons (pv 4) (pa_cons (pe_glob (v := .ref (He.ga K "LeftError")) rfl (T.glo 0 rfl) rfl) pa_nil))) (pe_one (pe_callB (call_isX (K := K) hz hf) (by rfl) (T.free 6 rfl) (by decide +kernel) (pa_cons (pv 4) (pa_cons (pe_bltn (v := .ty "ValueError") (u := .type "ValueError") (by rfl) (T.free 0 rfl) (by decide +kernel) rfl) pa_nil))))) pa_nil))))))) HdsAs.nil)))
      (pss_one (ps_ret (pe_lst (pa_cons pe_str (pa_cons pe_non (pa_cons pe_bl pa_nil)))))))), ?_⟩
  obtain ⟨t, n, rs, Fs, oh, oc, k, rfl, tr, vh, lh, vc, lc, rfl, q1, q2, q3⟩ := h
  have excH := exc_is (T.exc 4 rfl)
  have excC := exc_is (T.exc 5 rfl)
  have mk : ∀ (Qd : Addr → Hp → Prop) (E' : XK), (okH n oh = false → Err1 K E' H "InvalidHomes" "given" b) → (okH n oh = true → okC (lenD oh) oc = false → Err1 K E' H "InvalidCells" "given" c) → (okH n oh = true → okC (lenD oh) oc = true → ∀ x H', Ex H H' → Qd x H') →
      ∀ x dx, H x = none → H dx = none → dx ≠ x → sp_Store___init__ K [.ref x, .ref t, b, c] (upd (upd H dx (.own x)) x (.ins (He.ga K "Store") dx [])) (fun v H3 => v = .non ∧ Qd x H3) E' := fun Qd E' h1 h2 h3 x dx hx hdx ne =>
    ⟨_, _, _, _, rfl, H, x, dx, t, n, rs, Fs, oh, oc, rfl, fun b o e => by rw [upd_ne (ne_of_none e hx), upd_ne (ne_of_none e hdx)]; exact e, hx, upd_same, rfl, tr, vh, lh, vc, lc, h1, h2, fun o1 o2 H' e _ => ⟨rfl, h3 o1 o2 x H' e⟩⟩
  refine seq_at ?_
  refine seq_at (ifs_at (test_at ⟨_, rfl, rfl, _, rfl, ?_⟩))
  cases decide (V.int k = V.int 0)
  case true =>
    refine iteT ?_
    refine ⟨_, rfl, _, rfl, _, rfl, rfl, rfl, mk _ _ (fun o1 d' H' ex hx => ?_) (fun o1 o2 d' H' ex hx => ?_) fun o1 o2 x H' ex => ?_⟩
    · refine ⟨true, T.exm (x := "InvalidHomes") (y := "InvalidHomes") 4 4 rfl rfl rfl, fun _ ax hax => ?_, fun z => nomatch z⟩
      dsimp only [Ends.gone]
      refine ret_at ?_
      refine ⟨_, rfl, rfl, rfl, d', _, _, rfl, hx, rfl, ?_⟩
      refine cons_at (andv_at ?_)
      refine ⟨_, rfl, _, d', _, _, _, true, rfl, rfl, rfl, hx, excH.1, .own _, excH.2.1, _, rfl, iteT ?_⟩
      refine ⟨_, rfl, _, d', _, _, _, true, rfl, rfl, rfl, hx, excH.1, .ty _, excH.2.2, ?_⟩
      exact ⟨(by show 3 ≤ sizeLine; decide), fun L hL => q1 o1 L _ (ex.trans (Ex.new hL)) (Evl.fresh_back ex hL) upd_same⟩
    · refine ⟨false, T.exm (x := "InvalidCells") (y := "InvalidHomes") 5 4 rfl rfl rfl, (fun z => nomatch z), fun _ => ⟨true, T.exm (x := "InvalidCells") (y := "InvalidCells") 5 5 rfl rfl rfl, fun _ ax hax => ?_, fun z => nomatch z⟩⟩
      dsimp only [Ends.gone]
      refine ret_at ?_
      refine ⟨_, rfl, rfl, rfl, d', _, _, rfl, hx, rfl, ?_⟩
      refine cons_at (andv_at ?_)
      refine ⟨_, rfl, _, d', _, _, _, true, rfl, rfl, rfl, hx, excC.1, .own _, excC.2.1, _, rfl, iteT ?_⟩
      refine ⟨_, rfl, _, d', _, _, _, true, rfl, rfl, rfl, hx, excC.1, .ty _, excC.2.2, ?_⟩
      exact ⟨(by show 3 ≤ sizeLine; decide), fun L hL => q2 o1 o2 L _ (ex.trans (Ex.new hL)) (Evl.fresh_back ex hL) upd_same⟩
    · dsimp only
      refine ret_at ?_
      exact ⟨(by show 3 ≤ sizeLine; decide), fun L hL => q3 o1 o2 L _ (ex.trans (Ex.new hL)) (Evl.fresh_back ex hL) upd_same⟩
  case false =>
    refine iteF ?_
    refine ⟨_, rfl, _, rfl, _, rfl, rfl, rfl, mk _ _ (fun o1 d' H' ex hx => ?_) (fun o1 o2 d' H' ex hx => ?_) fun o1 o2 x H' ex => ?_⟩
    · refine ⟨true, T.exm (x := "InvalidHomes") (y := "InvalidHomes") 4 4 rfl rfl rfl, fun _ ax hax => ?_, fun z => nomatch z⟩
      dsimp only [Ends.gone]
      refine ret_at ?_
      refine ⟨_, rfl, rfl, rfl, d', _, _, rfl, hx, rfl, ?_⟩
      refine cons_at (andv_at ?_)
      refine ⟨_, rfl, _, d', _, _, _, true, rfl, rfl, rfl, hx, excH.1, .own _, excH.2.1, _, rfl, iteT ?_⟩
      refine ⟨_, rfl, _, d', _, _, _, true, rfl, rfl, rfl, hx, excH.1, .ty _, excH.2.2, ?_⟩
      exact ⟨(by show 3 ≤ sizeLine; decide), fun L hL => q1 o1 L _ (ex.trans (Ex.new hL)) (Evl.fresh_back ex hL) upd_same⟩
    · refine ⟨false, T.exm (x := "InvalidCells") (y := "InvalidHomes") 5 4 rfl rfl rfl, (fun z => nomatch z), fun _ => ⟨true, T.exm (x := "InvalidCells") (y := "InvalidCells") 5 5 rfl rfl rfl, fun _ ax hax => ?_, fun z => nomatch z⟩⟩
      dsimp only [Ends.gone]
      refine ret_at ?_
      refine ⟨_, rfl, rfl, rfl, d', _, _, rfl, hx, rfl, ?_⟩
      refine cons_at (andv_at ?_)
      refine ⟨_, rfl, _, d', _, _, _, true, rfl, rfl, rfl, hx, excC.1, .own _, excC.2.1, _, rfl, iteT ?_⟩
      refine ⟨_, rfl, _, d', _, _, _, true, rfl, rfl, rfl, hx, excC.1, .ty _, excC.2.2, ?_⟩
      exact ⟨(by show 3 ≤ sizeLine; decide), fun L hL => q2 o1 o2 L _ (ex.trans (Ex.new hL)) (Evl.fresh_back ex hL) upd_same⟩
    · dsimp only
      refine ret_at ?_
      exact ⟨(by show 3 ≤ sizeLine; decide), fun L hL => q3 o1 o2 L _ (ex.trans (Ex.new hL)) (Evl.fresh_back ex hL) upd_same⟩
end

end T1

namespace T1
open PySem PySem.Spec PyProof.Rows L2 G
open Evl (Ex)
local macro_rules | `(tactic| walk_at "dd") => `(tactic| (dsimp only [tCB, tCons, tNil, tC, tOp, tUn, tTest, tB, tVar, tAndV, tOrV, tNotV, tIf, tAnd, tOr, tNot, tSeq, tRet, tRetN, tIfS, tAsg, gName, tDrop, tTup, tLst, tChain, tNext, tCall, L2.start]))
theorem orv_at {ta tb : TE} {σ : L2.St} {H : Hp} {Q : VK} (h : ta σ H fun x H1 => ∃ c, x = .bl c ∧ if c = true then Q (.bl true) H1 else tb σ H1 Q) : tOrV ta tb σ H Q := h
def sp__law_very (K : PySem.W.Frag) : Sp := sp3 fun a b c H Q E => ∃ L x, a = .ref L ∧ b = .str x ∧ H L = some (.lst [.str x, c, .bl true]) ∧ ((∃ p xs ds, c = .ref p ∧ H p = some (.lst xs) ∧ Dqs K (L2.del H p) xs ds ∧ xs.length ≤ 1000 ∧ L ≠ p ∧ ∀ H', Ex (L2.del H p) H' → H' p = some (.lst (xs ++ [.str "more"])) → Q (.bl true) H') ∨
  (∃ d, Dq K H c d ∧ Flt d ∧ ∀ H', Ex H H' → Q (.bl true) H') ∨ (∃ t n rs Fs, c = .ref t ∧ TreeAt K H t n rs Fs ∧ ∀ H', Ex H H' → Q (.bl true) H'))
section
variable {K : PySem.W.Frag} {mg : Str → Option Value} {P : Program} {w : World} {base : Heap}
theorem ok__law_very (T : Tx K mg) : Cal P w K mg base CX0 3 "_law_very" ["_law_told", "_law_kind", "_law_wrong"] (sp__law_very K) := by
  refine cal_of (fD__law_very T) (T.glo 41 rfl) sc__law_very (fun _ _ _ _ _ _ us hl => match us, hl with | [_, _, _], _ => rfl) (fun vs H Q E h => len3 h) (fun f cdv A outer s H vs Q E hr h => ?_)
  obtain ⟨a, b, c, rfl, h⟩ := h
  refine ⟨_, (PSs.nox (pss_cons (ps_if (PW.pt (pw_or (pt_cmpR op_ne (pe_ix (ix_listK (K := K)) (pv 0) pe_int (fun _ _ => rfl)) (pv 1) (nomark _)) (pw_or (pt_cmpR op_notBl (pe_ix (ix_listK (K := K)) (pv 0) pe_int (fun _ _ => rfl)) pe_bl (nomark _)) (pw_or1 (pt_cmpR (op_either (op_neSelfD (K := K) (hu0 hr.r)) (tree_ne (K := K) T (hr.mono (by decide)))) (pe_ix (ix_listK (K := K)) (pv 0) pe_int (fun _ _ => rfl)) (pv 2) (nomark _)))))) (pss_one (ps_ret pe_bl)) pss_nil)
      (pss_cons (ps_if (pt_val (pe_callB (call_isiK' (K := K)) (by rfl) (T.free 6 rfl) (by decide +kernel) (pa_cons (pv 2) (pa_cons (pe_bltn (v := .ty "list") (u := .type "list") (by rfl) (T.free 8 rfl) (by decide +kernel) rfl) pa_nil)))) (pss_cons (ps_expr (pe_bm PySem.F.plainAttrs_list PySem.F.slot_list_append PySem.F.type_list_append mt_append (pv 2) (pa_cons pe_str pa_nil)))
      (pss_one (ps_ret (pe_cmpR (op_eqSelf (K := K) (hu0 hr.r)) (pe_ix (ix_listK (K := K)) (pv 0) pe_int (fun _ _ => rfl)) (pv 2) (nomark _))))) pss_nil)
      (pss_one (ps_ret (pe_or (pe_callB (call_isiK' (K := K)) (by rfl) (T.free 6 rfl) (by decide +kernel) (pa_cons (pv 2) (pa_cons (pe_glob (v := .ref (He.ga K "Tree")) rfl (T.glo 9 rfl) rfl) pa_nil))) (pe_one (pe_cmpR op_eq (pe_callB (call_reprK (K := K) T.sm hr.g (hu64 hr.r)) (by rfl) (T.free 12 rfl) (by decide +kernel) (pa_cons (pe_ix (ix_listK (K := K)) (pv 0) pe_int (fun _ _ => rfl)) pa_nil)) (pe_callB (call_reprK (K := K) T.sm hr.g (hu64 hr.r)) (by rfl) (T.free 12 rfl) (by decide +kernel) (pa_cons (pv 2) pa_nil)) (nomark _))))))))), ?_⟩
  obtain ⟨L, x, rfl, rfl, hL, cs⟩ := h
  have self : (∃ d, Dq K H c d ∧ ∀ ds, d ≠ .tuple ds) ∨ ∃ t n rs Fs, c = .ref t ∧ TreeAt K H t n rs Fs := by
    rcases cs with ⟨p, xs, ds, rfl, hp, hds, _⟩ | ⟨d, hd, fl, _⟩ | ⟨t, n, rs, Fs, e, tr, _⟩
    · exact .inl ⟨_, .lst (SqL.of hp) (hds.mono Ex.ofDel), fun _ z => nomatch z⟩
    · exact .inl ⟨d, hd, fl.nt⟩
    · exact .inr ⟨t, n, rs, Fs, e, tr⟩
  have lA := SqL.of (K := K) hL
  refine seq_at (ifs_at (or_at ?_))
  refine ⟨_, rfl, L, _, 0, _, rfl, rfl, lA, rfl, _, rfl, rfl, _, rfl, ?_⟩
  rw [decide_eq_true rfl]
  refine iteF (or_at ?_)
  refine ⟨_, rfl, L, _, 2, _, rfl, rfl, lA, rfl, true, true, rfl, rfl, _, rfl, ?_⟩
  refine iteF (test_at ?_)
  refine ⟨_, rfl, L, _, 1, _, rfl, rfl, lA, rfl, _, rfl, ?_⟩
  rcases cs with ⟨p, xs, ds, rfl, hp, hds, lx, ne, q⟩ | ⟨d, hd, fl, q⟩ | ⟨t, n, rs, Fs, rfl, tr, q⟩
  · have dl : Dq K H (.ref p) (.list ds) := .lst (SqL.of hp) (hds.mono Ex.ofDel)
    refine .inl ⟨rfl, ⟨_, dl, fun _ z => nomatch z⟩, _, rfl, ?_⟩
    refine iteF ?_
    dsimp only [tNext]
    refine seq_at (ifs_at (b_at (cb2_at ⟨_, rfl, rIsi_of dl rfl ?_⟩)))
    refine ⟨_, rfl, iteT (seq_at ?_)⟩
    refine ⟨_, rfl, .inl ⟨rfl, _, SqL.of hp⟩, p, _, _, rfl, rfl, hp, line_big (by omega), ?_⟩
    dsimp only
    refine ret_at (op_at ?_)
    have hp2 := upd_same (H := H) (a := p) (o := .lst (xs ++ [.str "more"]))
    have hL2 : upd H p (.lst (xs ++ [.str "more"])) L = _ := (upd_ne ne).trans hL
    refine ⟨_, rfl, L, _, 1, _, rfl, rfl, SqL.of hL2, rfl, _, rfl, p, _, rfl, rfl, SqL.of hp2, q _ (Ex.mut Ex.ofDel del_same) hp2⟩
  · have il : isT "list" d = false := by cases d <;> first | rfl | exact absurd rfl (fl.nl _)
    refine .inl ⟨rfl, ⟨_, hd, fl.nt⟩, _, rfl, ?_⟩
    refine iteF ?_
    dsimp only [tNext]
    refine seq_at (ifs_at (b_at (cb2_at ⟨_, rfl, rIsi_of hd rfl ?_⟩)))
    rw [il]
    refine ⟨_, rfl, iteF ?_⟩
    dsimp only [tNext]
    refine ret_at (orv_at ?_)
    refine cb2_at ⟨_, rfl, isi_own_d (T.own 0 rfl) hd ⟨_, rfl, iteF ?_⟩⟩
    refine op_at (cb_at ?_)
    refine ⟨_, rfl, L, _, 1, _, rfl, rfl, lA, rfl, rRepr_of hd fl.sm (by omega) (by omega) ?_⟩
    refine cb_at ⟨_, rfl, rRepr_of hd fl.sm (by omega) (by omega) ⟨rfl, ?_⟩⟩
    rw [decide_eq_true rfl]
    exact q _ (Ex.refl _)
  · have ho : OwnAt K H (.ref t) := ⟨0, "Tree", t, rfl, rfl, tr.ins⟩
    refine .inr (ne_trees T tr tr ⟨_, rfl, ?_⟩)
    rw [show (!(decide (n = n) && decide (rs = rs))) = false by simp]
    refine iteF ?_
    dsimp only [tNext]
    refine seq_at (ifs_at (b_at (cb2_at ⟨_, rfl, isi_ty_o T ho (by simp) ⟨_, rfl, iteF ?_⟩⟩)))
    dsimp only [tNext]
    refine ret_at (orv_at ?_)
    refine cb2_at ⟨_, rfl, isi_own_o (T.own 0 rfl) (T.own 0 rfl) (cl_Tree T) (by simp [owns]) tr.ins ⟨_, rfl, ?_⟩⟩
    exact iteT (q _ (Ex.refl _))
end

end T1

namespace T1
open PySem PySem.Spec PyProof.Rows L2 G
open Evl (Ex)
local macro_rules | `(tactic| walk_at "dd") => `(tactic| (dsimp only [tCB, tCons, tNil, tC, tOp, tUn, tTest, tB, tVar, tAndV, tOrV, tNotV, tIf, tAnd, tOr, tNot, tSeq, tRet, tRetN, tIfS, tAsg, gName, tDrop, tTup, tLst, tChain, tNext, tCall, L2.start]))
/-- what such a value is later: F holds what it is made of -/
def Vk (K : PySem.W.Frag) (F H : Hp) (v : V) (bad : Option PyData → Bool) : Prop :=
  (∃ p xs ds, v = .ref p ∧ H p = some (.lst xs) ∧ Dqs K F xs ds ∧ bad (some (.list ds)) = false ∧ ds.length ≤ 21) ∨
  (∃ d, Dq K F v d ∧ Flt d ∧ bad (some d) = false) ∨
  (∃ t n rs Fs, v = .ref t ∧ TreeAt K H t n rs Fs ∧ bad none = false)
theorem Vk.mono {K : PySem.W.Frag} {F H H' : Hp} {v : V} {bad} (e : Ex H H') (h : Vk K F H v bad) : Vk K F H' v bad := by
  rcases h with ⟨p, xs, ds, h1, h2, h3⟩ | h | ⟨t, n, rs, Fs, h1, h2, h3⟩
  · exact .inl ⟨p, xs, ds, h1, e _ _ h2, h3⟩
  · exact .inr (.inl h)
  · exact .inr (.inr ⟨t, n, rs, Fs, h1, h2.mono e, h3⟩)
theorem Vk.del {K : PySem.W.Frag} {F H : Hp} {v : V} {bad} {p : Addr} {l : List V} (h : Vk K F H v bad) (ne : v ≠ .ref p) (hp : H p = some (.lst l)) : Vk K F (L2.del H p) v bad := by
  rcases h with ⟨p', xs, ds, h1, h2, h3⟩ | h | ⟨t, n, rs, Fs, h1, h2, h3⟩
  · exact .inl ⟨p', xs, ds, h1, by rw [del_ne (fun q => ne (by rw [h1, q]))]; exact h2, h3⟩
  · exact .inr (.inl h)
  · exact .inr (.inr ⟨t, n, rs, Fs, h1, TreeAt.del hp h2, h3⟩)
theorem Vk.val {K : PySem.W.Frag} {F H : Hp} {v : V} {bad} (e : Ex F H) (h : Vk K F H v bad) : ∃ o, ValD K H v o ∧ lenD o ≤ 100000 ∧ bad o = false := by
  rcases h with ⟨p, xs, ds, rfl, h2, h3, h4, h5⟩ | ⟨d, h1, h2, h3⟩ | ⟨t, n, rs, Fs, rfl, h2, h3⟩
  · exact ⟨some (.list ds), Dq.lst (SqL.of h2) (h3.mono e), (by show ds.length ≤ _; omega), h4⟩
  · refine ⟨some d, h1.mono e, ?_, h3⟩
    have z : items d = [] := by cases d <;> first | rfl | exact absurd rfl (h2.nl _) | exact absurd rfl (h2.nt _)
    show (items d).length ≤ _
    rw [z]; exact Nat.zero_le _
  · exact ⟨none, ⟨0, "Tree", t, rfl, rfl, h2.ins⟩, Nat.zero_le _, h3⟩
/-- it equals itself -/
theorem Vk.self {K : PySem.W.Frag} {mg : Str → Option Value} {F H : Hp} {v : V} {bad} {Q : VK} (T : Tx K mg) (e : Ex F H) (h : Vk K F H v bad) (q : Q (.bl true) H) : rSelfD K true v v H Q ∨ rCmpO K (He.ga K "Tree") false (sp_Tree___eq__ K) E0 v v H Q := by
  rcases h with ⟨p, xs, ds, rfl, h2, h3, h4, h5⟩ | ⟨d, h1, h2, h3⟩ | ⟨t, n, rs, Fs, rfl, h2, h3⟩
  · exact .inl ⟨rfl, ⟨_, .lst (SqL.of h2) (h3.mono e), fun _ z => nomatch z⟩, q⟩
  · exact .inl ⟨rfl, ⟨_, h1.mono e, h2.nt⟩, q⟩
  · refine .inr (eq_trees T h2 h2 ?_)
    rw [show (decide (n = n) && decide (rs = rs)) = true by simp]
    exact q
/-- _law_very of such a value: what stands behind it -/
theorem very_new {K : PySem.W.Frag} {B X0 X H : Hp} {v : V} {o : Option PyData} {L : Addr} {x : Str} {bad : Option PyData → Bool} {R : VK} {E : XK} (nw : New K B X0 v o) (e0 : Ex X0 X) (eX : Ex X H) (nL : X L = none) (hL : H L = some (.lst [.str x, v, .bl true])) (hb : bad o = false) (more : ∀ ds, bad (some (.list (ds ++ [.str "more"]))) = false)
    (q : ∀ H' X' F, Ex X' H' → Ex F X' → Ex F (fresh B X0) → Vk K F H' v bad → ((X' = X ∧ Ex H H') ∨ ∃ p l, v = .ref p ∧ B p = none ∧ X0 p = some (.lst l) ∧ X' = L2.del X p ∧ Ex (L2.del H p) H') → R (.bl true) H') : sp__law_very K [.ref L, .str x, v] H R E := by
  refine ⟨_, _, _, rfl, L, x, rfl, rfl, hL, ?_⟩
  rcases nw with ⟨a, xs, ds, rfl, h2, h3, h4, rfl, h5, h6⟩ | ⟨d, h1, h2, rfl⟩ | ⟨t, n, rs, Fs, rfl, h2, rfl⟩
  · have ef : Ex (L2.del (fresh B X0) a) (L2.del X a) := Ex.del (fresh_ex.trans e0)
    refine .inl ⟨a, xs, ds, rfl, eX _ _ (e0 _ _ h3), h4.mono (ef.trans (Ex.del eX)), ?_, (fun z => by rw [z, e0 _ _ h3] at nL; cases nL), fun H' e' hp => ?_⟩
    · have := h4.length; omega
    · refine q H' (L2.del X a) _ ((Ex.del eX).trans e') ef Ex.ofDel (.inl ⟨a, xs ++ [.str "more"], ds ++ [.str "more"], rfl, hp, h4.append (.cons (.str _) .nil), more ds, ?_⟩) (.inr ⟨a, xs, rfl, h2, h3, rfl, e'⟩)
      rw [List.length_append]; show ds.length + 1 ≤ 21; omega
  · exact .inr (.inl ⟨d, h1.mono (fresh_ex.trans (e0.trans eX)), h2, fun H' e' => q H' X (fresh B X0) (eX.trans e') (fresh_ex.trans e0) (Ex.refl _) (.inr (.inl ⟨d, h1, h2, hb⟩)) (.inl ⟨rfl, e'⟩)⟩)
  · exact .inr (.inr ⟨t, n, rs, Fs, rfl, h2.mono (e0.trans eX), fun H' e' => q H' X (fresh B X0) (eX.trans e') (fresh_ex.trans e0) (Ex.refl _) (.inr (.inr ⟨t, n, rs, Fs, rfl, h2.mono (e0.trans (eX.trans e')), hb⟩)) (.inl ⟨rfl, e'⟩)⟩)
theorem New.old {K : PySem.W.Frag} {B H : Hp} {v : V} {o : Option PyData} (h : New K B H v o) : ∀ p, v = .ref p → H p ≠ none := by
  rintro p rfl
  rcases h with ⟨a, xs, ds, e, h2, h3, _⟩ | ⟨d, h1, h2, _⟩ | ⟨t, n, rs, Fs, e, h2, _⟩
  · cases e; rw [h3]; simp
  · cases h1 with
    | lst h hs => exact absurd rfl (h2.nl _)
    | tup h hs => exact absurd rfl (h2.nt _)
    | dic h hs => rw [fresh_ex _ _ h]; simp
  · cases e
    obtain ⟨_, _, g⟩ := h2.ins
    rw [g]; simp
theorem box_del {H : Hp} {A p : Addr} {c : Nat} (h : BoxAt H A c) (ne : p ≠ A) : BoxAt (L2.del H p) A c := by
  obtain ⟨x, b, y, k, z, r⟩ := h
  exact ⟨x, b, y, k, by rw [del_ne ne.symm]; exact z, r⟩
def sp__law_refused (K : PySem.W.Frag) : Sp := sp3 fun a b c H Q E => ∃ (A : Addr) (c0 n : Nat) (rs ws : List (Nat × Nat)) (k : Int), a = .ref A ∧ World3 K (L2.del H A) b n rs ws ∧ c = .int k ∧ c0 ≤ 800000 ∧ BoxAt H A c0 ∧ ∀ H', Ex (L2.del H A) H' → BoxAt H' A (c0 + 10) → Q (.bl true) H'
section
variable {K : PySem.W.Frag} {mg : Str → Option Value} {P : Program} {w : World} {base : Heap}
theorem ok__law_refused (T : Tx K mg) : Cal P w K mg base CX0 8 "_law_refused" ["_law_box_here", "_law_world_here", "_law_turn"] (sp__law_refused K) := by
  refine cal_of (fD__law_refused T) (T.glo 42 rfl) sc__law_refused (fun _ _ _ _ _ _ us hl => match us, hl with | [_, _, _], _ => rfl) (fun vs H Q E h => len3 h) (fun f cdv A outer s H vs Q E hr h => ?_)
  obtain ⟨a, b, c, rfl, h⟩ := h
  refine ⟨_, (PSs.nox (pss_cons (ps_set (i := 3) sc__law_refused.nd rfl (Or.inl rfl) (tree_mk (K := K) T (hr.mono (by decide)) rfl (pa_cons (pe_ix (ix_listK (K := K)) (pv 1) pe_int (fun _ _ => rfl)) (pa_cons (pe_ix (ix_listK (K := K)) (pv 1) pe_int (fun _ _ => rfl)) pa_nil))))
      (pss_cons (ps_par (i := 4) (j := 5) rfl sc__law_refused.nd rfl rfl (by decide) rfl rfl (pa_cons (pe_c (ok__law_wrong_homes T) (hr.mono (by decide)) rfl pass0 (pa_cons (pv 0) (pa_cons (pv 1) pa_nil))) (pa_cons (pe_c (ok__law_wrong_cells T) (hr.mono (by decide)) rfl pass0 (pa_cons (pv 0) (pa_cons (pv 1) pa_nil))) pa_nil)) (by rfl))
      (pss_cons (ps_set (i := 6) sc__law_refused.nd rfl (Or.inl rfl) (pe_ix (ix_listK (K := K)) (pe_lst (pa_cons pe_non (pa_cons (pe_callTy (call_listK (K := K)) (by rfl) (T.free 8 rfl) (by decide +kernel) (pa_cons (pe_ix (ix_listK (K := K)) (pv 1) pe_int (fun _ _ => rfl)) pa_nil)) (pa_cons (pe_callTy (call_tupK (K := K)) (by rfl) (T.free 17 rfl) (by decide +kernel) (pa_cons (pe_ix (ix_listK (K := K)) (pv 1) pe_int (fun _ _ => rfl)) pa_nil)) pa_nil)))) (pe_c (ok__law_take T) (hr.mono (by decide)) rfl pass0 (pa_cons (pv 0) (pa_cons pe_int pa_nil))) (fun _ _ => rfl)))
      (pss_cons (ps_if (pt_not (pt_val (pe_c (ok__law_very T) (hr.mono (by decide)) rfl pass0 (pa_cons (pe_c (ok__law_caught T) (hr.mono (by decide)) rfl pass0 (pa_cons (pv 3) (pa_cons (pv 4) (pa_cons (pv 6) (pa_cons (pv 2) pa_nil))))) (pa_cons pe_str (pa_cons (pv 4) pa_nil)))))) (pss_one (ps_ret pe_bl)) pss_nil)
      (pss_cons (ps_if (pt_not (pt_val (pe_c (ok__law_very T) (hr.mono (by decide)) rfl pass0 (pa_cons (pe_c (ok__law_caught T) (hr.mono (by decide)) rfl pass0 (pa_cons (pv 3) (pa_cons (pe_callTy (call_listK (K := K)) (by rfl) (T.free 8 rfl) (by decide +kernel) (pa_cons (pe_ix (ix_listK (K := K)) (pv 1) pe_int (fun _ _ => rfl)) pa_nil)) (pa_cons (pv 5) (pa_cons (pe_op op_sub pe_int (pv 2)) pa_nil))))) (pa_cons pe_str (pa_cons (pv 5) pa_nil)))))) (pss_one (ps_ret pe_bl)) pss_nil)
      (pss_cons (ps_set (i := 7) sc__law_refused.nd rfl (Or.inl rfl) (pe_c (ok__law_caught T) (hr.mono (by decide)) rfl pass0 (pa_cons (pv 3) (pa_cons (pv 4) (pa_cons (pv 5) (pa_cons (pv 2) pa_nil))))))
      (pss_one (ps_ret (pe_and (pe_cmpR (op_eqDK (K := K) (hu64 hr.r)) (pe_slice (sl_listK (K := K)) (pv 7) po_none (po_some pe_int)) (pe_lst (pa_cons pe_str pa_nil)) (nomark _)) (pe_and (pe_cmpR (op_either (op_eqSelfD (K := K) (hu0 hr.r)) (tree_eq (K := K) T (hr.mono (by decide)))) (pe_ix (ix_listK (K := K)) (pv 7) pe_int (fun _ _ => rfl)) (pv 4) (nomark _)) (pe_one (pe_cmpR op_eq (pe_ix (ix_listK (K := K)) (pe_c (ok__law_caught T) (hr.mono (by decide)) rfl pass0 (pa_cons (pv 3) (pa_cons (pe_ix (ix_listK (K := K)) (pv 1) pe_int (fun _ _ => rfl)) (pa_cons (pv 6) (pa_cons (pv 2) pa_nil))))) pe_int (fun _ _ => rfl)) pe_str (nomark _)))))))))))))), ?_⟩
  obtain ⟨A, c0, n, rs, ws, k, rfl, wo, rfl, c9, hb, q⟩ := h
  have wo0 := wo
  obtain ⟨⟨W, S, hl, cl, ts, rfl, hW, hS, tp, hh, hc⟩, ok, few, lt⟩ := wo0.mono Ex.ofDel
  refine seq_at (asg_at ?_)
  refine ⟨_, rfl, W, _, 0, _, rfl, rfl, SqL.of hW, rfl, _, rfl, W, _, 1, _, rfl, rfl, SqL.of hW, rfl, rfl, rfl, ?_⟩
  refine world_tree (d2 := .list (rs.map pairD)) ok (.int _) (.lst (SqL.of hS) (tp_dqs tp)) rfl rfl fun t H1 Fs e1 ht tr => ?_
  obtain ⟨l0, hA0⟩ := hb.some
  have hb1 := hb.mono e1
  have hA1 := e1 _ _ hA0
  have tr1 := TreeAt.del hA1 tr
  have b1 : Ex (L2.del H A) H1 := Ex.ofDel.trans e1
  dsimp only [gName]
  refine seq_at ?_
  refine ⟨_, rfl, _, rfl, _, _, rfl, A, c0, n, rs, ws, rfl, wo.mono (Ex.del e1), by omega, hb1, fun v1 o1 H2 e2 hb2 nw1 bad1 => ?_⟩
  refine ⟨_, rfl, _, rfl, _, _, rfl, A, c0 + 3, n, rs, ws, rfl, (wo.mono (Ex.del e1)).mono (ex_dels e2), by omega, hb2, fun v2 o2 H3 e3 hb3 nw2 bad2 => ?_⟩
  refine ⟨_, _, rfl, ?_⟩
  dsimp only
  refine seq_at (asg_at ?_)
  have b2 : Ex (L2.del H1 A) (L2.del H2 A) := ex_dels e2
  have b3 : Ex (L2.del H2 A) (L2.del H3 A) := ex_dels e3
  obtain ⟨⟨W', S', hl', cl', ts', q0, hW1, hS1, tp1, hh1, hc1⟩, _, _, _⟩ := wo.mono (Ex.del e1)
  cases q0
  have hW' := hW
  obtain rfl : S' = S := by have z := Ex.ofDel _ _ hW1; rw [e1 _ _ hW] at z; cases z; rfl
  obtain rfl : hl' = hl := by have z := Ex.ofDel _ _ hW1; rw [e1 _ _ hW] at z; cases z; rfl
  obtain rfl : cl' = cl := by have z := Ex.ofDel _ _ hW1; rw [e1 _ _ hW] at z; cases z; rfl
  have x13 : Ex (L2.del H1 A) H3 := ex_of_del e2 del_same e3
  refine ⟨_, rfl, W, _, 3, _, rfl, rfl, SqL.of (x13 _ _ hW1), rfl, cl', _, rfl, .inl (SqL.of (x13 _ _ hc1)), fun g1 hg1 => ?_⟩
  have y1 := Ex.new (o := .lst ((ws.map (·.2)).map iV)) hg1
  refine ⟨_, rfl, W, _, 3, _, rfl, rfl, SqL.of ((x13.trans y1) _ _ hW1), rfl, cl', _, rfl, .inl ⟨SqL.of ((x13.trans y1) _ _ hc1), fun g2 hg2 => ⟨(by show 3 ≤ sizeLine; decide), fun gl hgl => ?_⟩⟩⟩
  have y2 := Ex.new (o := .tup ((ws.map (·.2)).map iV)) hg2
  have y3 := Ex.new (o := .lst [.non, .ref g1, .ref g2]) hgl
  have y13 := y1.trans (y2.trans y3)
  have f1 := (y2.trans y3) _ _ (upd_same (H := H3) (a := g1) (o := .lst ((ws.map (·.2)).map iV)))
  have f2 := y3 _ _ (upd_same (H := upd H3 g1 (.lst ((ws.map (·.2)).map iV))) (a := g2) (o := .tup ((ws.map (·.2)).map iV)))
  have f3 := upd_same (H := upd (upd H3 g1 (.lst ((ws.map (·.2)).map iV))) g2 (.tup ((ws.map (·.2)).map iV))) (a := gl) (o := .lst [V.non, .ref g1, .ref g2])
  obtain ⟨l3, hA3⟩ := hb3.some
  have n1A : g1 ≠ A := (ne_of_none hA3 hg1).symm
  have n2A : g2 ≠ A := (ne_of_none (y1 _ _ hA3) hg2).symm
  have nlA : gl ≠ A := (ne_of_none ((y1.trans y2) _ _ hA3) hgl).symm
  have fr2 := Evl.fresh_back y1 hg2
  have hb4 := hb3.mono y13
  generalize upd (upd (upd H3 g1 (.lst ((ws.map (·.2)).map iV))) g2 (.tup ((ws.map (·.2)).map iV))) gl (.lst [V.non, .ref g1, .ref g2]) = H4 at y13 f1 f2 f3 hb4 ⊢
  clear y1 y2 y3 hgl hg2
  refine ⟨_, rfl, _, _, rfl, A, 3, c0 + 6, rfl, rfl, by decide, by decide, by omega, hb4, fun wg H5 hwg e5 hb5 => ?_⟩
  obtain ⟨l5, hA5⟩ := hb5.some
  have f1 := del_get e5 n1A f1
  have f2 := del_get e5 n2A f2
  have f3 := del_get e5 nlA f3
  have b4 : Ex (L2.del H3 A) (L2.del H5 A) := (Ex.del y13).trans (ex_dels e5)
  obtain ⟨g, dg, hg, dqg, okg, lg⟩ : ∃ g dg, [V.non, .ref g1, .ref g2][wg]? = some g ∧ Dq K (fresh H3 (L2.del H5 A)) g dg ∧ okC ws.length (some dg) = true ∧ (items dg).length ≤ 100000 := by
    have rr : Rows2 ws (.list ((ws.map (·.1)).map intD)) (.list ((ws.map (·.2)).map intD)) := ⟨rfl, rfl, rfl, rfl⟩
    have rt : Rows2 ws (.list ((ws.map (·.1)).map intD)) (.tuple ((ws.map (·.2)).map intD)) := ⟨rfl, rfl, rfl, rfl⟩
    obtain ⟨_, o2, _, _, l2, l3⟩ := rr.oks few lt
    obtain ⟨_, p2, _, _, m2, m3⟩ := rt.oks few lt
    rw [l3] at o2
    rw [m3] at p2
    match wg, hwg with
    | 0, _ => exact ⟨_, _, rfl, .non, rfl, Nat.zero_le _⟩
    | 1, _ => exact ⟨_, _, rfl, .lst (SqL.of (fresh_get hg1 (by rw [del_ne n1A]; exact f1))) (nat_rows _ _ _), o2, l2⟩
    | 2, _ => exact ⟨_, _, rfl, .tup (SqT.of (fresh_get fr2 (by rw [del_ne n2A]; exact f2))) (nat_rows _ _ _), p2, m2⟩
  refine ⟨gl, _, _, _, rfl, rfl, SqL.of f3, atI_nat hg, ?_⟩
  dsimp only [gName]
  have bG : Ex (L2.del H1 A) (L2.del H5 A) := b2.trans (b3.trans b4)
  have nG1 := nw1.mono (b3.trans b4)
  have nG2 := nw2.mono b4
  have trG := tr1.mono bG
  have eG : Ex (L2.del H5 A) H5 := Ex.ofDel
  have oh : okH n (some (.list ((ws.map (·.1)).map intD))) = true := ((⟨rfl, rfl, rfl, rfl⟩ : Rows2 ws (.list ((ws.map (·.1)).map intD)) (.list ((ws.map (·.2)).map intD))).oks few lt).1
  have lenh : lenD (some (.list ((ws.map (·.1)).map intD))) = ws.length := ((⟨rfl, rfl, rfl, rfl⟩ : Rows2 ws (.list ((ws.map (·.1)).map intD)) (.list ((ws.map (·.2)).map intD))).oks few lt).2.2.2.2.2
  have a2 : Ex (L2.del H2 A) (L2.del H5 A) := b3.trans b4
  have h23 : ∀ p, (L2.del H2 A) p ≠ none → H3 p ≠ none := fun p hp z => hp (Evl.fresh_back e3 z)
  refine seq_at (ifs_at (tst_split (fun b H7 => b = false ∧ ∃ X1 F1, Ex X1 H7 ∧ Ex (L2.del H1 A) X1 ∧ New K (L2.del H2 A) X1 v2 o2 ∧ Dq K (fresh H3 X1) g dg ∧ Ex F1 X1 ∧ Ex F1 (L2.del H2 A) ∧ Vk K F1 H7 v1 (okH n) ∧ TreeAt K X1 t n rs Fs ∧ X1 A = none ∧ BoxAt H7 A (c0 + 10)) ?_ ?_))
  · intro R hR
    refine not_at (b_at ?_)
    obtain ⟨vh, lh⟩ := nG1.val
    refine ⟨_, rfl, _, rfl, _, rfl, _, rfl, _, _, _, _, rfl, t, n, rs, Fs, o1, some dg, k, rfl, trG.mono eG, ValD.mono eG vh, lh, dqg.mono (fresh_ex.trans eG), lg, rfl, fun _ L H6 e6 hL6 h6 => ?_, (fun z => by rw [bad1] at z; cases z), fun z => by rw [bad1] at z; cases z⟩
    refine ⟨_, rfl, ?_⟩
    refine very_new (bad := okH n) nw1 a2 (eG.trans e6) (Evl.fresh_back eG hL6) h6 bad1 (fun ds => okH_odd rfl) fun H7 X1 F1 e7 ef1 ef2 vk cs => ?_
    refine ⟨_, rfl, hR _ _ ⟨rfl, X1, F1, e7, ?_, ?_, ?_, ef1, ef2.trans fresh_ex, vk, ?_, ?_, ?_⟩⟩
    all_goals rcases cs with ⟨rfl, z⟩ | ⟨p, l, rfl, z1, z2, rfl, z⟩
    · exact bG
    · exact ex_to_del bG z1
    · exact nG2
    · exact nG2.del (by rw [z2]; simp) (a2 _ _ z2)
    · exact dqg
    · exact dqg.mono (fresh_out (h23 p (by rw [z2]; simp)))
    · exact trG
    · exact TreeAt.del (a2 _ _ z2) trG
    · exact del_same
    · exact Evl.fresh_back Ex.ofDel del_same
    · exact ((hb5.mono e6).mono z).up (by omega)
    · have pA : p ≠ A := fun q => by rw [q, del_same] at z2; cases z2
      exact ((box_del (hb5.mono e6) pA).mono z).up (by omega)
  rintro _ H7 ⟨rfl, X1, F1, e7, eB1, n2, dqg1, ef1, ef2, vk1, tr7, xA, hb7⟩
  refine iteF ?_
  dsimp only [tNext]
  have hW7 := (eB1.trans e7) _ _ hW1
  have hh7 := (eB1.trans e7) _ _ hh1
  refine seq_at (ifs_at (tst_split (fun b H10 => b = false ∧ ∃ X2 F2, Ex X2 H10 ∧ Ex (L2.del H1 A) X2 ∧ Dq K (fresh H3 X2) g dg ∧ Ex F1 X2 ∧ Vk K F1 H10 v1 (okH n) ∧ Ex F2 X2 ∧ Vk K F2 H10 v2 (okC ws.length) ∧ TreeAt K X2 t n rs Fs ∧ BoxAt H10 A (c0 + 10)) ?_ ?_))
  · intro R hR
    refine not_at (b_at ?_)
    obtain ⟨vc, lc⟩ := n2.val
    refine ⟨_, rfl, _, rfl, W, _, 2, _, rfl, rfl, SqL.of hW7, rfl, hl', _, rfl, .inl (SqL.of hh7), fun h8 hh8 => ?_⟩
    have e8 := Ex.new (o := .lst ((ws.map (·.1)).map iV)) hh8
    have f8 := upd_same (H := H7) (a := h8) (o := .lst ((ws.map (·.1)).map iV))
    generalize upd H7 h8 (.lst ((ws.map (·.1)).map iV)) = H8 at e8 f8 ⊢
    have e78 := e7.trans e8
    refine ⟨_, rfl, _, rfl, _, _, rfl, rfl, _, _, _, _, rfl, t, n, rs, Fs, some (.list ((ws.map (·.1)).map intD)), o2, 1 - k, rfl, tr7.mono e78, Dq.lst (SqL.of f8) (nat_rows _ _ _), by rw [lenh]; omega, ValD.mono e78 vc, lc, rfl, (fun z => by rw [oh] at z; cases z), fun _ _ L H9 e9 hL9 h9 => ?_, fun _ z => by rw [lenh, bad2] at z; cases z⟩
    refine ⟨_, rfl, ?_⟩
    refine very_new (bad := okC ws.length) n2 (Ex.refl _) (e78.trans e9) (Evl.fresh_back e78 hL9) h9 bad2 (fun ds => okC_odd rfl) fun H10 X2 F2 e10 ef3 ef4 vk cs => ?_
    refine ⟨_, rfl, hR _ _ ⟨rfl, X2, F2, e10, ?_, ?_, ?_, ?_, ef3, vk, ?_, ?_⟩⟩
    all_goals rcases cs with ⟨rfl, z⟩ | ⟨p, l, rfl, z1, z2, rfl, z⟩
    · exact eB1
    · exact ex_to_del eB1 (Evl.fresh_back b2 z1)
    · exact dqg1
    · exact dqg1.mono (fresh_out fun q => nw2.old p rfl (Evl.fresh_back Ex.ofDel q))
    · exact ef1
    · exact ex_to_del ef1 (Evl.fresh_back ef2 z1)
    · exact vk1.mono (e8.trans (e9.trans z))
    · exact ((vk1.mono (e8.trans e9)).del (fun q => nw1.old p q z1) ((e78.trans e9) _ _ z2)).mono z
    · exact tr7
    · exact TreeAt.del z2 tr7
    · exact hb7.mono (e8.trans (e9.trans z))
    · have pA : p ≠ A := fun q => by rw [q, xA] at z2; cases z2
      exact (box_del (hb7.mono (e8.trans e9)) pA).mono z
  rintro _ H10 ⟨rfl, X2, F2, e10, eB2, dqg2, ef5, vk1', ef6, vk2, tr10, hb10⟩
  refine iteF ?_
  dsimp only [tNext]
  obtain ⟨oa, va, la, ba⟩ := vk1'.val (ef5.trans e10)
  obtain ⟨ob, vb, lb, bb⟩ := vk2.val (ef6.trans e10)
  refine seq_at (asg_at ?_)
  refine ⟨_, rfl, _, rfl, _, rfl, _, rfl, _, _, _, _, rfl, t, n, rs, Fs, oa, ob, k, rfl, tr10.mono e10, va, la, vb, lb, rfl, fun _ L H11 e11 hL11 h11 => ?_, (fun z => by rw [ba] at z; cases z), fun z => by rw [ba] at z; cases z⟩
  dsimp only [gName]
  refine ret_at (andv_at (op_at ?_))
  refine ⟨_, rfl, _, rfl, L, _, rfl, SqL.of h11, fun s1 hs1 => ?_⟩
  rw [show cutV [V.str "homes", v1, .bl true] none (some 1) = [V.str "homes"] from rfl]
  have y1 := Ex.new (o := .lst [V.str "homes"]) hs1
  have g1' := upd_same (H := H11) (a := s1) (o := .lst [V.str "homes"])
  generalize upd H11 s1 (.lst [V.str "homes"]) = H12 at y1 g1' ⊢
  refine ⟨(by show 1 ≤ sizeLine; decide), fun s2 hs2 => ?_⟩
  have y2 := Ex.new (o := .lst [V.str "homes"]) hs2
  refine ⟨_, _, (Dq.lst (SqL.of (y2 _ _ g1')) (.cons (.str _) .nil)).dp (by decide +kernel), (Dq.lst (SqL.of upd_same) (.cons (.str _) .nil)).dp (by decide +kernel), (by decide +kernel), (by decide +kernel), _, rfl, ?_⟩
  generalize upd H12 s2 (.lst [V.str "homes"]) = H13 at y2 ⊢
  have y := e11.trans (y1.trans y2)
  rw [show PyData.eqv (.list [.str "homes"]) (.list [.str "homes"]) = true by decide +kernel]
  refine iteT (andv_at (op_at ?_))
  refine ⟨_, rfl, L, _, 1, _, rfl, rfl, SqL.of ((y1.trans y2) _ _ h11), rfl, _, rfl, ?_⟩
  refine (vk1'.mono y).self T (ef5.trans (e10.trans y)) ⟨_, rfl, iteT ?_⟩
  have hW13 := (eB2.trans (e10.trans y)) _ _ hW1
  have hh13 := (eB2.trans (e10.trans y)) _ _ hh1
  refine op_at ?_
  refine ⟨_, rfl, _, rfl, W, _, 2, _, rfl, rfl, SqL.of hW13, rfl, _, rfl, _, rfl, _, _, _, _, rfl, t, n, rs, Fs, some (.list ((ws.map (·.1)).map intD)), some dg, k, rfl, tr10.mono (e10.trans y), Dq.lst (SqL.of hh13) (nat_rows _ _ _), by rw [lenh]; omega, dqg2.mono (fresh_ex.trans (e10.trans y)), lg, rfl, (fun z => by rw [oh] at z; cases z), (fun _ z => by rw [lenh, okg] at z; cases z), fun _ _ L' H14 e14 hL' h' => ?_⟩
  refine ⟨L', _, 0, _, rfl, rfl, SqL.of h', rfl, rfl, ?_⟩
  rw [decide_eq_true rfl]
  have yy := e10.trans (y.trans e14)
  exact q _ ((Ex.del e1).trans (eB2.trans yy)) (hb10.mono (y.trans e14))
end

end T1

namespace T1
open PySem PySem.Spec PyProof.Rows L2 G
open Evl (Ex)
local macro_rules | `(tactic| walk_at "dd") => `(tactic| (dsimp only [tCB, tCons, tNil, tC, tOp, tUn, tTest, tB, tVar, tAndV, tOrV, tNotV, tIf, tAnd, tOr, tNot, tSeq, tRet, tRetN, tIfS, tAsg, gName, tDrop, tTup, tLst, tChain, tNext, tCall, L2.start]))
def sp__law_doors (K : PySem.W.Frag) : Sp := sp3 fun a b c H Q E => ∃ n rs ws s Fs k, World3 K H a n rs ws ∧ b = .ref s ∧ StoreAt K H s n rs Fs ws ∧ c = .int k ∧ ∀ H', Ex H H' → Q (.bl true) H'
section
variable {K : PySem.W.Frag} {mg : Str → Option Value} {P : Program} {w : World} {base : Heap}
theorem ok__law_doors (T : Tx K mg) : Cal P w K mg base CX0 9 "_law_doors" ["_law_world_here", "_law_asked", "_law_turn"] (sp__law_doors K) := by
  refine cal_of (fD__law_doors T) (T.glo 44 rfl) sc__law_doors (fun _ _ _ _ _ _ us hl => match us, hl with | [_, _, _], _ => rfl) (fun vs H Q E h => len3 h) (fun f cdv A outer s H vs Q E hr h => ?_)
  obtain ⟨a, b, c, rfl, h⟩ := h
  refine ⟨_, (PSs.nox (pss_cons (ps_set (i := 3) sc__law_doors.nd rfl (Or.inl rfl) (pe_lst (pa_cons (pe_un un_neg pe_int) (pa_cons (pe_ix (ix_listK (K := K)) (pv 0) pe_int (fun _ _ => rfl)) (pa_cons pe_bl (pa_cons pe_bl (pa_cons pe_non (pa_cons pe_str (pa_cons (pe_lst (pa_cons pe_int pa_nil)) (pa_cons (pe_tup (pa_cons pe_int pa_nil)) (pa_cons (pe_op op_pow pe_int pe_int) (pa_cons (pe_disp (pps_cons pe_str pe_int pps_nil) rfl rfl (fun z => nomatch z) (by decide)) pa_nil))))))))))))
      (pss_cons (ps_set (i := 4) sc__law_doors.nd rfl (Or.inl rfl) (pe_lst (pa_cons (pe_un un_neg pe_int) (pa_cons pe_int (pa_cons pe_bl (pa_cons pe_bl (pa_cons pe_str (pa_cons pe_non (pa_cons (pe_tup (pa_cons pe_int pa_nil)) (pa_cons (pe_lst (pa_cons pe_int pa_nil)) (pa_cons (pe_op op_pow pe_int pe_int) (pa_cons pe_str pa_nil))))))))))))
      (pss_cons (ps_for PassesOwn.never rfl (pi_range1 (by rfl) (T.free 11 rfl) (pa_cons (pe_callB (call_lenK (K := K)) (by rfl) (T.free 7 rfl) (by decide +kernel) (pa_cons (pv 3) pa_nil)) pa_nil)) (pg_name (i := 5) sc__law_doors.nd rfl (Or.inl rfl)) (pss_one (ps_if (pt_not (pt_val (pe_c (ok__law_barred T) (hr.mono (by decide)) rfl pass0 (pa_cons (pv 1) (pa_cons (pe_ix (ix_listK (K := K)) (pv 3) (pv 5) (fun _ _ => rfl)) (pa_cons (pe_ix (ix_listK (K := K)) (pv 4) (pv 5) (fun _ _ => rfl)) (pa_cons (pe_op op_mod (pe_callTy call_int1 (by rfl) (T.free 5 rfl) (by decide +kernel) (pa_cons (pe_op op_add (pv 2) (pv 5)) pa_nil)) pe_int) pa_nil))))))) (pss_one (ps_ret pe_bl)) pss_nil)))
      (pss_one (ps_ret pe_bl)))))), ?_⟩
  obtain ⟨n, rs, ws, s0, Fs, k, wo, rfl, st, rfl, q⟩ := h
  obtain ⟨⟨W, S, hl, cl, ts, rfl, hW, hS, tp, hh, hc⟩, ok, few, lt⟩ := wo
  have n16 := ok.n16
  refine seq_at (asg_at ?_)
  refine ⟨_, rfl, _, rfl, W, _, 0, _, rfl, rfl, SqL.of hW, rfl, (by show 1 ≤ sizeLine; decide), fun i1 h1 => ⟨(by show 1 ≤ sizeLine; decide), fun i2 h2 => ⟨_, _, rfl, rfl, ⟨by decide, by decide, by decide⟩, fun p hp => ⟨upd_same, [(.inr "0", .int 0)], rfl, (by show 1 ≤ 15; decide), ?_⟩⟩⟩⟩
  have x1 := Ex.new (o := .lst [V.int 0]) h1
  have x2 := Ex.new (o := .tup [V.int 0]) h2
  have x3 := Ex.mut (o := .dK (mergeK [] [(.inr "0", .int 0)])) (Ex.new (o := .dK []) hp) hp
  have g1 := (x2.trans x3) _ _ (upd_same (H := H) (a := i1) (o := .lst [V.int 0]))
  have g2 := x3 _ _ (upd_same (H := upd H i1 (.lst [V.int 0])) (a := i2) (o := .tup [V.int 0]))
  have g3 : (upd (upd (upd (upd H i1 (.lst [V.int 0])) i2 (.tup [V.int 0])) p (.dK [])) p (.dK (mergeK [] [(.inr "0", .int 0)]))) p = some (.dK [(.inr "0", .int 0)]) := upd_same
  have x13 := x1.trans (x2.trans x3)
  generalize (upd (upd (upd (upd H i1 (.lst [V.int 0])) i2 (.tup [V.int 0])) p (.dK [])) p (.dK (mergeK [] [(.inr "0", .int 0)]))) = H3 at x13 g1 g2 g3 ⊢
  clear x1 x2 x3 h1 h2 hp
  refine ⟨(by show 10 ≤ sizeLine; decide), fun L1 hL1 => ?_⟩
  have y1 := Ex.new (o := .lst [V.int (-1), iV n, .bl true, .bl false, .non, .str "0", .ref i1, .ref i2, .int (10 ^ (19 : Int).toNat), .ref p]) hL1
  have f1 := upd_same (H := H3) (a := L1) (o := .lst [V.int (-1), iV n, .bl true, .bl false, .non, .str "0", .ref i1, .ref i2, .int (10 ^ (19 : Int).toNat), .ref p])
  dsimp only [gName]
  generalize upd H3 L1 (.lst [V.int (-1), iV n, .bl true, .bl false, .non, .str "0", .ref i1, .ref i2, .int (10 ^ (19 : Int).toNat), .ref p]) = H4 at y1 f1 ⊢
  refine seq_at (asg_at ?_)
  refine ⟨_, rfl, (by show 1 ≤ sizeLine; decide), fun j1 h1 => ⟨(by show 1 ≤ sizeLine; decide), fun j2 h2 => ⟨_, _, rfl, rfl, ⟨by decide, by decide, by decide⟩, (by show 10 ≤ sizeLine; decide), fun L2' hL2 => ?_⟩⟩⟩
  have x1 := Ex.new (o := .tup [V.int 1]) h1
  have x2 := Ex.new (o := .lst [V.int 1]) h2
  have x3 := Ex.new (o := .lst [V.int (-1), .int 6, .bl false, .bl true, .str "1", .non, .ref j1, .ref j2, .int (10 ^ (19 : Int).toNat), .str ""]) hL2
  have k1 := (x2.trans x3) _ _ (upd_same (H := H4) (a := j1) (o := .tup [V.int 1]))
  have k2 := x3 _ _ (upd_same (H := upd H4 j1 (.tup [V.int 1])) (a := j2) (o := .lst [V.int 1]))
  have f2 := upd_same (H := upd (upd H4 j1 (.tup [V.int 1])) j2 (.lst [V.int 1])) (a := L2') (o := .lst [V.int (-1), .int 6, .bl false, .bl true, .str "1", .non, .ref j1, .ref j2, .int (10 ^ (19 : Int).toNat), .str ""])
  have z13 := x1.trans (x2.trans x3)
  dsimp only [gName]
  generalize upd (upd (upd H4 j1 (.tup [V.int 1])) j2 (.lst [V.int 1])) L2' (.lst [V.int (-1), .int 6, .bl false, .bl true, .str "1", .non, .ref j1, .ref j2, .int (10 ^ (19 : Int).toNat), .str ""]) = H5 at z13 k1 k2 f2 ⊢
  clear x1 x2 x3 h1 h2
  have yz := y1.trans z13
  replace f1 := z13 _ _ f1
  have e05 := x13.trans yz
  refine seq_at ?_
  refine for_at (B := H5) (n := 10) (item := fun i => .int (0 + i)) (fun P q => w_rngB (n := 10) (fun Q q => ⟨_, rfl, L1, _, rfl, .inl (SqL.of f1), q⟩) (by omega) fun J H6 e S => q J H6 e (S _))
    (fun i σ' H' => (∃ s5, σ' = [some (.ref W), some (.ref s0), some (.int k), some (.ref L1), some (.ref L2'), s5]) ∧ Ex H5 H') ?_ (fun i σ' H' z => z.2) ?_ ?_
  · exact fun H6 e6 => ⟨⟨_, rfl⟩, e6⟩
  · rintro i σ' H6 hi ⟨⟨s5, rfl⟩, e6⟩
    obtain ⟨v1, v2, d1, d2, a1, a2, dq1, dq2, i1, i2, s1, s2⟩ : ∃ v1 v2 d1 d2, [V.int (-1), iV n, .bl true, .bl false, .non, .str "0", .ref i1, .ref i2, .int (10 ^ (19 : Int).toNat), .ref p][i]? = some v1 ∧ [V.int (-1), .int 6, .bl false, .bl true, .str "1", .non, .ref j1, .ref j2, .int (10 ^ (19 : Int).toNat), .str ""][i]? = some v2 ∧
        Dq K H5 v1 d1 ∧ Dq K H5 v2 d2 ∧ isIdx d1 n = false ∧ isIdx d2 6 = false ∧ Small 100 4 d1 ∧ Small 100 4 d2 := by
      have big : isIdx (.int (10 ^ (19 : Int).toNat)) n = false := by
        show (decide ((0 : Int) ≤ 10 ^ 19) && decide ((10 : Int) ^ 19 < (n : Int))) = false
        rw [decide_eq_false (show ¬ ((10 : Int) ^ 19 < (n : Int)) by
          have : (10 : Int) ^ 19 = 10000000000000000000 := by decide
          rw [this]; omega), Bool.and_false]
      match i, hi with
      | 0, _ => exact ⟨_, _, _, _, rfl, rfl, .int _, .int _, rfl, rfl, smallB_ok (by decide +kernel), smallB_ok (by decide +kernel)⟩
      | 1, _ => exact ⟨_, _, intD n, _, rfl, rfl, .int _, .int _, by show (decide ((0 : Int) ≤ (n : Int)) && decide ((n : Int) < (n : Int))) = false; simp, rfl, sm_int (by omega), smallB_ok (by decide +kernel)⟩
      | 2, _ => exact ⟨_, _, _, _, rfl, rfl, .bl _, .bl _, rfl, rfl, smallB_ok (by decide +kernel), smallB_ok (by decide +kernel)⟩
      | 3, _ => exact ⟨_, _, _, _, rfl, rfl, .bl _, .bl _, rfl, rfl, smallB_ok (by decide +kernel), smallB_ok (by decide +kernel)⟩
      | 4, _ => exact ⟨_, _, _, _, rfl, rfl, .non, .str _, rfl, rfl, smallB_ok (by decide +kernel), smallB_ok (by decide +kernel)⟩
      | 5, _ => exact ⟨_, _, _, _, rfl, rfl, .str _, .non, rfl, rfl, smallB_ok (by decide +kernel), smallB_ok (by decide +kernel)⟩
      | 6, _ => exact ⟨_, _, .list [.int 0], .tuple [.int 1], rfl, rfl, .lst (SqL.of (yz _ _ g1)) (.cons (.int _) .nil), .tup (SqT.of k1) (.cons (.int _) .nil), rfl, rfl, smallB_ok (by decide +kernel), smallB_ok (by decide +kernel)⟩
      | 7, _ => exact ⟨_, _, .tuple [.int 0], .list [.int 1], rfl, rfl, .tup (SqT.of (yz _ _ g2)) (.cons (.int _) .nil), .lst (SqL.of k2) (.cons (.int _) .nil), rfl, rfl, smallB_ok (by decide +kernel), smallB_ok (by decide +kernel)⟩
      | 8, _ => exact ⟨_, _, _, _, rfl, rfl, .int _, .int _, big, rfl, smallB_ok (by decide +kernel), smallB_ok (by decide +kernel)⟩
      | 9, _ => exact ⟨_, _, .dict [(.str "0", .int 0)], _, rfl, rfl, .dic (kvs := [(.inr "0", .int 0)]) (ds := [.int 0]) (yz _ _ g3) (.cons (.int _) .nil), .str _, rfl, rfl, smallB_ok (by decide +kernel), smallB_ok (by decide +kernel)⟩
    have ei : (0 : Int) + (i : Int) = ((i : Nat) : Int) := by omega
    rw [ei]
    dsimp only [gName]
    refine ifs_at (not_at (b_at ?_))
    refine ⟨_, rfl, _, rfl, _, rfl, L1, _, _, _, rfl, rfl, SqL.of (e6 _ _ f1), atI_nat a1, _, rfl, _, rfl, L2', _, _, _, rfl, rfl, SqL.of (e6 _ _ f2), atI_nat a2, _, rfl, _, rfl, _, _, rfl, rfl, .inl ⟨_, rfl, _, _, rfl, rfl, (by show (0 : Int) < 2; decide), ?_⟩⟩
    refine ⟨_, _, _, _, rfl, s0, n, rs, Fs, ws, d1, d2, _, rfl, st.mono (e05.trans e6), dq1.mono e6, i1, dq2.mono e6, i2, ?_, rfl, fun H7 e7 => ⟨_, rfl, ?_⟩⟩
    · refine (Small.list (w := 100) (p := 4) fun d m => ?_).mono (by simp) (by decide)
      rcases (List.mem_cons.mp m) with rfl | m
      · exact s1
      · rw [List.mem_singleton.mp m]; exact s2
    · refine iteF ?_
      exact ⟨⟨_, rfl⟩, e6.trans e7⟩
  · rintro σ' H6 ⟨⟨s5, rfl⟩, e6⟩
    dsimp only
    refine ret_at ?_
    exact q _ (e05.trans e6)
end

end T1

namespace T1
open PySem PySem.Spec PyProof.Rows L2 G
open Evl (Ex)
local macro_rules | `(tactic| walk_at "dd") => `(tactic| (dsimp only [tCB, tCons, tNil, tC, tOp, tUn, tTest, tB, tVar, tAndV, tOrV, tNotV, tIf, tAnd, tOr, tNot, tSeq, tRet, tRetN, tIfS, tAsg, gName, tDrop, tTup, tLst, tChain, tNext, tCall, L2.start]))
open M (at_)
theorem walk_in {ls : M.Rows} {R : List Nat} (cl : ∀ v ∈ R, ∀ w, w ∈ at_ ls v → w ∈ R) {h v : Nat} {p : List Nat} (W : M.Walk ls h v p) : h ∈ R → v ∈ R := by
  induction W with
  | one _ => exact id
  | cons e _ ih => exact fun m => ih (cl _ m _ e)
theorem eqv_rdsL (rs qs : List (Nat × Nat)) : PyData.eqv (.list (rs.map pairD)) (.list (qs.map pairD)) = decide (rs = qs) := by
  rw [← eqv_rds rs qs]
  simp only [PyData.eqv]
/-! a search that goes over all roads again and again -/
structure RI (n : Nat) (rs : List (Nat × Nat)) (R : List Nat) : Prop where
  nd : R.Nodup
  zr : 0 ∈ R
  lt : ∀ v ∈ R, v < n
  pa : ∀ v ∈ R, ∃ p, M.Walk (nbs n rs) 0 v p
def Cl (rs : List (Nat × Nat)) (R : List Nat) : Prop := ∀ q ∈ rs, q.1 ∈ R ↔ q.2 ∈ R
structure RJ (n : Nat) (rs : List (Nat × Nat)) (R0 : List Nat) (D : List (Nat × Nat)) (R : List Nat) : Prop where
  ri : RI n rs R
  or_ : (R = R0 ∧ ∀ q ∈ D, q.1 ∈ R ↔ q.2 ∈ R) ∨ (R0.length < R.length ∧ ¬ Cl rs R0)
theorem ri_start {n : Nat} {rs : List (Nat × Nat)} (h : 1 ≤ n) : RI n rs [0] :=
  ⟨by simp, by simp, fun v hv => by rw [List.mem_singleton.mp hv]; omega, fun v hv => by rw [List.mem_singleton.mp hv]; exact ⟨_, .one _⟩⟩
theorem ri_len {n : Nat} {rs : List (Nat × Nat)} {R : List Nat} (h : RI n rs R) : R.length ≤ n := nodup_len h.nd h.lt
theorem rj_start {n : Nat} {rs : List (Nat × Nat)} {R : List Nat} (h : RI n rs R) : RJ n rs R [] R := ⟨h, .inl ⟨rfl, by simp⟩⟩
theorem rj_same {n : Nat} {rs D : List (Nat × Nat)} {R0 R : List Nat} {q : Nat × Nat} (h : RJ n rs R0 D R) (e : q.1 ∈ R ↔ q.2 ∈ R) : RJ n rs R0 (D ++ [q]) R := by
  refine ⟨h.ri, h.or_.imp (fun ⟨a, b⟩ => ⟨a, fun x hx => ?_⟩) id⟩
  rcases (List.mem_append.mp hx) with hx | hx
  · exact b x hx
  · rw [List.mem_singleton.mp hx]; exact e
theorem rj_add {n x y : Nat} {rs D : List (Nat × Nat)} {R0 R : List Nat} {q : Nat × Nat} (h : RJ n rs R0 D R) (hq : q ∈ rs) (lt : q.1 < n ∧ q.2 < n) (xy : q = (x, y) ∨ q = (y, x)) (hx : x ∈ R) (hy : y ∉ R) : RJ n rs R0 (D ++ [q]) (R ++ [y]) := by
  have xn : x < n := by
    rcases xy with rfl | rfl
    · exact lt.1
    · exact lt.2
  have yn : y < n := by
    rcases xy with rfl | rfl
    · exact lt.2
    · exact lt.1
  have ad : adj rs x y = true := by
    unfold adj
    rw [Bool.or_eq_true, List.contains_iff_mem, List.contains_iff_mem]
    rcases xy with rfl | rfl
    · exact .inl hq
    · exact .inr hq
  have at' : y ∈ at_ (nbs n rs) x := mem_nbs.mpr ⟨xn, yn, ad⟩
  refine ⟨⟨?_, by simp [h.ri.zr], fun v hv => ?_, fun v hv => ?_⟩, .inr ⟨?_, fun c => ?_⟩⟩
  · rw [List.nodup_append]; exact ⟨h.ri.nd, by simp, fun u hu v hv e => hy (by rw [← List.mem_singleton.mp hv, ← e]; exact hu)⟩
  · rcases (List.mem_append.mp hv) with hv | hv
    · exact h.ri.lt v hv
    · rw [List.mem_singleton.mp hv]; exact yn
  · rcases (List.mem_append.mp hv) with hv | hv
    · exact h.ri.pa v hv
    · rw [List.mem_singleton.mp hv]
      obtain ⟨p, P⟩ := h.ri.pa x hx
      obtain ⟨z, Z, _⟩ := P.join (.cons at' (.one _))
      exact ⟨z, Z⟩
  · rw [List.length_append, List.length_singleton]
    rcases h.or_ with ⟨rfl, _⟩ | ⟨l, _⟩ <;> omega
  · rcases h.or_ with ⟨rfl, _⟩ | ⟨_, no⟩
    · have z := c q hq
      rcases xy with rfl | rfl
      · exact hy (z.mp hx)
      · exact hy (z.mpr hx)
    · exact no c
theorem rj_end {n k : Nat} {rs : List (Nat × Nat)} {R0 R : List Nat} (h : RJ n rs R0 rs R) (c : Cl rs R0 ∨ k + 1 ≤ R0.length) : RI n rs R ∧ (Cl rs R ∨ k + 1 + 1 ≤ R.length) := by
  refine ⟨h.ri, ?_⟩
  rcases h.or_ with ⟨rfl, a⟩ | ⟨l, no⟩
  · exact .inl a
  · rcases c with c | c
    · exact absurd c no
    · exact .inr (by omega)
theorem ri_fin {n : Nat} {rs : List (Nat × Nat)} {R : List Nat} (h : RI n rs R) (c : Cl rs R ∨ n + 1 ≤ R.length) : R.length = n ↔ Joined n rs := by
  have ln := ri_len h
  have cl : Cl rs R := c.resolve_right (by omega)
  constructor
  · intro e v hv
    have m : v ∈ R := by
      refine Decidable.byContradiction fun no => ?_
      have z := nodup_len (n := n) (l := v :: R) (List.nodup_cons.mpr ⟨no, h.nd⟩) fun x hx => by
        rcases (List.mem_cons.mp hx) with rfl | hx
        · exact hv
        · exact h.lt x hx
      rw [List.length_cons] at z
      omega
    obtain ⟨p, P⟩ := h.pa v m
    obtain ⟨q, Q, _⟩ := P.path
    exact ⟨q, Q⟩
  · intro J
    have all : ∀ v, v < n → v ∈ R := fun v hv => by
      obtain ⟨p, P⟩ := J v hv
      refine walk_in (fun a ha b hb => ?_) P.walk h.zr
      have ad := (mem_nbs.mp hb).2.2
      unfold adj at ad
      rw [Bool.or_eq_true, List.contains_iff_mem, List.contains_iff_mem] at ad
      rcases ad with ad | ad
      · exact (cl _ ad).mp ha
      · exact (cl _ ad).mpr ha
    have z : (List.range n).length ≤ R.length := by
      have gen : ∀ (l m : List Nat), l.Nodup → (∀ x ∈ l, x ∈ m) → l.length ≤ m.length := by
        intro l
        induction l with
        | nil => intro m _ _; exact Nat.zero_le _
        | cons a l ih =>
          intro m nd sub
          have n2 := List.nodup_cons.mp nd
          have am := sub a List.mem_cons_self
          have z := ih (m.erase a) n2.2 fun x hx => (List.mem_erase_of_ne (show x ≠ a from fun e => n2.1 (by rw [← e]; exact hx))).mpr (sub x (List.mem_cons_of_mem _ hx))
          rw [List.length_erase_of_mem am] at z
          have := List.length_pos_of_mem am
          rw [List.length_cons]; omega
      exact gen _ _ List.nodup_range fun x hx => all x (List.mem_range.mp hx)
    rw [List.length_range] at z
    omega
/-! sorted(set(..)) of pairs -/
theorem ltP_irr (p : Nat × Nat) : ¬ TT.ltP p p = true := by unfold TT.ltP; simp
theorem ltP_anti {p q : Nat × Nat} (h : TT.ltP p q = true) : ¬ TT.ltP q p = true := by
  unfold TT.ltP at h ⊢
  simp only [Bool.or_eq_true, Bool.and_eq_true, decide_eq_true_eq] at h ⊢
  omega
theorem asc_unique : ∀ {l m : List (Nat × Nat)}, l.Pairwise (fun p q => TT.ltP p q = true) → m.Pairwise (fun p q => TT.ltP p q = true) → (∀ x, x ∈ l ↔ x ∈ m) → l = m
  | [], [], _, _, _ => rfl
  | [], b :: m, _, _, h => absurd ((h b).mpr List.mem_cons_self) (by simp)
  | a :: l, [], _, _, h => absurd ((h a).mp List.mem_cons_self) (by simp)
  | a :: l, b :: m, h1, h2, h => by
    rw [List.pairwise_cons] at h1 h2
    have e : a = b := by
      rcases List.mem_cons.mp ((h a).mp List.mem_cons_self) with e | am
      · exact e
      · rcases List.mem_cons.mp ((h b).mpr List.mem_cons_self) with e | bl
        · exact e.symm
        · exact absurd (h1.1 b bl) (ltP_anti (h2.1 a am))
    subst e
    rw [asc_unique h1.2 h2.2 fun x => ?_]
    constructor
    · intro hx
      rcases List.mem_cons.mp ((h x).mp (List.mem_cons_of_mem _ hx)) with rfl | z
      · exact absurd (h1.1 x hx) (ltP_irr x)
      · exact z
    · intro hx
      rcases List.mem_cons.mp ((h x).mpr (List.mem_cons_of_mem _ hx)) with rfl | z
      · exact absurd (h2.1 x hx) (ltP_irr x)
      · exact z
/-- the addresses of a list of pairs, with what stands there -/
theorem tp_keys {K : PySem.W.Frag} {H : Hp} : ∀ {rs : List (Nat × Nat)} {ts : List V}, F2 (TP H) rs ts → ∃ ks : List (Addr × List Int), ts = ks.map (fun p => V.ref p.1) ∧ (∀ p ∈ ks, SqT K H p.1 (p.2.map V.int)) ∧ ks.map (·.2) = rs.map fun p => [(p.1 : Int), (p.2 : Int)]
  | _, _, .nil => ⟨[], rfl, by simp, rfl⟩
  | _, _, .cons (a := q) ⟨t, rfl, ht⟩ hs => by
    obtain ⟨ks, h1, h2, h3⟩ := tp_keys (K := K) hs
    refine ⟨(t, [(q.1 : Int), (q.2 : Int)]) :: ks, by rw [h1]; rfl, fun p hp => ?_, by rw [List.map_cons, List.map_cons, h3]⟩
    rcases (List.mem_cons.mp hp) with rfl | hp
    · exact SqT.of ht
    · exact h2 p hp
def rdL : List Int → Nat × Nat
  | [x, y] => (x.toNat, y.toNat)
  | _ => (0, 0)
/-- what sorted(set(..)) tells of them -/
theorem set_sorted {K : PySem.W.Frag} {H : Hp} {rs : List (Nat × Nat)} {ks L L' : List (Addr × List Int)} (h2 : ∀ p ∈ ks, SqT K H p.1 (p.2.map V.int)) (h3 : ks.map (·.2) = rs.map fun p => [(p.1 : Int), (p.2 : Int)]) (lt : ∀ p ∈ rs, p.1 < 128 ∧ p.2 < 128) (sub : ∀ p ∈ L, p ∈ ks) (cov : ∀ p ∈ ks, p.2 ∈ L.map (·.2))
    (pm : L'.Perm L) (nd : (L'.map (·.2)).Nodup) (pw : L'.Pairwise fun q r => TS.code 128 q.2 ≤ TS.code 128 r.2) : Dqs K H (L'.map fun q => V.ref q.1) ((L'.map fun q => rdL q.2).map pairD) ∧ (L'.map (fun q => rdL q.2) = rs ↔ rs.Pairwise fun p q => TT.ltP p q = true) := by
  have form : ∀ p ∈ L', ∃ q ∈ rs, p.2 = [(q.1 : Int), (q.2 : Int)] := fun p hp => by
    have z : p.2 ∈ ks.map (·.2) := List.mem_map.mpr ⟨p, sub p (pm.mem_iff.mp hp), rfl⟩
    rw [h3] at z
    obtain ⟨q, hq, e⟩ := List.mem_map.mp z
    exact ⟨q, hq, e.symm⟩
  have rd_ : ∀ q : Nat × Nat, rdL [(q.1 : Int), (q.2 : Int)] = q := fun q => by unfold rdL; simp
  have mem : ∀ x, x ∈ L'.map (fun q => rdL q.2) ↔ x ∈ rs := fun x => by
    constructor
    · intro hx
      obtain ⟨p, hp, rfl⟩ := List.mem_map.mp hx
      obtain ⟨q, hq, e⟩ := form p hp
      rw [e, rd_]; exact hq
    · intro hx
      have z : [(x.1 : Int), (x.2 : Int)] ∈ ks.map (·.2) := by rw [h3]; exact List.mem_map.mpr ⟨x, hx, rfl⟩
      obtain ⟨p, hp, e⟩ := List.mem_map.mp z
      obtain ⟨p', hp', e'⟩ := List.mem_map.mp (cov p hp)
      exact List.mem_map.mpr ⟨p', pm.mem_iff.mpr hp', by show rdL p'.2 = x; rw [show p'.2 = p.2 from e', show p.2 = _ from e, rd_]⟩
  have asc : (L'.map fun q => rdL q.2).Pairwise fun p q => TT.ltP p q = true := by
    rw [List.pairwise_map]
    have nd' := List.pairwise_map.mp nd
    refine (pw.and nd').imp_of_mem fun {a b} ha hb ⟨le, ne⟩ => ?_
    obtain ⟨q, hq, e⟩ := form a ha
    obtain ⟨r, hr, e'⟩ := form b hb
    rw [e, e'] at le ne
    rw [e, e', rd_, rd_]
    have bd : ∀ u ∈ rs, TS.Bd 128 [(u.1 : Int), (u.2 : Int)] := fun u hu m hm => by
      have := lt u hu
      simp only [List.not_mem_nil, List.mem_cons, or_false] at hm
      omega
    have z := code_lex (bd q hq) (bd r hr) le
    unfold TT.ltP
    simp only [Bool.or_eq_true, Bool.and_eq_true, decide_eq_true_eq]
    rcases z with z | ⟨z1, z2⟩
    · exact .inl (by omega)
    · refine .inr ⟨by omega, ?_⟩
      refine Nat.lt_of_le_of_ne (by omega) fun y => ne ?_
      rw [y, z1]
  refine ⟨?_, fun e => e ▸ asc, fun up => asc_unique asc up mem⟩
  have gen : ∀ l : List (Addr × List Int), (∀ p ∈ l, p ∈ L') → Dqs K H (l.map fun q => V.ref q.1) ((l.map fun q => rdL q.2).map pairD) := by
    intro l
    induction l with
    | nil => exact fun _ => .nil
    | cons p l ih =>
      intro hs
      obtain ⟨q, hq, e⟩ := form p (hs p List.mem_cons_self)
      have s := h2 p (sub p (pm.mem_iff.mp (hs p List.mem_cons_self)))
      rw [e] at s
      refine .cons ?_ (ih fun x hx => hs x (List.mem_cons_of_mem _ hx))
      show Dq K H (.ref p.1) (pairD (rdL p.2))
      rw [e, rd_]
      exact .tup s (.cons (.int _) (.cons (.int _) .nil))
  exact gen L' fun _ h => h
theorem shaped_pairs (l : List (Nat × Nat)) : SeqAt.shaped (.list (l.map pairD)) = true ∧ (PyData.list (l.map pairD)).canLay0 = true := by
  have z : SeqAt.shaped (.list (l.map pairD)) = true := by
    have y := shaped_rds l
    unfold SeqAt.shaped at y ⊢
    exact y
  exact ⟨z, SeqAt.canLay_of_shaped z⟩
def sp__law_is_tree (K : PySem.W.Frag) : Sp := sp2 fun a b H Q E => ∃ (n : Nat) (rs : List (Nat × Nat)) (p : Addr) (ts : List V), a = .int (n : Int) ∧ 1 ≤ n ∧ n ≤ 16 ∧ b = .ref p ∧ H p = some (.lst ts) ∧ F2 (TP H) rs ts ∧ (∀ q ∈ rs, q.1 < 128 ∧ q.2 < 128) ∧ rs.length ≤ 700 ∧
  ∀ b H', Ex H H' → (b = true ↔ (rs.length + 1 = n ∧ (∀ p ∈ rs, p.1 < p.2 ∧ p.2 < n) ∧ rs.Pairwise (fun p q => TT.ltP p q = true) ∧ Joined n rs)) → Q (.bl b) H'
section
variable {K : PySem.W.Frag} {mg : Str → Option Value} {P : Program} {w : World} {base : Heap}
theorem ok__law_is_tree (T : Tx K mg) : Cal P w K mg base CX0 2 "_law_is_tree" ["_law_houses", "_law_roads"] (sp__law_is_tree K) := by
  refine cal_of (fD__law_is_tree T) (T.glo 46 rfl) sc__law_is_tree (fun _ _ _ _ _ _ us hl => match us, hl with | [_, _], _ => rfl) (fun vs H Q E h => len2 h) (fun f cdv A outer s H vs Q E hr h => ?_)
  obtain ⟨a, b, rfl, h⟩ := h
  refine ⟨_, (PSs.nox (pss_cons (ps_if (PW.pt (pw_or (pt_cmpR op_ne (pe_callB (call_lenK (K := K)) (by rfl) (T.free 7 rfl) (by decide +kernel) (pa_cons (pv 1) pa_nil)) (pe_op op_sub (pv 0) pe_int) (nomark _)) (pw_or1 (pt_cmpR (op_neDK (K := K) (hu64 hr.r)) (pe_callB (cr_sortedSTK (K := K) (P := P) (w := w) rfl) (by rfl) (T.free 14 rfl) (by decide +kernel) (pa_cons (pe_callTy (cr_setTK (K := K) (P := P) (w := w) rfl (hu64 hr.r)) (by rfl) (T.free 13 rfl) (by decide +kernel) (pa_cons (pv 1) pa_nil)) pa_nil)) (pv 1) (nomark _))))) (pss_one (ps_ret pe_bl)) pss_nil)
      (pss_cons (ps_if (pt_cmpR (op_neNil (K := K) (hu0 hr.r)) (pe_lc (own := [("_law_u", 2), ("_law_v", 3)]) rfl sc__law_is_tree.nd (pi_list (pv 1)) (blkOk_by (own := [("_law_u", 2), ("_law_v", 3)]) (N := ["_law_houses", "_law_roads", "_law_u", "_law_v", "_law_reached", "_law_turn"]) (sc := defScope st__law_is_tree) (by decide +kernel)) (fun _ _ _ _ _ => (pg_tupK (K := K) (n := 2) rfl (pgs_cons (pg_name (i := 2) sc__law_is_tree.nd rfl (Or.inl rfl) (.inr rfl)) (pgs_cons (pg_name (i := 3) sc__law_is_tree.nd rfl (Or.inl rfl) (.inr rfl)) pgs_nil)))) (fun _ _ _ _ _ => (pts_one (pt_not (pt_chain3 op_le op_lt op_lt pe_int (pv 2) (pv 3) (pv 0))))) (fun _ _ _ _ _ => pe_int)) (pe_lst pa_nil) (nomark _)) (pss_one (ps_ret pe_bl)) pss_nil)
      (pss_cons (ps_set (i := 4) sc__law_is_tree.nd rfl (Or.inl rfl) (pe_lst (pa_cons pe_int pa_nil)))
      (pss_cons (ps_for PassesOwn.never rfl (pi_range1 (by rfl) (T.free 11 rfl) (pa_cons (pv 0) pa_nil)) (pg_name (i := 5) sc__law_is_tree.nd rfl (Or.inl rfl)) (pss_one (ps_for PassesOwn.never rfl (pi_list (pv 1)) (pg_tup (n := 2) rfl (pgs_cons (pg_name (i := 2) sc__law_is_tree.nd rfl (Or.inl rfl)) (pgs_cons (pg_name (i := 3) sc__law_is_tree.nd rfl (Or.inl rfl)) pgs_nil))) (pss_cons (ps_if (PW.pt (pw_and (pt_cmpR (op_inK (K := K)) (pv 2) (pv 4) (by with_unfolding_all rfl)) (pw_and1 (pt_cmpR (op_ninK (K := K)) (pv 3) (pv 4) (by with_unfolding_all rfl))))) (pss_one (ps_expr (pe_bm PySem.F.plainAttrs_list PySem.F.slot_list_append PySem.F.type_list_append mt_append (pv 4) (pa_cons (pv 3) pa_nil)))) pss_nil)
      (pss_one (ps_if (PW.pt (pw_and (pt_cmpR (op_inK (K := K)) (pv 3) (pv 4) (by with_unfolding_all rfl)) (pw_and1 (pt_cmpR (op_ninK (K := K)) (pv 2) (pv 4) (by with_unfolding_all rfl))))) (pss_one (ps_expr (pe_bm PySem.F.plainAttrs_list PySem.F.slot_list_append PySem.F.type_list_append mt_append (pv 4) (pa_cons (pv 2) pa_nil)))) pss_nil))))))
      (pss_one (ps_ret (pe_cmpR op_eq (pe_callB (call_lenK (K := K)) (by rfl) (T.free 7 rfl) (by decide +kernel) (pa_cons (pv 4) pa_nil)) (pv 0) (nomark _))))))))), ?_⟩
  obtain ⟨n, rs, p, ts, rfl, n1, n16, rfl, hp, tp, lt, few, q⟩ := h
  have lts : ts.length = rs.length := tp.length.symm
  have no : ∀ H', Ex H H' → ¬ (rs.length + 1 = n ∧ (∀ p ∈ rs, p.1 < p.2 ∧ p.2 < n) ∧ rs.Pairwise (fun p q => TT.ltP p q = true) ∧ Joined n rs) → Q (.bl false) H' := fun H' e z => q false H' e ⟨(fun y => nomatch y), fun y => absurd y z⟩
  refine seq_at (ifs_at (or_at ?_))
  refine ⟨_, rfl, p, ts, rfl, .inl (SqL.of hp), _, rfl, _, _, rfl, rfl, rfl, _, rfl, ?_⟩
  rw [lts]
  by_cases l1 : rs.length + 1 = n
  rotate_left
  · rw [decide_eq_false (show ¬ V.int (rs.length : Int) = V.int ((n : Int) - 1) from fun z => l1 (by have := V.int.inj z; omega))]
    refine iteT (iteT (ret_at ?_))
    exact no _ (Ex.refl _) fun z => l1 z.1
  rw [decide_eq_true (show V.int (rs.length : Int) = V.int ((n : Int) - 1) from congrArg V.int (by omega))]
  refine iteF (test_at ?_)
  obtain ⟨ks, rfl, k2, k3⟩ := tp_keys (K := K) tp
  have kl : ks.length = rs.length := by rw [List.length_map] at lts; exact lts
  refine cb_at (cb_at ⟨_, rfl, p, ks, rfl, SqL.of hp, k2, by omega, fun a L ha sub cov => ?_⟩)
  have ea := Ex.new (o := SetTO P w a L) ha
  refine ⟨a, L, 2, 128, rfl, upd_same, fun x hx => Evl.ex_t ea (k2 x (sub x hx)), by decide, fun x hx => ?_, fun L' b pm nd few' pw hb => ?_⟩
  · have z : x.2 ∈ ks.map (·.2) := List.mem_map.mpr ⟨x, sub x hx, rfl⟩
    rw [k3] at z
    obtain ⟨y, hy, e⟩ := List.mem_map.mp z
    rw [← e]
    refine ⟨rfl, fun m hm => ?_⟩
    have := lt y hy
    simp only [List.not_mem_nil, List.mem_cons, or_false] at hm
    omega
  obtain ⟨dq, eq_iff⟩ := set_sorted (K := K) k2 k3 lt sub cov pm nd pw
  have eb := Ex.new (o := .lst (L'.map fun q => V.ref q.1)) hb
  have g1 := upd_same (H := upd H a (SetTO P w a L)) (a := b) (o := .lst (L'.map fun q => V.ref q.1))
  have e1 := ea.trans eb
  generalize upd (upd H a (SetTO P w a L)) b (.lst (L'.map fun q => V.ref q.1)) = H1 at e1 g1 ⊢
  have sh : ∀ l : List (Nat × Nat), SeqAt.shaped (.list (l.map pairD)) = true ∧ (PyData.list (l.map pairD)).canLay0 = true := fun l => shaped_pairs l
  refine ⟨_, rfl, .list ((L'.map fun q => rdL q.2).map pairD), .list (rs.map pairD), (Dq.lst (SqL.of g1) (dq.mono e1)).dp (sh _).2, (Dq.lst (SqL.of (e1 _ _ hp)) (tp_dqs (tp.imp fun _ _ z => TP.mono e1 z))).dp (sh _).2, (sh _).1, (sh _).1, _, rfl, ?_⟩
  rw [eqv_rdsL]
  by_cases up : rs.Pairwise fun p q => TT.ltP p q = true
  rotate_left
  · rw [decide_eq_false fun z => up (eq_iff.mp z)]
    refine iteT (ret_at ?_)
    exact no _ e1 fun z => up z.2.2.1
  rw [decide_eq_true (eq_iff.mpr up)]
  refine iteF ?_
  dsimp only [tNext]
  have hp1 := e1 _ _ hp
  have at_ : ∀ i, i < rs.length → ∃ t pr, rs[i]? = some pr ∧ G.nth (ks.map fun p => V.ref p.1) i = .ref t ∧ H t = some (.tup [iV pr.1, iV pr.2]) := fun i hi => by
    obtain ⟨v, hv, t, e, ht⟩ := F2.get tp (i := i) (List.getElem?_eq_getElem hi)
    exact ⟨t, _, List.getElem?_eq_getElem hi, by unfold G.nth; rw [hv]; exact e, ht⟩
  refine seq_at (ifs_at (test_at ?_))
  refine lc_at (n := rs.length) (item := G.nth (ks.map fun p => V.ref p.1)) (fun i => !(decide ((rs[i]?.getD (0, 0)).1 < (rs[i]?.getD (0, 0)).2) && decide ((rs[i]?.getD (0, 0)).2 < n))) (fun i D y H' => True) (line_big (by omega)) (fun P q => ⟨_, rfl, p, rfl, ⟨_, SqL.of hp1⟩, q _ _ (Ex.refl _) (lts ▸ its_l (SqL.of hp1))⟩) (fun _ _ _ _ _ _ h => h) (fun _ _ _ _ _ _ h => h) ?_ ?_
  · intro i D H2 hi hD e2 hacc Ny Nn hy hn
    obtain ⟨t, pr, hpr, et, ht⟩ := at_ i hi
    rw [hpr] at hy hn
    rw [et]
    refine ⟨t, _, rfl, SqT.of ((e1.trans e2) _ _ ht), rfl, _, _, rfl, _, _, rfl, rfl, rfl, ?_⟩
    refine not_at ?_
    refine ⟨_, rfl, _, _, rfl, rfl, _, rfl, ?_⟩
    rw [decide_eq_true (show (0 : Int) ≤ (pr.1 : Int) by omega)]
    refine iteT ⟨_, rfl, _, _, rfl, rfl, _, rfl, ?_⟩
    rw [show decide ((pr.1 : Int) < (pr.2 : Int)) = decide (pr.1 < pr.2) by rw [Bool.eq_iff_iff, decide_eq_true_eq, decide_eq_true_eq]; omega]
    by_cases c1 : pr.1 < pr.2
    rotate_left
    · rw [decide_eq_false c1]
      refine iteF ⟨_, rfl, iteT ?_⟩
      exact hy _ _ (by show (!(decide (pr.1 < pr.2) && _)) = true; rw [decide_eq_false c1]; rfl) (Ex.refl _) trivial
    rw [decide_eq_true c1]
    refine iteT ⟨_, rfl, _, _, rfl, rfl, _, rfl, ?_⟩
    rw [show decide ((pr.2 : Int) < (n : Int)) = decide (pr.2 < n) by rw [Bool.eq_iff_iff, decide_eq_true_eq, decide_eq_true_eq]; omega]
    by_cases c2 : pr.2 < n
    rotate_left
    · rw [decide_eq_false c2]
      refine iteT ?_
      exact hy _ _ (by show (!(_ && decide (pr.2 < n))) = true; rw [decide_eq_false c2, Bool.and_false]; rfl) (Ex.refl _) trivial
    rw [decide_eq_true c2]
    refine iteF ?_
    exact hn _ (by show (!(decide (pr.1 < pr.2) && decide (pr.2 < n))) = false; rw [decide_eq_true c1, decide_eq_true c2]; rfl) (Ex.refl _)
  intro D ys H2 hD e2 hd2 f2
  refine ⟨Nat.zero_le _, fun d hd => ?_⟩
  have ed := Ex.new (o := .lst []) hd
  refine ⟨D, ys, d, rfl, rfl, SqL.of (ed _ _ hd2), SqL.of upd_same, _, rfl, ?_⟩
  have e3 := e1.trans (e2.trans ed)
  generalize upd H2 d (.lst []) = H3 at e3 ⊢
  have yl := f2.length
  by_cases al : ∀ p ∈ rs, p.1 < p.2 ∧ p.2 < n
  rotate_left
  · have ne : ys.isEmpty = false := by
      cases ys with
      | cons => rfl
      | nil =>
        exfalso
        have em := List.filter_eq_nil_iff.mp (List.length_eq_zero_iff.mp yl)
        refine al fun x hx => ?_
        obtain ⟨i, hi, ei⟩ := List.getElem_of_mem hx
        have z := em i (List.mem_range.mpr hi)
        rw [List.getElem?_eq_getElem hi, ei] at z
        simpa using z
    rw [ne]
    refine iteT (ret_at ?_)
    exact no _ e3 fun z => al z.2.1
  have em : ys.isEmpty = true := by
    have z : (List.range rs.length).filter (fun i => !(decide ((rs[i]?.getD (0, 0)).1 < (rs[i]?.getD (0, 0)).2) && decide ((rs[i]?.getD (0, 0)).2 < n))) = [] := by
      refine List.filter_eq_nil_iff.mpr fun i hi => ?_
      have hi := List.mem_range.mp hi
      have z := al _ (List.getElem_mem hi)
      rw [List.getElem?_eq_getElem hi]
      simpa using z
    rw [z] at yl
    rw [List.length_eq_zero_iff.mp yl.symm]; rfl
  rw [em]
  refine iteF ?_
  dsimp only [tNext]
  refine seq_at (asg_at ?_)
  refine ⟨(by show 1 ≤ sizeLine; decide), fun A hA => ?_⟩
  have eA := Ex.new (o := .lst [V.int 0]) hA
  have gA : upd H3 A (.lst [V.int 0]) A = some (.lst ([0].map iV)) := upd_same
  have nA : H A = none := Evl.fresh_back e3 hA
  have e4 := e3.trans eA
  generalize upd H3 A (.lst [V.int 0]) = H4 at e4 gA ⊢
  dsimp only [gName]
  refine seq_at ?_
  refine for_at (B := H) (n := n) (item := fun i => .int (0 + i)) (fun P q => w_rngB (fun Q q => ⟨_, rfl, q⟩) (by omega) fun J H5 e S => q J H5 e (S _))
    (fun k σ' H' => ∃ R s2 s3 s5, σ' = [some (iV n), some (.ref p), s2, s3, some (.ref A), s5] ∧ Ex H H' ∧ H' A = some (.lst (R.map iV)) ∧ RI n rs R ∧ (Cl rs R ∨ k + 1 ≤ R.length)) ?_ ?_ ?_ ?_
  · intro H5 e5
    exact ⟨[0], _, _, _, rfl, e4.trans e5, e5 _ _ gA, ri_start n1, .inr (by decide)⟩
  · rintro k σ' H' ⟨_, _, _, _, _, e, _⟩; exact e
  · rintro k σ' H5 hk ⟨R0, s2, s3, s5, rfl, e5, hA5, ri, cl⟩
    dsimp only [gName]
    refine for_at (B := H) (n := rs.length) (item := G.nth (ks.map fun p => V.ref p.1)) (fun P q => w_list rfl (SqL.of hp) (SqL.of (e5 _ _ hp)) (lts ▸ q))
      (fun j σ' H' => ∃ R s2 s3 s5, σ' = [some (iV n), some (.ref p), s2, s3, some (.ref A), s5] ∧ Ex H H' ∧ H' A = some (.lst (R.map iV)) ∧ RJ n rs R0 (rs.take j) R) ?_ ?_ ?_ ?_
    · intro H6 e6
      exact ⟨R0, _, _, _, rfl, e5.trans e6, e6 _ _ hA5, rj_start ri⟩
    · rintro j σ' H' ⟨_, _, _, _, _, e, _⟩; exact e
    · rintro j σ' H6 hj ⟨R, s2, s3, s5, rfl, e6, hA6, rj⟩
      obtain ⟨t, pr, hpr, et, ht⟩ := at_ j hj
      have mem : pr ∈ rs := List.mem_of_getElem? hpr
      obtain ⟨lt1, lt2⟩ := al pr mem
      rw [et, take_snoc' hpr]
      refine ⟨t, _, rfl, SqT.of (e6 _ _ ht), rfl, _, _, rfl, _, _, rfl, rfl, ?_⟩
      have rl := ri_len rj.ri
      have big : ∀ l : List Nat, l.length ≤ 16 → (l.map iV).length < sizeLine := fun l hl => line_big (by rw [List.length_map]; omega)
      refine ifs_split (fun σ' H' => ∃ R' s5, σ' = [some (iV n), some (.ref p), some (iV pr.1), some (iV pr.2), some (.ref A), s5] ∧ Ex H H' ∧ H' A = some (.lst (R'.map iV)) ∧ ((R' = R ∧ ¬ (pr.1 ∈ R ∧ pr.2 ∉ R)) ∨ (RJ n rs R0 (rs.take j ++ [pr]) R' ∧ pr.1 ∈ R' ∧ pr.2 ∈ R'))) ?_ ?_
      rotate_left
      · intro N hN
        refine ⟨_, rfl, _, rfl, A, _, rfl, .inl (SqL.of hA6), rfl, flat_iV _, _, rfl, ?_⟩
        show if inV (iV pr.1) (R.map iV) = true then _ else _
        rw [inV_iff]
        by_cases c1 : pr.1 ∈ R
        rotate_left
        · rw [show R.contains pr.1 = false by simpa using c1]
          exact iteF (iteF (hN _ _ ⟨R, _, rfl, e6, hA6, .inl ⟨rfl, fun z => c1 z.1⟩⟩))
        rw [show R.contains pr.1 = true by simpa using c1]
        refine iteT ⟨_, rfl, _, rfl, A, _, rfl, .inl (SqL.of hA6), rfl, flat_iV _, _, rfl, ?_⟩
        show if (!inV (iV pr.2) (R.map iV)) = true then _ else _
        rw [inV_iff]
        by_cases c2 : pr.2 ∈ R
        · rw [show R.contains pr.2 = true by simpa using c2]
          exact iteF (hN _ _ ⟨R, _, rfl, e6, hA6, .inl ⟨rfl, fun z => z.2 c2⟩⟩)
        rw [show R.contains pr.2 = false by simpa using c2]
        refine iteT ?_
        refine ⟨_, rfl, .inl ⟨rfl, _, SqL.of hA6⟩, _, rfl, A, _, _, rfl, rfl, hA6, big R (by omega), ?_⟩
        refine hN _ _ ⟨R ++ [pr.2], _, rfl, Ex.mut e6 nA, by rw [upd_same, List.map_append]; rfl, .inr ⟨rj_add rj mem ⟨by omega, lt2⟩ (.inl rfl) c1 c2, by simp [c1], by simp⟩⟩
      rintro _ H7 ⟨R', s5', rfl, e7, hA7, cs⟩
      refine ifs_at ?_
      have rl' : R'.length ≤ 16 := by
        rcases cs with ⟨rfl, _⟩ | ⟨z, _⟩
        · omega
        · have := ri_len z.ri; omega
      refine ⟨_, rfl, _, rfl, A, _, rfl, .inl (SqL.of hA7), rfl, flat_iV _, _, rfl, ?_⟩
      show if inV (iV pr.2) (R'.map iV) = true then _ else _
      rw [inV_iff]
      by_cases c2 : pr.2 ∈ R'
      rotate_left
      · rw [show R'.contains pr.2 = false by simpa using c2]
        refine iteF (iteF ⟨R', _, _, _, rfl, e7, hA7, ?_⟩)
        rcases cs with ⟨rfl, nn⟩ | ⟨_, _, z⟩
        · exact rj_same rj ⟨fun z => absurd ⟨z, c2⟩ nn, fun z => absurd z c2⟩
        · exact absurd z c2
      rw [show R'.contains pr.2 = true by simpa using c2]
      refine iteT ⟨_, rfl, _, rfl, A, _, rfl, .inl (SqL.of hA7), rfl, flat_iV _, _, rfl, ?_⟩
      show if (!inV (iV pr.1) (R'.map iV)) = true then _ else _
      rw [inV_iff]
      by_cases c1 : pr.1 ∈ R'
      · rw [show R'.contains pr.1 = true by simpa using c1]
        refine iteF ⟨R', _, _, _, rfl, e7, hA7, ?_⟩
        rcases cs with ⟨rfl, nn⟩ | ⟨z, _, _⟩
        · exact rj_same rj ⟨fun _ => c2, fun _ => c1⟩
        · exact z
      rw [show R'.contains pr.1 = false by simpa using c1]
      refine iteT ?_
      refine ⟨_, rfl, .inl ⟨rfl, _, SqL.of hA7⟩, _, rfl, A, _, _, rfl, rfl, hA7, big R' rl', ?_⟩
      refine ⟨R' ++ [pr.1], _, _, _, rfl, Ex.mut e7 nA, by rw [upd_same, List.map_append]; rfl, ?_⟩
      rcases cs with ⟨rfl, nn⟩ | ⟨_, z, _⟩
      · exact rj_add rj mem ⟨by omega, lt2⟩ (.inr rfl) c2 c1
      · exact absurd z c1
    · rintro σ' H6 ⟨R, s2, s3, s5, rfl, e6, hA6, rj⟩
      rw [List.take_length] at rj
      obtain ⟨r1, r2⟩ := rj_end rj cl
      exact ⟨R, _, _, _, rfl, e6, hA6, r1, r2⟩
  rintro σ' H5 ⟨R, s2, s3, s5, rfl, e5, hA5, ri, cl⟩
  have fin := ri_fin ri cl
  dsimp only
  refine ret_at (op_at ?_)
  refine ⟨_, rfl, A, _, rfl, .inl (SqL.of hA5), _, rfl, rfl, ?_⟩
  refine q _ _ e5 ?_
  rw [List.length_map, show decide (V.int (R.length : Int) = iV n) = decide (R.length = n) from int_eqb _ _, decide_eq_true_eq, fin]
  exact ⟨fun z => ⟨l1, al, up, z⟩, fun z => z.2.2.2⟩
end

end T1

namespace T1
open PySem PySem.Spec PyProof.Rows L2 G
open Evl (Ex)
local macro_rules | `(tactic| walk_at "dd") => `(tactic| (dsimp only [tCB, tCons, tNil, tC, tOp, tUn, tTest, tB, tVar, tAndV, tOrV, tNotV, tIf, tAnd, tOr, tNot, tSeq, tRet, tRetN, tIfS, tAsg, gName, tDrop, tTup, tLst, tChain, tNext, tCall, L2.start]))
open M (at_)
theorem colon_end (f : Str) : decide (V.str (cutS f (some (-1)) none) = V.str (Str.ofString ":")) = decide ((TL.tl f).getLast? = some 58) := by
  have e := TT.cut_end f
  have c : TL.tl (Str.ofString ":") = [58] := TT.tl_colon
  refine Bool.eq_iff_iff.mpr ?_; rw [decide_eq_true_eq, decide_eq_true_eq]
  constructor
  · intro h
    have h' := V.str.inj h
    rw [h', c] at e
    cases g : (TL.tl f).getLast? with
    | none => rw [g] at e; cases e
    | some k => rw [g] at e; simp at e; rw [← e]
  · intro h
    rw [h] at e
    exact congrArg V.str (TL.ext_tl (e.trans c.symm))
/-! what a line's words write -/
def rdW (sep : Str) (w : Str) : Option (Nat × Nat) := match (Txt.split w sep).map num2 with
  | [some a, some b] => some (a, b)
  | _ => none
theorem num2_back {w : Str} {a : Nat} (h : num2 w = some a) : w = TT.str a ∧ a < 100 := by
  unfold num2 at h
  split at h
  · rename_i l2
    refine ⟨TT.num_back h, ?_⟩
    unfold TT.num at h
    have lw := TL.len_tl w
    have one : ∀ c, NumText.digitsVal [c] = c - 48 := fun c => by
      have z := TT.val_snoc [] c
      rw [List.nil_append] at z
      rw [z]; show 0 * 10 + (c - 48) = _; omega
    match e : TL.tl w, h with
    | [], h => cases h
    | [c], h =>
      rw [TT.numS_cons] at h
      split at h
      · rename_i z
        rw [Bool.and_eq_true, List.all_eq_true] at z
        have d := TT.dig_iff.mp (z.1 c (by simp))
        have q := Option.some.inj h
        rw [one] at q; omega
      · cases h
    | [c, d], h =>
      rw [TT.numS_cons] at h
      split at h
      · rename_i z
        rw [Bool.and_eq_true, List.all_eq_true] at z
        have d1 := TT.dig_iff.mp (z.1 c (by simp))
        have d2 := TT.dig_iff.mp (z.1 d (by simp))
        have q := Option.some.inj h
        have y := TT.val_snoc [c] d
        rw [one] at y
        have y' : NumText.digitsVal [c, d] = (c - 48) * 10 + (d - 48) := y
        rw [y'] at q; omega
      · cases h
    | _ :: _ :: _ :: _, h => rw [e] at lw; simp at lw; omega
  · cases h
theorem num2_str {a : Nat} (h : a < 100) : num2 (TT.str a) = some a := by
  unfold num2
  rw [if_pos (TT.str2 h), TT.num_str]
theorem rdW_two {sep w : Str} {a b : Nat} (h : rdW sep w = some (a, b)) : ∃ p q, Txt.split w sep = [p, q] ∧ num2 p = some a ∧ num2 q = some b := by
  unfold rdW at h
  split at h
  · rename_i x y e
    cases h
    obtain ⟨p, q, is⟩ := two_of (by have len := congrArg List.length e; rwa [List.length_map] at len)
    rw [is] at e
    simp only [List.map_cons, List.map_nil, List.cons.injEq, and_true] at e
    exact ⟨p, q, is, e.1, e.2⟩
  · cases h
theorem rdW_of2 {sep w p q : Str} (h : Txt.split w sep = [p, q]) {a b : Nat} (h1 : num2 p = some a) (h2 : num2 q = some b) : rdW sep w = some (a, b) := by
  unfold rdW
  rw [h]
  show (match [num2 p, num2 q] with | [some a, some b] => some (a, b) | _ => none) = _
  rw [h1, h2]
theorem rdW_back {sep w : Str} {s a b : Nat} (ey : TL.tl sep = [s]) (hs : s < 256) (h : rdW sep w = some (a, b)) : w = TT.str a ++ sep ++ TT.str b ∧ a < 100 ∧ b < 100 := by
  obtain ⟨p, q, e, h1, h2⟩ := rdW_two h
  obtain ⟨rfl, l1⟩ := num2_back h1
  obtain ⟨rfl, l2⟩ := num2_back h2
  refine ⟨?_, l1, l2⟩
  have z := TT.join_split ey hs w
  rw [e, TL.join_eq] at z
  exact z.symm
theorem rdW_of {sep : Str} {s a b : Nat} (ey : TL.tl sep = [s]) (hs : s < 256) (fr : s < 48 ∨ 57 < s) (ha : a < 100) (hb : b < 100) : rdW sep (TT.str a ++ sep ++ TT.str b) = some (a, b) := by
  have e : Txt.split (TT.str a ++ sep ++ TT.str b) sep = [TT.str a, TT.str b] := by
    have z := TT.split_joined ey hs (ps := [TT.str a, TT.str b]) (by simp) (fun p hp => by
      rcases (List.mem_cons.mp hp) with rfl | hp
      · exact TT.str_free fr
      · rw [List.mem_singleton.mp hp]; exact TT.str_free fr)
    rw [TL.join_eq] at z
    exact z
  exact rdW_of2 e (num2_str ha) (num2_str hb)
def rword (p : Nat × Nat) : Str := TT.str p.1 ++ "-" ++ TT.str p.2
theorem rdW_words {sep : Str} {s : Nat} (ey : TL.tl sep = [s]) (hs : s < 256) : ∀ {R : List Str} {rs : List (Nat × Nat)}, R.map (rdW sep) = rs.map some → R = rs.map fun p => TT.str p.1 ++ sep ++ TT.str p.2
  | [], [], _ => rfl
  | [], _ :: _, no => absurd no (by simp)
  | _ :: _, [], no => absurd no (by simp)
  | w :: ws, (a, b) :: rs, h => by
    simp only [List.cons.injEq, List.map_cons] at h
    rw [List.map_cons, ← rdW_words ey hs h.2, (rdW_back ey hs h.1).1]
theorem rdW_all {sep : Str} {s : Nat} (ey : TL.tl sep = [s]) (hs : s < 256) (fr : s < 48 ∨ 57 < s) {rs : List (Nat × Nat)} (lt : ∀ p ∈ rs, p.1 < 100 ∧ p.2 < 100) : (rs.map fun p => TT.str p.1 ++ sep ++ TT.str p.2).map (rdW sep) = rs.map some := by
  rw [List.map_map]
  exact List.map_congr_left fun p hp => rdW_of ey hs fr (lt p hp).1 (lt p hp).2
def first2 (f : Str) : Option Nat := if (TL.tl f).getLast? = some 58 then num2 (cutS f none (some (-1))) else none
theorem first2_first {f : Str} {n : Nat} (h : first2 f = some n) : TT.first f = some n := by
  unfold first2 at h
  split at h
  · rename_i c
    rw [TT.first_eq, TT.ends_one TT.tl_colon, if_pos (decide_eq_true c)]
    unfold num2 at h
    split at h
    · exact h
    · cases h
  · cases h
theorem first2_of {n : Nat} (h : n < 100) : first2 (TT.str n ++ ":") = some n := by
  have z := TT.first_of n
  rw [TT.first_eq, TT.ends_one TT.tl_colon] at z
  split at z
  · rename_i c
    unfold first2
    rw [if_pos (of_decide_eq_true c), TT.num_back z, num2_str h]
  · cases z
theorem sline_join (n : Nat) (rs ws : List (Nat × Nat)) : TT.sline n rs ws = Txt.join " " ((TT.str n ++ ":") :: (rs.map (fun p => TT.str p.1 ++ "-" ++ TT.str p.2) ++ ("/" : Str) :: ws.map TT.wrt)) := by
  refine TL.ext_tl ?_
  unfold TT.sline TT.line
  rw [TT.tl_joined, TT.tl_joined, TT.tl_joined, List.flatMap_append, List.append_assoc]
theorem word_sign {p : Nat × Nat} {c : Nat} (h : c ∈ TL.tl (TT.str p.1 ++ "-" ++ TT.str p.2)) : (48 ≤ c ∧ c ≤ 57) ∨ c = 45 := by
  rw [TL.tl_append, TL.tl_append, TT.tl_dash] at h
  rcases (List.mem_append.mp h) with h | h
  · rcases (List.mem_append.mp h) with h | h
    · have := TT.str_sign h; omega
    · simp at h; omega
  · have := TT.str_sign h; omega
theorem sline_split (n : Nat) (rs ws : List (Nat × Nat)) : Txt.split (TT.sline n rs ws) " " = (TT.str n ++ ":") :: (rs.map (fun p => TT.str p.1 ++ "-" ++ TT.str p.2) ++ ("/" : Str) :: ws.map TT.wrt) := by
  rw [sline_join]
  refine TT.split_joined TT.tl_blank (by decide) (by simp) fun p hp => ?_
  rcases (List.mem_cons.mp hp) with rfl | hp
  · rw [TL.tl_append, TT.tl_colon]
    intro z
    rcases (List.mem_append.mp z) with z | z
    · have := TT.str_sign z; omega
    · simp at z
  rcases (List.mem_append.mp hp) with hp | hp
  · obtain ⟨q, _, rfl⟩ := List.mem_map.mp hp
    exact fun z => by have := word_sign z; omega
  rcases (List.mem_cons.mp hp) with rfl | hp
  · rw [TT.tl_slash]; simp
  · obtain ⟨q, _, rfl⟩ := List.mem_map.mp hp
    exact fun z => by have := TT.wrt_sign z; omega
theorem no_slash {w : Str} {c : Nat} (h : c ∈ TL.tl w) (ne : c ≠ 47) : w ≠ ("/" : Str) := fun e => by
  rw [e, TT.tl_slash] at h
  simp at h
  exact ne h
theorem cut_one {α : Type} {x : α} : ∀ {l l' m m' : List α}, x ∉ l → x ∉ l' → l ++ x :: m = l' ++ x :: m' → l = l' ∧ m = m'
  | [], [], _, _, _, _, e => ⟨rfl, (List.cons.inj e).2⟩
  | [], b :: _, _, _, _, h, e => absurd (by rw [(List.cons.inj e).1]; exact List.mem_cons_self) h
  | a :: _, [], _, _, h, _, e => absurd (by rw [(List.cons.inj e).1]; exact List.mem_cons_self) h
  | a :: l, b :: l', m, m', h, h', e => by
    obtain ⟨e1, e2⟩ := List.cons.inj e
    obtain ⟨r1, r2⟩ := cut_one (fun z => h (List.mem_cons_of_mem _ z)) (fun z => h' (List.mem_cons_of_mem _ z)) e2
    exact ⟨by rw [e1, r1], r2⟩
theorem count_one {x : Str} {l : List Str} (h : l.count x = 1) : ∃ R S, l = R ++ x :: S ∧ x ∉ R ∧ x ∉ S := by
  have m : x ∈ l := List.count_pos_iff.mp (by omega)
  obtain ⟨R, S, e, n⟩ := List.eq_append_cons_of_mem m
  refine ⟨R, S, e, n, fun z => ?_⟩
  have := List.count_pos_iff.mpr z
  rw [e, List.count_append, List.count_cons_self, List.count_eq_zero.mpr n] at h
  omega
/-- a store's line by its words -/
structure Ln (z : Str) (f : Str) (R S : List Str) (n : Nat) (rs ws : List (Nat × Nat)) : Prop where
  f : first2 f = some n
  r : R.map (rdW ("-" : Str)) = rs.map some
  s : S.map (rdW ("." : Str)) = ws.map some
  t : WorldT n rs
  few : ws.length ≤ 12
  lt : ∀ p ∈ ws, p.1 < n ∧ p.2 < 6
theorem Ln.rds {z f : Str} {R S : List Str} {n : Nat} {rs ws : List (Nat × Nat)} (h : Ln z f R S n rs ws) (e : Txt.split z " " = f :: (R ++ ("/" : Str) :: S)) : RdS z n rs ws := by
  refine ⟨h.t.reads, h.few, h.lt, ?_⟩
  have j := TT.join_split TT.tl_blank (by decide) z
  rw [e, TT.first_back (first2_first h.f), rdW_words TT.tl_dash (by decide) h.r, rdW_words TT.tl_dot (by decide) h.s] at j
  rw [sline_join]
  exact j.symm
theorem RdS.words {z : Str} {n : Nat} {rs ws : List (Nat × Nat)} (h : RdS z n rs ws) : ∃ f R S, Txt.split z " " = f :: (R ++ ("/" : Str) :: S) ∧ f ≠ ("/" : Str) ∧ ("/" : Str) ∉ R ∧ ("/" : Str) ∉ S ∧ Ln z f R S n rs ws := by
  obtain ⟨rd, few, lt, rfl⟩ := h
  have wt := rd.world
  have n16 := wt.n16
  refine ⟨_, _, _, sline_split n rs ws, ?_, fun m => ?_, fun m => ?_, first2_of (by omega), rdW_all TT.tl_dash (by decide) (by decide) (fun p hp => by have := wt.sub.1 p hp; omega), rdW_all TT.tl_dot (by decide) (by decide) (fun p hp => by have := lt p hp; omega), wt, few, lt⟩
  · exact no_slash (c := 58) (by rw [TL.tl_append, TT.tl_colon]; simp) (by decide)
  · obtain ⟨p, _, e⟩ := List.mem_map.mp m
    exact no_slash (c := 45) (by rw [TL.tl_append, TL.tl_append, TT.tl_dash]; simp) (by decide) e
  · obtain ⟨p, _, e⟩ := List.mem_map.mp m
    refine no_slash (c := 46) (w := TT.wrt p) ?_ (by decide) e
    unfold TT.wrt
    rw [TL.tl_append, TL.tl_append, TT.tl_dot]; simp
/-- .. the words of a text are its own -/
theorem RdS.ln {z f : Str} {R S : List Str} {n : Nat} {rs ws : List (Nat × Nat)} (h : RdS z n rs ws) (e : Txt.split z " " = f :: (R ++ ("/" : Str) :: S)) (nr : ("/" : Str) ∉ R) : Ln z f R S n rs ws := by
  obtain ⟨f', R', S', e', _, nr', _, L⟩ := h.words
  rw [e] at e'
  obtain ⟨rfl, e2⟩ := List.cons.inj e'
  obtain ⟨rfl, rfl⟩ := cut_one nr nr' e2
  exact L
def numsOf (sep w : Str) : List V := (Txt.split w sep).map fun p => V.int (num2I p)
/-- the numbers of the word w stand in a list at y -/
def PL (H : Hp) (sep w : Str) (y : V) : Prop := ∃ a, y = .ref a ∧ H a = some (.lst (numsOf sep w))
theorem PL.mono {H H' : Hp} {sep w : Str} {y : V} (e : Ex H H') (h : PL H sep w y) : PL H' sep w y := let ⟨a, h1, h2⟩ := h; ⟨a, h1, e _ _ h2⟩
theorem f2_list {α : Type} {P : α → V → Prop} {d : α} : ∀ {l : List α} {ys : List V}, F2 (fun i y => P (l[i]?.getD d) y) (List.range l.length) ys → F2 P l ys := fun {l ys} h => by
  have len := h.length
  rw [List.length_range] at len
  have at_ : ∀ i x y, l[i]? = some x → ys[i]? = some y → P x y := fun i x y hx hy => by
    obtain ⟨b, hb, p⟩ := F2.get h (i := i) (a := i) (List.getElem?_range (List.getElem?_eq_some_iff.mp hx).1)
    rw [hy] at hb
    cases hb
    rw [hx] at p
    exact p
  clear h
  induction l generalizing ys with
  | nil => rw [List.length_eq_zero_iff.mp len.symm]; exact .nil
  | cons x l ih =>
    match ys, len with
    | y :: ys, len => exact .cons (at_ 0 x y rfl rfl) (ih (by simpa using len) fun i a b ha hb => at_ (i + 1) a b (by simpa using ha) (by simpa using hb))
theorem f2_app {α β : Type} {P : α → β → Prop} : ∀ {l m : List α} {xs ys : List β}, F2 P l xs → F2 P m ys → F2 P (l ++ m) (xs ++ ys)
  | _, _, _, _, .nil, h => h
  | _, _, _, _, .cons h hs, h' => .cons h (f2_app hs h')
theorem f2_map {α γ β : Type} {P : γ → β → Prop} {g : α → γ} : ∀ {l : List α} {xs : List β}, F2 (fun a y => P (g a) y) l xs → F2 P (l.map g) xs
  | _, _, .nil => .nil
  | _, _, .cons h hs => .cons h (f2_map hs)
theorem all_some {α β : Type} {g : α → Option β} : ∀ {l : List α}, (∀ w ∈ l, ∃ p, g w = some p) → ∃ rs : List β, l.map g = rs.map some
  | [], _ => ⟨[], rfl⟩
  | w :: l, h => by
    obtain ⟨p, hp⟩ := h w List.mem_cons_self
    obtain ⟨rs, hr⟩ := all_some fun x hx => h x (List.mem_cons_of_mem _ hx)
    exact ⟨p :: rs, by rw [List.map_cons, List.map_cons, hp, hr]⟩
theorem num2I_none {w : Str} (h : num2 w = none) : num2I w = -1 := by unfold num2I; rw [h]
theorem num2I_some {w : Str} {a : Nat} (h : num2 w = some a) : num2I w = (a : Int) := by unfold num2I; rw [h]
theorem nums_two {sep w : Str} {a b : Nat} (h : rdW sep w = some (a, b)) : numsOf sep w = [iV a, iV b] := by
  obtain ⟨p, q, e, h1, h2⟩ := rdW_two h
  unfold numsOf
  rw [e]
  show [V.int (num2I p), V.int (num2I q)] = _
  rw [num2I_some h1, num2I_some h2]; rfl
theorem yes_at {t : TE} {σ : L2.St} {H : Hp} {Ny : VK} {Nn : Hp → Prop} (h : t σ H Ny) : tYes σ H fun b H3 => if b = true then t σ H3 Ny else Nn H3 := by
  show (if true = true then t σ H Ny else Nn H)
  exact h
theorem PL.two {H : Hp} {sep w : Str} {y : V} {p : Nat × Nat} (h : PL H sep w y) (e : rdW sep w = some p) : ∃ a, y = .ref a ∧ H a = some (.lst [iV p.1, iV p.2]) := by
  obtain ⟨a, rfl, ha⟩ := h
  exact ⟨a, rfl, by rw [ha, nums_two (a := p.1) (b := p.2) e]⟩
/-- the lists of two numbers -/
theorem f2_two {H : Hp} {sep : Str} : ∀ {R : List Str} {rs : List (Nat × Nat)} {ys : List V}, F2 (PL H sep) R ys → R.map (rdW sep) = rs.map some → F2 (fun (p : Nat × Nat) y => ∃ a, y = .ref a ∧ H a = some (.lst [iV p.1, iV p.2])) rs ys
  | [], [], _, .nil, _ => .nil
  | [], _ :: _, _, _, no => absurd no (by simp)
  | _ :: _, [], _, _, no => absurd no (by simp)
  | w :: R, p :: rs, _, .cons h hs, e => by
    rw [(List.map_cons), (List.map_cons)] at e
    obtain ⟨e1, e2⟩ := List.cons.inj e
    exact .cons (h.two e1) (f2_two hs e2)
theorem pairs_at {K K' : PySem.W.Frag} {H : Hp} {Q : VK} {rs : List (Nat × Nat)} {ys : List V} {D : Addr} {s0 s1 s2 s3 s5 s6 s7 s8 s9 s10 s11 s12 : Option V} (hD : H D = some (.lst ys)) (f : F2 (fun (p : Nat × Nat) y => ∃ a, y = .ref a ∧ H a = some (.lst [iV p.1, iV p.2])) rs ys) (few : rs.length ≤ 700)
    (fin : ∀ A xs H', H A = none → Ex H H' → H' A = some (.lst xs) → F2 (TP H') rs xs → Q (.ref A) H') :
    tLc (iList K' (tVar 4)) (gLst K 2 (gCons (gName 11) (gCons (gName 12) gNil))) tYes (tTup (tCons (tVar 11) (tCons (tVar 12) tNil))) [11, 12] [s0, s1, s2, s3, some (.ref D), s5, s6, s7, s8, s9, s10, s11, s12] H Q := by
  have ln : ys.length = rs.length := f.length.symm
  refine lc_at (n := rs.length) (item := G.nth ys) (fun _ => true) (fun i A y H' => ∃ t, y = .ref t ∧ t ≠ A ∧ H' t = some (.tup [iV (rs[i]?.getD (0, 0)).1, iV (rs[i]?.getD (0, 0)).2])) (line_big (by omega)) (fun P q => ⟨_, rfl, D, rfl, ⟨_, SqL.of hD⟩, q _ _ (Ex.refl _) (ln ▸ its_l (SqL.of hD))⟩) (fun i A y H' o hA ⟨a, h1, h2, h3⟩ => ⟨a, h1, h2, by rw [upd_ne h2]; exact h3⟩) (fun i A y H' H'' e ⟨a, h1, h2, h3⟩ => ⟨a, h1, h2, e _ _ h3⟩) ?_ ?_
  · intro i A H2 hi hA e2 ⟨acc, hacc⟩ Ny Nn hy _
    obtain ⟨v, hv, a, rfl, ha⟩ := F2.get f (i := i) (List.getElem?_eq_getElem hi)
    have nt : G.nth ys i = .ref a := by unfold G.nth; rw [hv]; rfl
    rw [nt]
    refine ⟨a, _, rfl, SqL.of (e2 _ _ ha), rfl, _, _, rfl, _, _, rfl, rfl, rfl, yes_at ?_⟩
    refine ⟨_, rfl, _, rfl, (by show 2 ≤ sizeLine; decide), fun t ht => ?_⟩
    exact hy _ _ rfl (Ex.new ht) ⟨t, rfl, (ne_of_none hacc ht).symm, by rw [List.getElem?_eq_getElem hi]; exact upd_same⟩
  · intro A xs H' hA e hd f2
    rw [range_all] at f2
    exact fin A xs H' hA e hd (f2_list (f2.imp fun i y ⟨t, h1, _, h3⟩ => ⟨t, h1, h3⟩))
/-- one of the two numbers -/
theorem part_at {K K' : PySem.W.Frag} {H : Hp} {Q : VK} {rs : List (Nat × Nat)} {ys : List V} {D : Addr} {s0 s1 s2 s3 s4 s6 s7 s8 s9 s10 s11 s12 : Option V} {k : Nat} {g : Nat × Nat → Nat} (hk : (k = 9 ∧ g = Prod.fst) ∨ (k = 10 ∧ g = Prod.snd)) (hD : H D = some (.lst ys)) (f : F2 (fun (p : Nat × Nat) y => ∃ a, y = .ref a ∧ H a = some (.lst [iV p.1, iV p.2])) rs ys) (few : rs.length ≤ 700)
    (fin : ∀ A H', H A = none → Ex H H' → H' A = some (.lst ((rs.map g).map iV)) → Q (.ref A) H') :
    tLc (iList K' (tVar 5)) (gLst K 2 (gCons (gName 9) (gCons (gName 10) gNil))) tYes (tVar k) [9, 10] [s0, s1, s2, s3, s4, some (.ref D), s6, s7, s8, s9, s10, s11, s12] H Q := by
  have ln : ys.length = rs.length := f.length.symm
  refine lc_at (n := rs.length) (item := G.nth ys) (fun _ => true) (fun i A y H' => y = iV (g (rs[i]?.getD (0, 0)))) (line_big (by omega)) (fun P q => ⟨_, rfl, D, rfl, ⟨_, SqL.of hD⟩, q _ _ (Ex.refl _) (ln ▸ its_l (SqL.of hD))⟩) (fun _ _ _ _ _ _ h => h) (fun _ _ _ _ _ _ h => h) ?_ ?_
  · intro i A H2 hi hA e2 hacc Ny Nn hy _
    obtain ⟨v, hv, a, rfl, ha⟩ := F2.get f (i := i) (List.getElem?_eq_getElem hi)
    have nt : G.nth ys i = .ref a := by unfold G.nth; rw [hv]; rfl
    rw [nt]
    refine ⟨a, _, rfl, SqL.of (e2 _ _ ha), rfl, _, _, rfl, _, _, rfl, rfl, rfl, yes_at ?_⟩
    rcases hk with ⟨rfl, rfl⟩ | ⟨rfl, rfl⟩
    · exact ⟨_, rfl, hy _ _ rfl (Ex.refl _) (by rw [List.getElem?_eq_getElem hi]; rfl)⟩
    · exact ⟨_, rfl, hy _ _ rfl (Ex.refl _) (by rw [List.getElem?_eq_getElem hi]; rfl)⟩
  · intro A xs H' hA e hd f2
    rw [range_all] at f2
    refine fin A H' hA e ?_
    rw [hd, F2.map_eq f2]
    congr 2
    refine List.ext_getElem? fun i => ?_
    rw [List.getElem?_map, List.getElem?_map, List.getElem?_map]
    by_cases hi : i < rs.length
    · rw [List.getElem?_range hi, List.getElem?_eq_getElem hi]; simp [hi]
    · rw [List.getElem?_eq_none (by rw [List.length_range]; omega), List.getElem?_eq_none (by omega)]; rfl
theorem nest_at {K : PySem.W.Frag} {wi : TI} {H : Hp} {Q : VK} {sep : Str} {ws : List Str} {s0 s1 s2 s3 s4 s5 s6 s7 s8 s9 s10 s11 s12 : Option V} (hs : (sep.length == 0) = false) {k : Nat} (one : TL.tl sep = [k]) (k2 : k < 256) (few : ws.length ≤ 700) (ln : ∀ w ∈ ws, w.length ≤ 600)
    (hw : ∀ P : It → Hp → Prop, (∀ J H1, Ex H H1 → ItS J H1 ws.length (G.nth (ws.map V.str)) → P J H1) → wi [s0, s1, s2, s3, s4, s5, s6, s7, s8, s9, s10, s11, s12] H P)
    (fin : ∀ D ys H', H D = none → Ex H H' → H' D = some (.lst ys) → F2 (PL H' sep) ws ys → Q (.ref D) H') :
    tLc wi (gName 7) tYes (tLc (iList K (tM1 (fun x xs H Q => ∃ a b, x = V.str a ∧ xs = [V.str b] ∧ (b.length == 0) = false ∧ a.length + 2 ≤ sizeLine ∧ rNewStrs (Txt.split a b) H Q) (tVar 7) (tC (V.str sep)))) (gName 8) tYes
      (tCall (sp__law_number K) [] E0 (tCons (tVar 8) tNil)) [8]) [7] [s0, s1, s2, s3, s4, s5, s6, s7, s8, s9, s10, s11, s12] H Q := by
  have big : ∀ {k : Nat}, k ≤ 5000 → k ≤ sizeLine := fun {k} hk => by rw [sizeLine_eq]; omega
  refine lc_at (n := ws.length) (item := G.nth (ws.map V.str)) (fun _ => true) (fun i D y H' => ∃ a, y = .ref a ∧ a ≠ D ∧ H' a = some (.lst (numsOf sep (ws[i]?.getD Str.empty)))) (line_big (by omega)) hw (fun i D y H' o hD ⟨a, h1, h2, h3⟩ => ⟨a, h1, h2, by rw [upd_ne h2]; exact h3⟩) (fun i D y H' H'' e ⟨a, h1, h2, h3⟩ => ⟨a, h1, h2, e _ _ h3⟩) ?_ ?_
  · intro i D H2 hi hD e2 ⟨acc, hacc⟩ Ny Nn hy _
    obtain ⟨w, hwi⟩ : ∃ w, ws[i]? = some w := ⟨_, List.getElem?_eq_getElem hi⟩
    have wl := ln w (List.mem_of_getElem? hwi)
    have psl := TT.split_len one k2 w
    have psp := TT.split_part one k2 w
    rw [nth_map hwi]
    refine ⟨rfl, yes_at ?_⟩
    refine lc_at (n := (Txt.split w sep).length) (item := G.nth ((Txt.split w sep).map V.str)) (fun _ => true) (fun j D y H' => y = .int (num2I ((Txt.split w sep)[j]?.getD Str.empty))) (line_big (by omega)) (fun P q => ⟨_, rfl, ⟨_, rfl⟩, w, sep, rfl, rfl, hs, big (by omega), fun L hL => ⟨L, rfl, ⟨_, SqL.of upd_same⟩, q _ _ (Ex.new hL) (its_lm (SqL.of upd_same))⟩⟩) (fun _ _ _ _ _ _ h => h) (fun _ _ _ _ _ _ h => h) ?_ ?_
    · intro j D2 H3 hj hD2 e3 hacc2 My Mn hmy _
      obtain ⟨p, hp⟩ : ∃ p, (Txt.split w sep)[j]? = some p := ⟨_, List.getElem?_eq_getElem hj⟩
      have pl := psp p (List.mem_of_getElem? hp)
      rw [nth_map hp]
      refine ⟨rfl, ?_⟩
      refine ⟨_, rfl, _, rfl, p, rfl, by omega, fun H4 e4 => ?_⟩
      exact hmy _ _ rfl e4 (by rw [hp]; rfl)
    · intro D2 ys H3 hD2 e3 hd3 f3
      rw [range_all] at f3
      have ey := F2.map_eq f3
      have ey2 : ys = numsOf sep w := by
        rw [ey]
        unfold numsOf
        exact range_get (Txt.split w sep) fun p => V.int (num2I p)
      rw [ey2] at hd3
      exact hy _ _ rfl e3 ⟨D2, rfl, (ne_of_none hacc hD2).symm, by rw [hwi]; exact hd3⟩
  · intro D ys H' hD e hd f2
    rw [range_all] at f2
    refine fin D ys H' hD e hd (f2_list (f2.imp fun i y ⟨a, h1, _, h3⟩ => ⟨a, h1, h3⟩))
def sp__law_read (K : PySem.W.Frag) : Sp := sp1 fun a H Q E => ∃ z : Str, a = .str z ∧ z.length ≤ 600 ∧ ((¬ ∃ n rs ws, RdS z n rs ws) → ∀ H', Ex H H' → Q .non H') ∧ ∀ n rs ws w H', RdS z n rs ws → Ex H H' → World3 K H' w n rs ws → Q w H'
section
variable {K : PySem.W.Frag} {mg : Str → Option Value} {P : Program} {w : World} {base : Heap}
theorem ok__law_read (T : Tx K mg) : Cal P w K mg base CX0 3 "_law_read" ["_law_text_here"] (sp__law_read K) := by
  refine cal_of (fD__law_read T) (T.glo 47 rfl) sc__law_read (fun _ _ _ _ _ _ us hl => match us, hl with | [_], _ => rfl) (fun vs H Q E h => len1 h) (fun f cdv A outer s H vs Q E hr h => ?_)
  obtain ⟨a, rfl, h⟩ := h
  refine ⟨_, (PSs.nox (pss_cons (ps_set (i := 1) sc__law_read.nd rfl (Or.inl rfl) (pe_split (pv 0) pe_str))
      (pss_cons (ps_if (PW.pt (pw_or (pt_cmpR op_ne (pe_slice sl_str (pe_ix (ix_listK (K := K)) (pv 1) pe_int (fun _ _ => rfl)) (po_some (pe_un un_neg pe_int)) po_none) pe_str (nomark _)) (pw_or1 (pt_cmpR op_ne (pe_bm PySem.F.plainAttrs_list PySem.F.slot_list_count PySem.F.type_list_count (mt_scount (K := K)) (pv 1) (pa_cons pe_str pa_nil)) pe_int (nomark _))))) (pss_one (ps_ret pe_non)) pss_nil)
      (pss_cons (ps_asg (pe_tup (pa_cons (pe_bm PySem.F.plainAttrs_list PySem.F.slot_list_index PySem.F.type_list_index mt_index (pv 1) (pa_cons pe_str pa_nil)) (pa_cons (pe_c (ok__law_number T) (hr.mono (by decide)) rfl pass0 (pa_cons (pe_slice sl_str (pe_ix (ix_listK (K := K)) (pv 1) pe_int (fun _ _ => rfl)) po_none (po_some (pe_un un_neg pe_int))) pa_nil)) pa_nil))) (pg_tup (n := 2) rfl (pgs_cons (pg_name (i := 2) sc__law_read.nd rfl (Or.inl rfl)) (pgs_cons (pg_name (i := 3) sc__law_read.nd rfl (Or.inr rfl)) pgs_nil))))
      (pss_cons (ps_setLc (i := 4) (own := [("_law_word", 7)]) rfl sc__law_read.nd rfl rfl (sw_true rfl rfl rfl (by decide +kernel)) (pi_list (pe_slice (sl_listK (K := K)) (pv 1) (po_some pe_int) (po_some (pv 2)))) (blkOk_by (own := [("_law_word", 7)]) (N := ["_law_text_here", "_law_words", "_law_at", "_law_houses", "_law_roads", "_law_writes", "_law_pair", "_law_word", "_law_part", "_law_home", "_law_cell_here", "_law_u", "_law_v"]) (sc := defScope st__law_read) (by decide +kernel)) (fun _ _ _ _ _ => (pg_name (i := 7) sc__law_read.nd rfl (Or.inl rfl))) (fun _ _ _ _ _ => pts_nil) (fun _ _ _ _ _ => (pe_lc (own := [("_law_part", 8)]) rfl sc__law_read.nd (pi_listK (K := K) (pe_split (pv 7) pe_str)) (blkOk_by (own := [("_law_part", 8)]) (N := ["_law_text_here", "_law_words", "_law_at", "_law_houses", "_law_roads", "_law_writes", "_law_pair", "_law_word", "_law_part", "_law_home", "_law_cell_here", "_law_u", "_law_v"]) (sc := relS _ (defScope st__law_read)) (by decide +kernel)) (fun _ _ _ _ _ => (pg_name (i := 8) sc__law_read.nd rfl (Or.inl rfl))) (fun _ _ _ _ _ => pts_nil) (fun _ _ _ _ _ => (pe_c (ok__law_number T) (hr.mono (by decide)) rfl pass0 (pa_cons (pv 8) pa_nil))))))
      (pss_cons (ps_setLc (i := 5) (own := [("_law_word", 7)]) rfl sc__law_read.nd rfl rfl (sw_true rfl rfl rfl (by decide +kernel)) (pi_list (pe_slice (sl_listK (K := K)) (pv 1) (po_some (pe_op op_add (pv 2) pe_int)) po_none)) (blkOk_by (own := [("_law_word", 7)]) (N := ["_law_text_here", "_law_words", "_law_at", "_law_houses", "_law_roads", "_law_writes", "_law_pair", "_law_word", "_law_part", "_law_home", "_law_cell_here", "_law_u", "_law_v"]) (sc := defScope st__law_read) (by decide +kernel)) (fun _ _ _ _ _ => (pg_name (i := 7) sc__law_read.nd rfl (Or.inl rfl))) (fun _ _ _ _ _ => pts_nil) (fun _ _ _ _ _ => (pe_lc (own := [("_law_part", 8)]) rfl sc__law_read.nd (pi_listK (K := K) (pe_split (pv 7) pe_str)) (blkOk_by (own := [("_law_part", 8)]) (N := ["_law_text_here", "_law_words", "_law_at", "_law_houses", "_law_roads", "_law_writes", "_law_pair", "_law_word", "_law_part", "_law_home", "_law_cell_here", "_law_u", "_law_v"]) (sc := relS _ (defScope st__law_read)) (by decide +kernel)) (fun _ _ _ _ _ => (pg_name (i := 8) sc__law_read.nd rfl (Or.inl rfl))) (fun _ _ _ _ _ => pts_nil) (fun _ _ _ _ _ => (pe_c (ok__law_number T) (hr.mono (by decide)) rfl pass0 (pa_cons (pv 8) pa_nil))))))
      (pss_cons (ps_for PassesOwn.never rfl (pi_list (pe_op op_cat (pv 4) (pv 5))) (pg_name (i := 6) sc__law_read.nd rfl (Or.inl rfl)) (pss_one (ps_if (PW.pt (pw_or (pt_cmpR op_ne (pe_callB (call_lenK (K := K)) (by rfl) (T.free 7 rfl) (by decide +kernel) (pa_cons (pv 6) pa_nil)) pe_int (nomark _)) (pw_or1 (pt_cmpR (op_inK (K := K)) (pe_un un_neg pe_int) (pv 6) (by with_unfolding_all rfl))))) (pss_one (ps_ret pe_non)) pss_nil)))
      (pss_cons (ps_if (PW.pt (pw_or (pt_not (pt_chain op_le op_le pe_int (pv 3) pe_int)) (pw_or (pt_cmpR op_gt (pe_callB (call_lenK (K := K)) (by rfl) (T.free 7 rfl) (by decide +kernel) (pa_cons (pv 5) pa_nil)) pe_int (nomark _)) (pw_or1 (pt_not (pt_val (pe_c (ok__law_is_tree T) (hr.mono (by decide)) rfl pass0 (pa_cons (pv 3) (pa_cons (pe_lc (own := [("_law_u", 11), ("_law_v", 12)]) rfl sc__law_read.nd (pi_list (pv 4)) (blkOk_by (own := [("_law_u", 11), ("_law_v", 12)]) (N := ["_law_text_here", "_law_words", "_law_at", "_law_houses", "_law_roads", "_law_writes", "_law_pair", "_law_word", "_law_part", "_law_home", "_law_cell_here", "_law_u", "_law_v"]) (sc := defScope st__law_read) (by decide +kernel)) (fun _ _ _ _ _ => (pg_lstK (K := K) (n := 2) rfl (pgs_cons (pg_name (i := 11) sc__law_read.nd rfl (Or.inl rfl) (.inr rfl)) (pgs_cons (pg_name (i := 12) sc__law_read.nd rfl (Or.inl rfl) (.inr rfl)) pgs_nil)))) (fun _ _ _ _ _ => pts_nil) (fun _ _ _ _ _ => (pe_tup (pa_cons (pv 11) (pa_cons (pv 12) pa_nil))))) pa_nil))))))))) (pss_one (ps_ret pe_non)) pss_nil)
      (pss_cons (ps_if (pt_cmpR (op_neNil (K := K) (hu0 hr.r)) (pe_lc (own := [("_law_home", 9), ("_law_cell_here", 10)]) rfl sc__law_read.nd (pi_list (pv 5)) (blkOk_by (own := [("_law_home", 9), ("_law_cell_here", 10)]) (N := ["_law_text_here", "_law_words", "_law_at", "_law_houses", "_law_roads", "_law_writes", "_law_pair", "_law_word", "_law_part", "_law_home", "_law_cell_here", "_law_u", "_law_v"]) (sc := defScope st__law_read) (by decide +kernel)) (fun _ _ _ _ _ => (pg_lstK (K := K) (n := 2) rfl (pgs_cons (pg_name (i := 9) sc__law_read.nd rfl (Or.inl rfl) (.inr rfl)) (pgs_cons (pg_name (i := 10) sc__law_read.nd rfl (Or.inl rfl) (.inr rfl)) pgs_nil)))) (fun _ _ _ _ _ => (pts_one (PW.pt (pw_or (pt_cmpR op_ge (pv 9) (pv 3) (nomark _)) (pw_or1 (pt_cmpR op_gt (pv 10) pe_int (nomark _))))))) (fun _ _ _ _ _ => pe_int)) (pe_lst pa_nil) (nomark _)) (pss_one (ps_ret pe_non)) pss_nil)
      (pss_one (ps_ret (pe_lst (pa_cons (pv 3) (pa_cons (pe_lc (own := [("_law_u", 11), ("_law_v", 12)]) rfl sc__law_read.nd (pi_list (pv 4)) (blkOk_by (own := [("_law_u", 11), ("_law_v", 12)]) (N := ["_law_text_here", "_law_words", "_law_at", "_law_houses", "_law_roads", "_law_writes", "_law_pair", "_law_word", "_law_part", "_law_home", "_law_cell_here", "_law_u", "_law_v"]) (sc := defScope st__law_read) (by decide +kernel)) (fun _ _ _ _ _ => (pg_lstK (K := K) (n := 2) rfl (pgs_cons (pg_name (i := 11) sc__law_read.nd rfl (Or.inl rfl) (.inr rfl)) (pgs_cons (pg_name (i := 12) sc__law_read.nd rfl (Or.inl rfl) (.inr rfl)) pgs_nil)))) (fun _ _ _ _ _ => pts_nil) (fun _ _ _ _ _ => (pe_tup (pa_cons (pv 11) (pa_cons (pv 12) pa_nil))))) (pa_cons (pe_lc (own := [("_law_home", 9), ("_law_cell_here", 10)]) rfl sc__law_read.nd (pi_list (pv 5)) (blkOk_by (own := [("_law_home", 9), ("_law_cell_here", 10)]) (N := ["_law_text_here", "_law_words", "_law_at", "_law_houses", "_law_roads", "_law_writes", "_law_pair", "_law_word", "_law_part", "_law_home", "_law_cell_here", "_law_u", "_law_v"]) (sc := defScope st__law_read) (by decide +kernel)) (fun _ _ _ _ _ => (pg_lstK (K := K) (n := 2) rfl (pgs_cons (pg_name (i := 9) sc__law_read.nd rfl (Or.inl rfl) (.inr rfl)) (pgs_cons (pg_name (i := 10) sc__law_read.nd rfl (Or.inl rfl) (.inr rfl)) pgs_nil)))) (fun _ _ _ _ _ => pts_nil) (fun _ _ _ _ _ => (pv 9))) (pa_cons (pe_lc (own := [("_law_home", 9), ("_law_cell_here", 10)]) rfl sc__law_read.nd (pi_list (pv 5)) (blkOk_by (own := [("_law_home", 9), ("_law_cell_here", 10)]) (N := ["_law_text_here", "_law_words", "_law_at", "_law_houses", "_law_roads", "_law_writes", "_law_pair", "_law_word", "_law_part", "_law_home", "_law_cell_here", "_law_u", "_law_v"]) (sc := defScope st__law_read) (by decide +kernel)) (fun _ _ _ _ _ => (pg_lstK (K := K) (n := 2) rfl (pgs_cons (pg_name (i := 9) sc__law_read.nd rfl (Or.inl rfl) (.inr rfl)) (pgs_cons (pg_name (i := 10) sc__law_read.nd rfl (Or.inl rfl) (.inr rfl)) pgs_nil)))) (fun _ _ _ _ _ => pts_nil) (fun _ _ _ _ _ => (pv 10))) pa_nil)))))))))))))))), ?_⟩
  obtain ⟨z, rfl, zl, q1, q2⟩ := h
  have sl := TT.split_len TT.tl_blank (by decide) z
  have sn := TT.split_ne TT.tl_blank (by decide) z
  have sp := TT.split_part TT.tl_blank (by decide) z
  obtain ⟨f, us, es⟩ : ∃ f us, Txt.split z " " = f :: us := by
    cases e : Txt.split z " " with
    | nil => exact absurd e sn
    | cons f us => exact ⟨f, us, rfl⟩
  rw [es] at sl sp
  rw [List.length_cons] at sl
  have fl : f.length ≤ 600 := Nat.le_trans (sp f List.mem_cons_self) zl
  have nope : (∀ n rs ws, RdS z n rs ws → False) → ∀ {H'}, Ex H H' → Q .non H' := fun h H' e => q1 (fun ⟨n, rs, ws, R⟩ => h n rs ws R) H' e
  have big : ∀ {k : Nat}, k ≤ 5000 → k ≤ sizeLine := fun {k} hk => by rw [sizeLine_eq]; omega
  refine seq_at (asg_at ?_)
  refine ⟨_, rfl, ⟨_, rfl⟩, z, Str.ofString " ", rfl, rfl, rfl, big (by omega), fun W hW => ?_⟩
  rw [es]
  have e1 := Ex.new (o := .lst ((f :: us).map V.str)) hW
  have hW1 := upd_same (H := H) (a := W) (o := .lst ((f :: us).map V.str))
  dsimp only [gName]
  generalize upd H W (.lst ((f :: us).map V.str)) = H1 at e1 hW1 ⊢
  refine seq_at (ifs_at (or_at ?_))
  refine ⟨_, rfl, W, _, 0, .str f, rfl, rfl, SqL.of hW1, atI_nat (j := 0) rfl, 1, rfl, -1, rfl, f, rfl, big (by omega), rfl, _, rfl, ?_⟩
  rw [colon_end]
  by_cases c : (TL.tl f).getLast? = some 58
  rotate_left
  · rw [decide_eq_false c]
    refine iteT (iteT (ret_at ?_))
    refine nope (fun n rs ws r => ?_) e1
    obtain ⟨f', R', S', e', _, _, _, L⟩ := r.words
    rw [es] at e'
    obtain ⟨rfl, _⟩ := List.cons.inj e'
    have y := L.f
    unfold first2 at y
    rw [if_neg c] at y
    cases y
  rw [decide_eq_true c]
  refine iteF (test_at ?_)
  refine ⟨_, rfl, .inl ⟨rfl, _, SqL.of hW1⟩, W, f :: us, Str.ofString "/", rfl, rfl, SqL.of hW1, rfl, _, rfl, ?_⟩
  have fs : f ≠ Str.ofString "/" := no_slash (c := 58) (by
    have ne : TL.tl f ≠ [] := fun e => by rw [e] at c; cases c
    exact List.mem_of_getLast? c) (by decide)
  rw [List.count_cons_of_ne fs]
  by_cases c1 : us.count (Str.ofString "/") = 1
  rotate_left
  · rw [show decide (V.int ((us.count (Str.ofString "/") : Nat) : Int) = V.int 1) = false from (int_eqb _ 1).trans (decide_eq_false c1)]
    refine iteT (ret_at ?_)
    refine nope (fun n rs ws r => ?_) e1
    obtain ⟨f', R', S', e', _, nr, ns, L⟩ := r.words
    rw [es] at e'
    obtain ⟨_, rfl⟩ := List.cons.inj e'
    refine c1 ?_
    rw [List.count_append, List.count_cons_self, List.count_eq_zero.mpr nr, List.count_eq_zero.mpr ns]
  rw [show decide (V.int ((us.count (Str.ofString "/") : Nat) : Int) = V.int 1) = true from (int_eqb _ 1).trans (decide_eq_true c1)]
  refine iteF ?_
  dsimp only [tNext]
  obtain ⟨R, S, rfl, nr, ns⟩ := count_one c1
  have ll : R.length + S.length ≤ 600 := by rw [List.length_append, List.length_cons] at sl; omega
  have only : ∀ n rs ws, RdS z n rs ws → Ln z f R S n rs ws := fun n rs ws r => r.ln es nr
  have Rl : ∀ w ∈ R, w.length ≤ 600 := fun w hw => Nat.le_trans (sp w (by simp [hw])) zl
  have Sl : ∀ w ∈ S, w.length ≤ 600 := fun w hw => Nat.le_trans (sp w (by simp [hw])) zl
  refine seq_at (asg_at ?_)
  refine ⟨_, rfl, .inl ⟨rfl, _, SqL.of hW1⟩, W, _, .str (Str.ofString "/"), R.length + 1, .str (Str.ofString "/"), rfl, rfl, SqL.of hW1, rfl, ?_, ?_, ?_, ?_, ?_⟩
  · rw [List.all_map, List.all_eq_true]; exact fun _ _ => rfl
  · rw [List.getElem?_map]; simp
  · exact beq_self_eq_true (Str.ofString "/")
  · intro m z' hm hz
    rw [List.getElem?_map] at hz
    obtain ⟨w, hw, rfl⟩ := Option.map_eq_some_iff.mp hz
    have wm : w = f ∨ w ∈ R := by
      cases m with
      | zero => simp at hw; exact .inl hw.symm
      | succ m =>
        rw [List.getElem?_cons_succ, List.getElem?_append_left (by omega)] at hw
        exact .inr (List.mem_of_getElem? hw)
    show (w == Str.ofString "/") = false
    rw [beq_eq_false_iff_ne]
    rcases wm with rfl | wm
    · exact fs
    · exact fun q => nr (q ▸ wm)
  refine ⟨_, rfl, W, _, 0, .str f, rfl, rfl, SqL.of hW1, atI_nat (j := 0) rfl, 1, rfl, -1, rfl, f, rfl, big (by omega), _, rfl, _, rfl, Nat.le_trans (cutS_length f none (some (-1))) (by omega), fun H2 e2 => ⟨(by show 2 ≤ sizeLine; decide), fun t ht => ⟨t, _, rfl, SqT.of upd_same, rfl, _, _, rfl, _, _, rfl, rfl, ?_⟩⟩⟩
  have e3 := e2.trans (Ex.new (o := .tup [V.int ((R.length + 1 : Nat) : Int), .int (num2I (cutS f none (some (-1))))]) ht)
  dsimp only
  generalize upd H2 t (.tup [V.int ((R.length + 1 : Nat) : Int), .int (num2I (cutS f none (some (-1))))]) = H3 at e3 ⊢
  have hW3 := e3 _ _ hW1
  refine seq_at (asg_at ?_)
  have at1 : cutV ((f :: (R ++ Str.ofString "/" :: S)).map V.str) (some 1) (some ((R.length + 1 : Nat) : Int)) = R.map V.str := by
    unfold cutV
    have s1 := HT.sIx_nat ((f :: (R ++ Str.ofString "/" :: S)).map V.str).length 0 1
    rw [show (some ((1 : Nat) : Int)) = (some (1 : Int)) from rfl] at s1
    rw [s1, HT.sIx_nat, List.length_map, List.length_cons, List.length_append, List.length_cons, Nat.min_eq_left (by omega), Nat.min_eq_left (by omega), List.map_cons, List.drop_succ_cons, List.drop_zero, List.map_append, Nat.add_sub_cancel]
    exact List.take_left' (List.length_map ..)
  have at2 : cutV ((f :: (R ++ Str.ofString "/" :: S)).map V.str) (some (((R.length + 1 : Nat) : Int) + 1)) none = S.map V.str := by
    have z := cut_drop V.str (f :: (R ++ Str.ofString "/" :: S)) (R.length + 1 + 1)
    rw [show (((R.length + 1 + 1 : Nat) : Int)) = ((R.length + 1 : Nat) : Int) + 1 from rfl] at z
    rw [z, List.drop_succ_cons, List.drop_append, List.drop_eq_nil_of_le (by omega), List.nil_append, Nat.add_sub_cancel_left, List.drop_succ_cons, List.drop_zero]
  refine nest_at (K := K) (sep := Str.ofString "-") (ws := R) rfl TT.tl_dash (by decide) (by omega) Rl (fun P q => ⟨_, rfl, 1, rfl, _, rfl, _, rfl, W, _, rfl, SqL.of hW3, fun L hL => ⟨L, rfl, ⟨_, SqL.of upd_same⟩, q _ _ (Ex.new hL) (by rw [at1]; exact its_lm (SqL.of upd_same))⟩⟩) fun D4 ys4 H4 hD4 e4 hd4 f4 => ?_
  dsimp only [gName]
  refine seq_at (asg_at ?_)
  have hW4 := e4 _ _ hW3
  refine nest_at (K := K) (sep := Str.ofString ".") (ws := S) rfl TT.tl_dot (by decide) (by omega) Sl (fun P q => ⟨_, rfl, _, rfl, _, _, rfl, rfl, _, rfl, W, _, rfl, SqL.of hW4, fun L hL => ⟨L, rfl, ⟨_, SqL.of upd_same⟩, q _ _ (Ex.new hL) (by rw [at2]; exact its_lm (SqL.of upd_same))⟩⟩) fun D5 ys5 H5 hD5 e5 hd5 f5 => ?_
  dsimp only [gName]
  replace f4 := f4.imp fun _ _ z => PL.mono e5 z
  replace hd4 := e5 _ _ hd4
  have e05 := e1.trans (e3.trans (e4.trans e5))
  have l4 : ys4.length = R.length := f4.length.symm
  have l5 : ys5.length = S.length := f5.length.symm
  refine seq_at ?_
  refine ⟨_, rfl, _, rfl, D4, D5, ys4, ys5, rfl, rfl, hd4, hd5, big (by omega), fun L hL => ⟨L, rfl, ⟨_, SqL.of upd_same⟩, ?_⟩⟩
  have eL := Ex.new (o := .lst (ys4 ++ ys5)) hL
  have gL := upd_same (H := H5) (a := L) (o := .lst (ys4 ++ ys5))
  replace f4 := f4.imp fun _ _ z => PL.mono eL z
  replace f5 := f5.imp fun _ _ z => PL.mono eL z
  replace hd4 := eL _ _ hd4
  replace hd5 := eL _ _ hd5
  replace e05 := e05.trans eL
  generalize upd H5 L (.lst (ys4 ++ ys5)) = H6 at gL f4 f5 hd4 hd5 e05 ⊢
  obtain ⟨U, eU⟩ : ∃ U, U = R.map (fun w => (w, Str.ofString "-")) ++ S.map (fun w => (w, Str.ofString ".")) := ⟨_, rfl⟩
  have fU : F2 (fun (u : Str × Str) y => PL H6 u.2 u.1 y) U (ys4 ++ ys5) := by
    rw [eU]; exact f2_app (f2_map f4) (f2_map f5)
  have lU : (ys4 ++ ys5).length = U.length := fU.length.symm
  have bad : ∀ u ∈ U, rdW u.2 u.1 = none → ∀ n rs ws, RdS z n rs ws → False := fun u hu e n rs ws r => by
    have L := only n rs ws r
    rw [eU] at hu
    have gen : ∀ {sep : Str} {R : List Str} {rs : List (Nat × Nat)} {w : Str}, w ∈ R → R.map (rdW sep) = rs.map some → rdW sep w ≠ none := fun {sep R rs w} m e q => by
      have z : (none : Option (Nat × Nat)) ∈ R.map (rdW sep) := List.mem_map.mpr ⟨w, m, q⟩
      rw [e] at z
      obtain ⟨_, _, y⟩ := List.mem_map.mp z
      cases y
    rcases (List.mem_append.mp hu) with hu | hu
    · obtain ⟨w, hw, rfl⟩ := List.mem_map.mp hu
      exact gen hw L.r e
    · obtain ⟨w, hw, rfl⟩ := List.mem_map.mp hu
      exact gen hw L.s e
  refine for_gen (its_l (SqL.of gL)) (fun i σ' H' => (∃ s6, σ' = [some (.str z), some (.ref W), some (.int ((R.length + 1 : Nat) : Int)), some (.int (num2I (cutS f none (some (-1))))), some (.ref D4), some (.ref D5), s6, none, none, none, none, none, none]) ∧ Ex H6 H' ∧ ∀ j u, j < i → U[j]? = some u → ∃ p, rdW u.2 u.1 = some p) ?_ (fun i σ' H' z => z.2.1) ?_ ?_
  · exact ⟨⟨_, rfl⟩, Ex.refl _, fun j u hj => absurd hj (Nat.not_lt_zero _)⟩
  · rintro i σ' H7 hi ⟨⟨s6, rfl⟩, e7, done⟩
    rw [lU] at hi
    obtain ⟨u, hu⟩ : ∃ u, U[i]? = some u := ⟨_, List.getElem?_eq_getElem hi⟩
    obtain ⟨y, hy, a, rfl, ha⟩ := F2.get fU hu
    have um := List.mem_of_getElem? hu
    have nt : G.nth (ys4 ++ ys5) i = .ref a := by unfold G.nth; rw [hy]; rfl
    rw [nt]
    have ha7 := e7 _ _ ha
    dsimp only [gName]
    have stop : rdW u.2 u.1 = none → Q .non H7 := fun e => nope (bad u um e) (e05.trans e7)
    refine ifs_at (or_at ⟨_, rfl, a, _, rfl, .inl (SqL.of ha7), rfl, _, rfl, ?_⟩)
    have ln : (numsOf u.2 u.1).length = (Txt.split u.1 u.2).length := by unfold numsOf; rw [List.length_map]
    rw [ln]
    by_cases c2 : (Txt.split u.1 u.2).length = 2
    rotate_left
    · rw [show decide (V.int ((Txt.split u.1 u.2).length : Int) = V.int 2) = false from (int_eqb _ 2).trans (decide_eq_false c2)]
      refine iteT (iteT (ret_at ?_))
      refine stop ?_
      cases e : rdW u.2 u.1 with
      | none => rfl
      | some p =>
        obtain ⟨p0, p1, e', _⟩ := rdW_two (a := p.1) (b := p.2) e
        rw [e'] at c2
        exact absurd rfl c2
    rw [show decide (V.int ((Txt.split u.1 u.2).length : Int) = V.int 2) = true from (int_eqb _ 2).trans (decide_eq_true c2)]
    obtain ⟨p0, p1, e2'⟩ := two_of c2
    have nm : numsOf u.2 u.1 = [.int (num2I p0), .int (num2I p1)] := by unfold numsOf; rw [e2']; rfl
    rw [nm] at ha7
    refine iteF (test_at ⟨_, rfl, _, rfl, a, _, rfl, .inl (SqL.of ha7), rfl, rfl, _, rfl, ?_⟩)
    show if inV (V.int (-1)) [V.int (num2I p0), V.int (num2I p1)] = true then _ else _
    have inq : inV (V.int (-1)) [V.int (num2I p0), V.int (num2I p1)] = (decide (num2I p0 = -1) || decide (num2I p1 = -1)) := by
      show ((num2I p0 == (-1 : Int)) || ((num2I p1 == (-1 : Int)) || false)) = _
      rw [Bool.eq_iff_iff]
      simp only [Bool.or_eq_true, beq_iff_eq, decide_eq_true_eq, Bool.or_false]
    rw [inq]
    cases n0 : num2 p0 with
    | none =>
      rw [num2I_none n0]
      refine iteT (ret_at ?_)
      refine stop ?_
      cases e : rdW u.2 u.1 with
      | none => rfl
      | some p =>
        obtain ⟨q0, q1, e', h1, _⟩ := rdW_two (a := p.1) (b := p.2) e
        rw [e2'] at e'
        cases e'
        rw [n0] at h1; cases h1
    | some a0 =>
      cases n1 : num2 p1 with
      | none =>
        rw [num2I_none n1, show (decide (num2I p0 = -1) || decide ((-1 : Int) = -1)) = true by simp]
        refine iteT (ret_at ?_)
        refine stop ?_
        cases e : rdW u.2 u.1 with
        | none => rfl
        | some p =>
          obtain ⟨q0, q1, e', _, h1⟩ := rdW_two (a := p.1) (b := p.2) e
          rw [e2'] at e'
          cases e'
          rw [n1] at h1; cases h1
      | some a1 =>
        rw [num2I_some n0, num2I_some n1, decide_eq_false (by omega), decide_eq_false (by omega)]
        refine iteF ?_
        refine ⟨⟨_, rfl⟩, e7, fun j v hj hv => ?_⟩
        by_cases jl : j < i
        · exact done j v jl hv
        · obtain rfl : j = i := by omega
          rw [hu] at hv
          cases hv
          exact ⟨_, rdW_of2 e2' n0 n1⟩
  rintro σ' H7 ⟨⟨s6, rfl⟩, e7, done⟩
  rw [lU] at done
  have all : ∀ u ∈ U, ∃ p, rdW u.2 u.1 = some p := fun u hu => by
    obtain ⟨j, hj, e⟩ := List.getElem_of_mem hu
    exact done j u hj (by rw [List.getElem?_eq_getElem hj, e])
  obtain ⟨rs, hr⟩ := all_some (g := rdW (Str.ofString "-")) (l := R) fun w hw => all (w, _) (by rw [eU]; exact List.mem_append_left _ (List.mem_map.mpr ⟨w, hw, rfl⟩))
  obtain ⟨ws, hs⟩ := all_some (g := rdW (Str.ofString ".")) (l := S) fun w hw => all (w, _) (by rw [eU]; exact List.mem_append_right _ (List.mem_map.mpr ⟨w, hw, rfl⟩))
  have lr : rs.length = R.length := by have := congrArg List.length hr; simpa using this.symm
  have lw : ws.length = S.length := by have := congrArg List.length hs; simpa using this.symm
  replace f4 := f4.imp fun _ _ z => PL.mono e7 z
  replace f5 := f5.imp fun _ _ z => PL.mono e7 z
  replace hd4 := e7 _ _ hd4
  replace hd5 := e7 _ _ hd5
  replace e05 := e05.trans e7
  clear gL eL e7
  have same : ∀ n rs' ws', RdS z n rs' ws' → first2 f = some n ∧ rs' = rs ∧ ws' = ws ∧ WorldT n rs ∧ ws.length ≤ 12 ∧ ∀ p ∈ ws, p.1 < n ∧ p.2 < 6 := fun n rs' ws' r => by
    have L := only n rs' ws' r
    obtain rfl : rs' = rs := TT.map_some_inj (L.r.symm.trans hr)
    obtain rfl : ws' = ws := TT.map_some_inj (L.s.symm.trans hs)
    exact ⟨L.f, rfl, rfl, L.t, L.few, L.lt⟩
  have hI : ∀ n : Nat, first2 f = some n ↔ num2I (cutS f none (some (-1))) = (n : Int) := fun n => by
    unfold first2
    rw [if_pos c]
    unfold num2I
    cases num2 (cutS f none (some (-1))) with
    | none => exact ⟨fun z => (nomatch z), fun z => by
        have z' : (-1 : Int) = (n : Int) := z
        omega⟩
    | some k =>
      show some k = some n ↔ (k : Int) = (n : Int)
      rw [Option.some.injEq]; omega
  generalize num2I (cutS f none (some (-1))) = hv at hI ⊢
  dsimp only
  have g4 := f2_two f4 hr
  have g5 := f2_two f5 hs
  have lr7 : rs.length ≤ 700 := by omega
  have lw7 : ws.length ≤ 700 := by omega
  have r100 : ∀ p ∈ rs, p.1 < 128 ∧ p.2 < 128 := fun p hp => by
    have z : some p ∈ R.map (rdW (Str.ofString "-")) := by rw [hr]; exact List.mem_map.mpr ⟨p, hp, rfl⟩
    obtain ⟨w, _, e⟩ := List.mem_map.mp z
    have := (rdW_back (a := p.1) (b := p.2) TT.tl_dash (by decide) e).2
    omega
  have stop : ∀ {H' : Hp}, (∀ n : Nat, hv = (n : Int) → WorldT n rs → ws.length ≤ 12 → (∀ p ∈ ws, p.1 < n ∧ p.2 < 6) → False) → Ex H7 H' → Q .non H' := fun h e => nope (fun n rs' ws' r => by
    obtain ⟨a, _, _, b, c', d⟩ := same n rs' ws' r
    exact h n ((hI n).mp a) b c' d) (e05.trans e)
  refine seq_at (ifs_at (or_at (not_at ?_)))
  refine ⟨_, rfl, _, _, rfl, rfl, _, rfl, ?_⟩
  by_cases v1 : (1 : Int) ≤ hv
  rotate_left
  · rw [decide_eq_false v1]
    refine iteF ⟨_, rfl, iteT (iteT (ret_at ?_))⟩
    exact stop (fun n e w _ _ => by have := w.n1; omega) (Ex.refl _)
  rw [decide_eq_true v1]
  refine iteT ⟨_, _, rfl, rfl, _, rfl, ?_⟩
  by_cases v2 : hv ≤ 16
  rotate_left
  · rw [decide_eq_false v2]
    refine iteT (iteT (ret_at ?_))
    exact stop (fun n e w _ _ => by have := w.n16; omega) (Ex.refl _)
  rw [decide_eq_true v2]
  obtain ⟨n, rfl⟩ : ∃ n : Nat, hv = n := ⟨hv.toNat, by omega⟩
  have n1 : 1 ≤ n := by omega
  have n16 : n ≤ 16 := by omega
  refine iteF (or_at ⟨_, rfl, D5, _, rfl, .inl (SqL.of hd5), _, _, rfl, rfl, _, rfl, ?_⟩)
  rw [show ys5.length = ws.length by omega]
  by_cases v3 : (12 : Int) < (ws.length : Int)
  · rw [decide_eq_true v3]
    refine iteT (iteT (ret_at ?_))
    exact stop (fun _ _ _ l _ => by omega) (Ex.refl _)
  rw [decide_eq_false v3]
  refine iteF (not_at (b_at ⟨_, rfl, cons_at (pairs_at hd4 g4 lr7 fun A xs H8 hA8 e8 hA tp => ?_)⟩))
  refine ⟨_, _, rfl, n, rs, A, xs, rfl, n1, n16, rfl, hA, tp, r100, lr7, fun b H9 e9 ib => ⟨_, rfl, ?_⟩⟩
  have e79 := e8.trans e9
  cases b with
  | false =>
    refine iteT (ret_at ?_)
    refine stop (fun m e w _ _ => ?_) e79
    obtain rfl : n = m := by have z : (n : Int) = (m : Int) := e; omega
    have y := ib.mpr ⟨by have := w.rl; omega, w.sub.1, w.up, w.jn⟩
    cases y
  | true =>
  refine iteF ?_
  dsimp only [tNext]
  obtain ⟨rl, sub, up, jn⟩ := ib.mp rfl
  have wt : WorldT n rs := ⟨n1, n16, by omega, ⟨sub, up.imp fun {p q} z e => by rw [e] at z; exact ltP_irr q z⟩, up, jn⟩
  have g5' := g5.imp fun (p : Nat × Nat) (y : V) (⟨a, h1, h2⟩ : ∃ a, y = V.ref a ∧ H7 a = some (HO.lst [iV p.1, iV p.2])) => (⟨a, h1, e79 _ _ h2⟩ : ∃ a, y = V.ref a ∧ H9 a = some (HO.lst [iV p.1, iV p.2]))
  have hd5' := e79 _ _ hd5
  have ln5 : ys5.length = ws.length := by omega
  refine seq_at (ifs_at (test_at ?_))
  refine lc_at (n := ws.length) (item := G.nth ys5) (fun i => decide (n ≤ (ws[i]?.getD (0, 0)).1) || decide (5 < (ws[i]?.getD (0, 0)).2)) (fun i D y H' => True) (line_big (by omega)) (fun P q => ⟨_, rfl, D5, rfl, ⟨_, SqL.of hd5'⟩, q _ _ (Ex.refl _) (ln5 ▸ its_l (SqL.of hd5'))⟩) (fun _ _ _ _ _ _ h => h) (fun _ _ _ _ _ _ h => h) ?_ ?_
  · intro i D H2 hi hD e2 hacc Ny Nn hy hn
    obtain ⟨v, hv, a, rfl, ha⟩ := F2.get g5' (i := i) (List.getElem?_eq_getElem hi)
    have nt : G.nth ys5 i = .ref a := by unfold G.nth; rw [hv]; rfl
    rw [nt]
    rw [List.getElem?_eq_getElem hi] at hy hn
    refine ⟨a, _, rfl, SqL.of (e2 _ _ ha), rfl, _, _, rfl, _, _, rfl, rfl, rfl, ?_⟩
    refine or_at ⟨_, rfl, _, rfl, _, _, rfl, rfl, _, rfl, ?_⟩
    rw [show decide ((n : Int) ≤ (ws[i].1 : Int)) = decide (n ≤ ws[i].1) by rw [Bool.eq_iff_iff, decide_eq_true_eq, decide_eq_true_eq]; omega]
    by_cases c3 : n ≤ ws[i].1
    · rw [decide_eq_true c3]
      refine iteT (iteT ?_)
      exact hy _ _ (by show (decide (n ≤ ws[i].1) || _) = true; rw [decide_eq_true c3]; rfl) (Ex.refl _) trivial
    rw [decide_eq_false c3]
    refine iteF ⟨_, rfl, _, _, rfl, rfl, _, rfl, ?_⟩
    rw [show decide ((5 : Int) < (ws[i].2 : Int)) = decide (5 < ws[i].2) by rw [Bool.eq_iff_iff, decide_eq_true_eq, decide_eq_true_eq]; omega]
    by_cases c4 : 5 < ws[i].2
    · rw [decide_eq_true c4]
      refine iteT ?_
      exact hy _ _ (by show (_ || decide (5 < ws[i].2)) = true; rw [decide_eq_true c4, Bool.or_true]) (Ex.refl _) trivial
    rw [decide_eq_false c4]
    refine iteF ?_
    exact hn _ (by show (decide (n ≤ ws[i].1) || decide (5 < ws[i].2)) = false; rw [decide_eq_false c3, decide_eq_false c4]; rfl) (Ex.refl _)
  intro D ys H2 hD e2 hd2 f2
  refine ⟨Nat.zero_le _, fun d hd => ?_⟩
  have ed := Ex.new (o := .lst []) hd
  refine ⟨D, ys, d, rfl, rfl, SqL.of (ed _ _ hd2), SqL.of upd_same, _, rfl, ?_⟩
  have e73 := e79.trans (e2.trans ed)
  generalize upd H2 d (.lst []) = H3' at e73 ⊢
  have yl := f2.length
  by_cases al : ∀ p ∈ ws, p.1 < n ∧ p.2 < 6
  rotate_left
  · have ne : ys.isEmpty = false := by
      cases ys with
      | cons => rfl
      | nil =>
        exfalso
        have em := List.filter_eq_nil_iff.mp (List.length_eq_zero_iff.mp yl)
        refine al fun x hx => ?_
        obtain ⟨i, hi, ei⟩ := List.getElem_of_mem hx
        have z := em i (List.mem_range.mpr hi)
        rw [List.getElem?_eq_getElem hi, ei] at z
        simp at z
        omega
    rw [ne]
    refine iteT (ret_at ?_)
    refine stop (fun m e _ _ l => al ?_) e73
    obtain rfl : n = m := by have z : (n : Int) = (m : Int) := e; omega
    exact l
  have em : ys.isEmpty = true := by
    have z : (List.range ws.length).filter (fun i => decide (n ≤ (ws[i]?.getD (0, 0)).1) || decide (5 < (ws[i]?.getD (0, 0)).2)) = [] := by
      refine List.filter_eq_nil_iff.mpr fun i hi => ?_
      have hi := List.mem_range.mp hi
      have z := al _ (List.getElem_mem hi)
      rw [List.getElem?_eq_getElem hi]
      simp
      omega
    rw [z] at yl
    rw [List.length_eq_zero_iff.mp yl.symm]; rfl
  rw [em]
  refine iteF ?_
  dsimp only [tNext]
  have mv : ∀ {H' : Hp} {rs : List (Nat × Nat)} {ys : List V}, Ex H7 H' → F2 (fun (p : Nat × Nat) y => ∃ a, y = .ref a ∧ H7 a = some (.lst [iV p.1, iV p.2])) rs ys → F2 (fun (p : Nat × Nat) y => ∃ a, y = .ref a ∧ H' a = some (.lst [iV p.1, iV p.2])) rs ys := fun e f => f.imp fun p y ⟨a, h1, h2⟩ => ⟨a, h1, e _ _ h2⟩
  refine ret_at ?_
  refine ⟨_, rfl, cons_at (pairs_at (e73 _ _ hd4) (mv e73 g4) lr7 fun A1 x1 J1 hA1 k1 hx1 tp1 => ?_)⟩
  have z1 := e73.trans k1
  refine cons_at (part_at (g := Prod.fst) (.inl ⟨rfl, rfl⟩) (z1 _ _ hd5) (mv z1 g5) lw7 fun A2 J2 hA2 k2 hx2 => ?_)
  have z2 := z1.trans k2
  refine cons_at (part_at (g := Prod.snd) (.inr ⟨rfl, rfl⟩) (z2 _ _ hd5) (mv z2 g5) lw7 fun A3 J3 hA3 k3 hx3 => ⟨(by show 4 ≤ sizeLine; decide), fun w hw => ?_⟩)
  have kw := Ex.new (o := .lst [iV n, .ref A1, .ref A2, .ref A3]) hw
  have L : Ln z f R S n rs ws := ⟨(hI n).mpr rfl, hr, hs, wt, by omega, al⟩
  refine q2 n rs ws (.ref w) _ (L.rds es) (e05.trans (z2.trans (k3.trans kw))) ⟨⟨w, A1, A2, A3, x1, rfl, upd_same, (k2.trans (k3.trans kw)) _ _ hx1, tp1.imp fun _ _ y => TP.mono (k2.trans (k3.trans kw)) y, (k3.trans kw) _ _ hx2, kw _ _ hx3⟩, wt, by omega, al⟩
end

end T1

namespace T1
open PySem PySem.Spec PyProof.Rows L2 G
open Evl (Ex)
local macro_rules | `(tactic| walk_at "dd") => `(tactic| (dsimp only [tCB, tCons, tNil, tC, tOp, tUn, tTest, tB, tVar, tAndV, tOrV, tNotV, tIf, tAnd, tOr, tNot, tSeq, tRet, tRetN, tIfS, tAsg, gName, tDrop, tTup, tLst, tChain, tNext, tCall, L2.start]))
open M (at_)
theorem Tx8.up {a b : Nat} {x : Str} (h : Tx8 a x) (l : a ≤ b) : Tx8 b x := ⟨Nat.le_trans h.ln l, h.as⟩
theorem Tx8.app {a b : Nat} {x y : Str} (h : Tx8 a x) (g : Tx8 b y) : Tx8 (a + b) (x ++ y) := ⟨by rw [TT.len_app]; have := h.ln; have := g.ln; omega, TT.asc_app h.as g.as⟩
theorem Tx8.cut {a : Nat} {x : Str} (lo hi : Option Int) (h : Tx8 a x) : Tx8 a (cutS x lo hi) := ⟨Nat.le_trans (cutS_length x lo hi) h.ln, TT.asc_cut lo hi h.as⟩
structure Wds (M : Nat) (ps : List Str) : Prop where
  ln : (ps.map (·.length)).sum + ps.length ≤ M
  as : ∀ p ∈ ps, TT.Asc p
theorem Wds.up {a b : Nat} {ps : List Str} (h : Wds a ps) (l : a ≤ b) : Wds b ps := ⟨Nat.le_trans h.ln l, h.as⟩
theorem sum_mem {ps : List Str} {p : Str} (h : p ∈ ps) : p.length ≤ (ps.map (·.length)).sum := by
  induction ps with
  | nil => cases h
  | cons a ps ih =>
    simp only [List.sum_cons, List.map_cons]
    obtain rfl | h := List.mem_cons.mp h
    · omega
    · have := ih h; omega
theorem Wds.set {M L i : Nat} {ps : List Str} {p : Str} (h : Wds M ps) (l : p.length ≤ L) (a : TT.Asc p) : Wds (M + L) (ps.set i p) := by
  refine ⟨?_, fun q hq => (List.mem_or_eq_of_mem_set hq).elim (h.as q) fun e => e ▸ a⟩
  have z : ∀ (ps : List Str) (i : Nat), ((ps.set i p).map (·.length)).sum ≤ (ps.map (·.length)).sum + p.length := fun ps => by
    induction ps with
    | nil => intro i; simp
    | cons q ps ih =>
      intro i
      cases i with
      | zero => simp only [List.set_cons_zero, List.map_cons, List.sum_cons]; omega
      | succ i => simp only [List.set_cons_succ, List.map_cons, List.sum_cons]; have := ih i; omega
  have := z ps i
  have := h.ln
  rw [List.length_set]; omega
theorem sum_take_drop (ps : List Str) (i : Nat) : ((ps.take i).map (·.length)).sum + ((ps.drop i).map (·.length)).sum = (ps.map (·.length)).sum := by
  conv => rhs; rw [← List.take_append_drop i ps]
  rw [List.map_append, List.sum_append]
theorem sum_drop_le (ps : List Str) (i : Nat) : ((ps.drop i).map (·.length)).sum ≤ (ps.map (·.length)).sum := by have := sum_take_drop ps i; omega
theorem sum_take_le (ps : List Str) (i : Nat) : ((ps.take i).map (·.length)).sum ≤ (ps.map (·.length)).sum := by have := sum_take_drop ps i; omega
theorem Wds.dbl {M i : Nat} {ps : List Str} {p : Str} (h : Wds M ps) (hp : p ∈ ps) : Wds (M + M) (ps.take i ++ [p] ++ ps.drop i) := by
  refine ⟨?_, fun q hq => ?_⟩
  · have a := sum_take_drop ps i
    have b := sum_mem hp
    have c := h.ln
    have l : (ps.take i).length + (ps.drop i).length = ps.length := by rw [← List.length_append, List.take_append_drop]
    have pl : 1 ≤ ps.length := List.length_pos_of_mem hp
    simp only [List.map_append, List.sum_append, List.map_cons, List.map_nil, List.sum_cons, List.sum_nil, List.length_append, List.length_cons, List.length_nil]
    omega
  · obtain hq | hq := List.mem_append.mp hq
    · obtain hq | hq := List.mem_append.mp hq
      · exact h.as q (List.mem_of_mem_take hq)
      · rw [List.mem_singleton.mp hq]; exact h.as p hp
    · exact h.as q (List.mem_of_mem_drop hq)
theorem Wds.out {M i : Nat} {ps : List Str} (h : Wds M ps) : Wds M (ps.take i ++ ps.drop (i + 1)) := by
  refine ⟨?_, fun q hq => (List.mem_append.mp hq).elim (fun m => h.as q (List.mem_of_mem_take m)) fun m => h.as q (List.mem_of_mem_drop m)⟩
  have a := sum_take_drop ps i
  have b : ((ps.drop (i + 1)).map (·.length)).sum ≤ ((ps.drop i).map (·.length)).sum := by
    rw [← List.drop_drop]
    exact sum_drop_le (ps.drop i) 1
  have c := h.ln
  have l : (ps.take i).length + (ps.drop (i + 1)).length ≤ ps.length := by rw [List.length_take, List.length_drop]; omega
  simp only [List.map_append, List.sum_append, List.length_append]
  omega
theorem Wds.join {M : Nat} {ps : List Str} (h : Wds M ps) : Tx8 M (Txt.join " " ps) := ⟨Nat.le_trans (TT.join_len ps) (by
  have : (" " : Str).length = 1 := rfl
  rw [this]
  have := h.ln
  omega), TT.asc_join TT.asc_blank h.as⟩
theorem Wds.split {L : Nat} {z : Str} (h : Tx8 L z) : Wds (L + 1) (Txt.split z " ") := ⟨Nat.le_trans (TT.split_sum TT.tl_blank (by decide) z) (by have := h.ln; omega), TT.asc_split TT.tl_blank (by decide) h.as⟩
theorem at_str {S : Str} {i : Nat} (h : i < S.length) : ∃ c, atI S.cps.toList (i : Int) = some c ∧ c ∈ TL.tl S := by
  have hl : i < (TL.tl S).length := by rw [← TL.len_tl]; exact h
  exact ⟨(TL.tl S)[i], atI_nat (j := i) (List.getElem?_eq_getElem hl), List.getElem_mem hl⟩
theorem tx_one {c : Nat} {S : Str} (h : TT.Asc S) (m : c ∈ TL.tl S) : Tx8 1 (⟨#[c]⟩ : Str) := ⟨Nat.le_refl 1, fun d hd => by
  have : d ∈ [c] := hd
  rw [List.mem_singleton.mp this]; exact h c m⟩
theorem wds_ins {M i : Nat} {ps : List Str} {p : Str} (h : Wds M ps) (hp : p ∈ ps) : Wds (M + M) (ps.take i ++ [p] ++ ps.drop i) := h.dbl hp
theorem map_ins (ps : List Str) (i : Nat) (p : Str) : (ps.map V.str).take i ++ [V.str p] ++ (ps.map V.str).drop i = (ps.take i ++ [p] ++ ps.drop i).map V.str := by
  rw [List.map_append, List.map_append, List.map_take, List.map_drop]; rfl
def sp__law_spoilt (K : PySem.W.Frag) : Sp := sp2 fun a t H Q E => ∃ (A : Addr) (c : Nat) (z : Str), a = .ref A ∧ c ≤ 800000 ∧ BoxAt H A c ∧ t = .str z ∧ Tx8 180 z ∧ 1 ≤ z.length ∧ (∀ p ∈ Txt.split z " ", p.length ≤ 10) ∧ ∀ z' H', Ex (L2.del H A) H' → BoxAt H' A (c + 6) → Tx8 400 z' → Q (.str z') H'
section
variable {K : PySem.W.Frag} {mg : Str → Option Value} {P : Program} {w : World} {base : Heap}
theorem ok__law_spoilt (T : Tx K mg) : Cal P w K mg base CX0 3 "_law_spoilt" ["_law_box_here", "_law_text_here"] (sp__law_spoilt K) := by
  refine cal_of (fD__law_spoilt T) (T.glo 48 rfl) sc__law_spoilt (fun _ _ _ _ _ _ us hl => match us, hl with | [_, _], _ => rfl) (fun vs H Q E h => len2 h) (fun f cdv A outer s H vs Q E hr h => ?_)
  obtain ⟨a, b, rfl, h⟩ := h
  refine ⟨_, (PSs.nox (pss_cons (ps_set (i := 2) sc__law_spoilt.nd rfl (Or.inl rfl) pe_str)
      (pss_cons (ps_set (i := 3) sc__law_spoilt.nd rfl (Or.inl rfl) (pe_ix (ix_listK (K := K)) (pe_lst (pa_cons pe_str (pa_cons pe_str (pa_cons (pv 2) pa_nil)))) (pe_c (ok__law_take T) (hr.mono (by decide)) rfl pass0 (pa_cons (pv 0) (pa_cons pe_int pa_nil))) (fun _ _ => rfl)))
      (pss_cons (ps_par3 (i := 4) (j := 5) (l := 6) rfl sc__law_spoilt.nd rfl rfl rfl (by decide) (by decide) (by decide) rfl rfl rfl (pa_cons (pe_c (ok__law_take T) (hr.mono (by decide)) rfl pass0 (pa_cons (pv 0) (pa_cons pe_int pa_nil))) (pa_cons (pe_c (ok__law_take T) (hr.mono (by decide)) rfl pass0 (pa_cons (pv 0) (pa_cons (pe_callB call_len_str (by rfl) (T.free 7 rfl) (by decide +kernel) (pa_cons (pv 1) pa_nil)) pa_nil))) (pa_cons (pe_ix ix_str (pv 3) (pe_c (ok__law_take T) (hr.mono (by decide)) rfl pass0 (pa_cons (pv 0) (pa_cons (pe_callB call_len_str (by rfl) (T.free 7 rfl) (by decide +kernel) (pa_cons (pv 3) pa_nil)) pa_nil))) (fun _ _ => rfl)) pa_nil))) (by rfl))
      (pss_cons (ps_if (pt_cmpR op_lt (pv 4) pe_int (nomark _)) (pss_one (ps_ret (pe_ifExp (pt_cmpR op_ne (pv 4) pe_int (nomark _)) (pe_op op_add_str (pe_op op_add_str (pe_slice sl_str (pv 1) po_none (po_some (pv 5))) (pe_ix (ix_listK (K := K)) (pe_lst (pa_cons pe_str (pa_cons pe_str (pa_cons (pv 6) pa_nil)))) (pv 4) (fun _ _ => rfl))) (pe_slice sl_str (pv 1) (po_some (pe_op op_add (pv 5) (pe_callTy call_int1 (by rfl) (T.free 5 rfl) (by decide +kernel) (pa_cons (pe_cmpR op_gt (pv 4) pe_int (nomark _)) pa_nil)))) po_none)) (pe_op op_add_str (pe_op op_add_str (pe_slice sl_str (pv 1) po_none (po_some (pv 5))) (pv 6)) (pe_slice sl_str (pv 1) (po_some (pv 5)) po_none))))) pss_nil)
      (pss_cons (ps_if (pt_cmpR op_eq (pv 4) pe_int (nomark _)) (pss_one (ps_ret (pe_op op_add_str (pv 1) (pe_ix (ix_listK (K := K)) (pe_lst (pa_cons pe_str (pa_cons pe_str (pa_cons pe_str (pa_cons pe_str (pa_cons pe_str (pa_cons pe_str (pa_cons pe_str (pa_cons pe_str pa_nil))))))))) (pe_c (ok__law_take T) (hr.mono (by decide)) rfl pass0 (pa_cons (pv 0) (pa_cons pe_int pa_nil))) (fun _ _ => rfl))))) pss_nil)
      (pss_cons (ps_set (i := 7) sc__law_spoilt.nd rfl (Or.inl rfl) (pe_split (pv 1) pe_str))
      (pss_cons (ps_par (i := 8) (j := 9) rfl sc__law_spoilt.nd rfl rfl (by decide) rfl rfl (pa_cons (pe_c (ok__law_take T) (hr.mono (by decide)) rfl pass0 (pa_cons (pv 0) (pa_cons (pe_callB (call_lenK (K := K)) (by rfl) (T.free 7 rfl) (by decide +kernel) (pa_cons (pv 7) pa_nil)) pa_nil))) (pa_cons (pe_c (ok__law_take T) (hr.mono (by decide)) rfl pass0 (pa_cons (pv 0) (pa_cons (pe_callB (call_lenK (K := K)) (by rfl) (T.free 7 rfl) (by decide +kernel) (pa_cons (pv 7) pa_nil)) pa_nil))) pa_nil)) (by rfl))
      (pss_cons (ps_if (pt_cmpR op_eq (pv 4) pe_int (nomark _)) (pss_one (ps_asg (pe_tup (pa_cons (pe_ix (ix_listK (K := K)) (pv 7) (pv 9) (fun _ _ => rfl)) (pa_cons (pe_ix (ix_listK (K := K)) (pv 7) (pv 8) (fun _ _ => rfl)) pa_nil))) (pg_tup (n := 2) rfl (pgs_cons (pg_sub (pv 7) (pv 8) set_list) (pgs_cons (pg_sub (pv 7) (pv 9) set_list) pgs_nil))))) (pss_one (ps_if (pt_cmpR op_eq (pv 4) pe_int (nomark _)) (pss_one (ps_asg (pe_op op_add_str pe_str (pe_ix (ix_listK (K := K)) (pv 7) (pv 8) (fun _ _ => rfl))) (pg_sub (pv 7) (pv 8) set_list))) (pss_one (ps_expr (pe_bm PySem.F.plainAttrs_list PySem.F.slot_list_insert PySem.F.type_list_insert mt_insert (pv 7) (pa_cons (pv 8) (pa_cons (pe_ix (ix_listK (K := K)) (pv 7) (pv 9) (fun _ _ => rfl)) pa_nil))))))))
      (pss_one (ps_ret (pe_joinK (K := K) pe_str (pv 7))))))))))))), ?_⟩
  obtain ⟨A, c, z, rfl, c9, hb, rfl, tz, z1, w10, q⟩ := h
  have zl := tz.ln
  have big : ∀ {k : Nat}, k ≤ 5000 → k ≤ sizeLine := fun {k} hk => by rw [sizeLine_eq]; omega
  have zs : z.length ≤ sizeLine := big (by omega)
  have sz : ∀ {a b : Nat} {x y : Str}, Tx8 a x → Tx8 b y → a + b ≤ 5000 → x.length + y.length ≤ sizeLine := fun h g l => big (by have := h.ln; have := g.ln; omega)
  have tcut := fun lo hi => Tx8.cut (a := 180) lo hi tz
  refine seq_at (asg_at ?_)
  dsimp only [tC, gName]
  refine seq_at (asg_at ?_)
  refine ⟨_, rfl, (by show 3 ≤ sizeLine; decide), fun L hL => ?_⟩
  have eL := Ex.new (o := .lst [V.str (Str.ofString "0123456789:-./ 01 23x+_~"), .str (Str.ofString "0123456789 ./"), .str (Str.ofString " !\"#$&'()*+,-./0123456789:;<=>?@ABCDEFGHIJKLMNOPQRSTUVWXYZ[\\]^_`abcdefghijklmnopqrstuvwxyz{|}~")]) hL
  obtain ⟨l0, hA0⟩ := hb.some
  have LA : L ≠ A := (ne_of_none hA0 hL).symm
  have gL := upd_same (H := H) (a := L) (o := .lst [V.str (Str.ofString "0123456789:-./ 01 23x+_~"), .str (Str.ofString "0123456789 ./"), .str (Str.ofString " !\"#$&'()*+,-./0123456789:;<=>?@ABCDEFGHIJKLMNOPQRSTUVWXYZ[\\]^_`abcdefghijklmnopqrstuvwxyz{|}~")])
  have hb0 := hb.mono eL
  have e0 : Ex (L2.del H A) (upd H L (.lst [V.str (Str.ofString "0123456789:-./ 01 23x+_~"), .str (Str.ofString "0123456789 ./"), .str (Str.ofString " !\"#$&'()*+,-./0123456789:;<=>?@ABCDEFGHIJKLMNOPQRSTUVWXYZ[\\]^_`abcdefghijklmnopqrstuvwxyz{|}~")])) := Ex.ofDel.trans eL
  refine ⟨_, rfl, _, _, rfl, A, 3, c, rfl, rfl, by decide, by decide, by omega, hb0, fun w0 H1 hw0 e1 hb1 => ?_⟩
  obtain ⟨S, hS, S1, S2, SA⟩ : ∃ S : Str, [V.str (Str.ofString "0123456789:-./ 01 23x+_~"), .str (Str.ofString "0123456789 ./"), .str (Str.ofString " !\"#$&'()*+,-./0123456789:;<=>?@ABCDEFGHIJKLMNOPQRSTUVWXYZ[\\]^_`abcdefghijklmnopqrstuvwxyz{|}~")][w0]? = some (.str S) ∧ 1 ≤ S.length ∧ S.length ≤ 200 ∧ TT.Asc S := by
    match w0, hw0 with
    | 0, _ => exact ⟨_, rfl, by decide +kernel, by decide +kernel, TT.asc_of (by decide +kernel)⟩
    | 1, _ => exact ⟨_, rfl, by decide +kernel, by decide +kernel, TT.asc_of (by decide +kernel)⟩
    | 2, _ => exact ⟨_, rfl, by decide +kernel, by decide +kernel, TT.asc_of (by decide +kernel)⟩
  refine ⟨L, _, _, _, rfl, rfl, SqL.of (del_get e1 LA gL), atI_nat hS, ?_⟩
  dsimp only [gName]
  have e01 := ex_of_del e0 del_same e1
  clear gL eL e0 hS
  refine seq_at ?_
  refine ⟨_, rfl, _, _, rfl, A, 7, c + 1, rfl, rfl, by decide, by decide, by omega, hb1, fun w1 H2 hw1 e2 hb2 => ?_⟩
  refine ⟨_, rfl, _, rfl, z, rfl, zs, _, _, rfl, A, z.length, c + 2, rfl, rfl, z1, by omega, by omega, hb2, fun i H3 hi e3 hb3 => ?_⟩
  refine ⟨_, rfl, _, rfl, _, rfl, S, rfl, big (by omega), _, _, rfl, A, S.length, c + 3, rfl, rfl, S1, by omega, by omega, hb3, fun j H4 hj e4 hb4 => ?_⟩
  obtain ⟨ch, hc, mc⟩ := at_str hj
  refine ⟨S, _, ch, rfl, rfl, big (by omega), hc, _, _, _, rfl, ?_⟩
  have ts : Tx8 1 (⟨#[ch]⟩ : Str) := tx_one SA mc
  generalize (⟨#[ch]⟩ : Str) = s at ts ⊢
  have e04 := ex_of_del (ex_of_del (ex_of_del e01 del_same e2) del_same e3) del_same e4
  have done : ∀ z' H', Ex H4 H' → Tx8 400 z' → Q (.str z') H' := fun z' H' e' t' => q z' H' (e04.trans e') ((hb4.mono e').up (by omega)) t'
  have done1 : ∀ z' H', Ex (L2.del H4 A) H' → BoxAt H' A (c + 6) → Tx8 400 z' → Q (.str z') H' := fun z' H' e' hb' t' => q z' H' (ex_of_del e04 del_same e') hb' t'
  clear e1 e2 e3 e4 e01 hb1 hb2 hb3 hb0
  dsimp only [List.set]
  refine seq_at (ifs_at (test_at ⟨_, rfl, _, _, rfl, rfl, _, rfl, ?_⟩))
  rw [show decide ((w1 : Int) < 3) = decide (w1 < 3) by rw [Bool.eq_iff_iff, decide_eq_true_eq, decide_eq_true_eq]; omega]
  by_cases k3 : w1 < 3
  · rw [decide_eq_true k3]
    refine iteT (ret_at ?_)
    refine ⟨_, rfl, rfl, _, rfl, ?_⟩
    rw [show decide (V.int (w1 : Int) = V.int 0) = decide (w1 = 0) from int_eqb w1 0]
    by_cases k0 : w1 = 0
    · rw [decide_eq_true k0]
      refine iteF ?_
      have a1 := (tcut none (some (i : Int))).app ts
      refine ⟨_, rfl, _, rfl, _, rfl, z, rfl, zs, _, rfl, _, _, rfl, rfl, sz (tcut _ _) ts (by omega), ?_⟩
      refine ⟨_, rfl, _, rfl, _, rfl, z, rfl, zs, _, _, rfl, rfl, sz a1 (tcut _ _) (by omega), ?_⟩
      exact done _ _ (Ex.refl _) ((a1.app (tcut _ _)).up (by omega))
    · rw [decide_eq_false k0]
      refine iteT ?_
      refine ⟨_, rfl, _, rfl, _, rfl, z, rfl, zs, _, rfl, (by show 3 ≤ sizeLine; decide), fun p hp => ?_⟩
      have ep := Ex.new (o := .lst [V.str (Str.ofString ""), .str (Str.ofString ""), .str s]) hp
      obtain ⟨x, hx, tx⟩ : ∃ x, [V.str (Str.ofString ""), .str (Str.ofString ""), .str s][w1]? = some (.str x) ∧ Tx8 1 x := by
        match w1, k3 with
        | 0, _ => exact ⟨_, rfl, by decide +kernel, TT.asc_of (by decide +kernel)⟩
        | 1, _ => exact ⟨_, rfl, by decide +kernel, TT.asc_of (by decide +kernel)⟩
        | 2, _ => exact ⟨_, rfl, ts⟩
      have a1 := (tcut none (some (i : Int))).app tx
      refine ⟨_, rfl, p, _, _, _, rfl, rfl, SqL.of upd_same, atI_nat hx, _, _, rfl, rfl, sz (tcut _ _) tx (by omega), ?_⟩
      refine ⟨_, rfl, _, rfl, _, rfl, _, _, rfl, rfl, .inr ⟨_, rfl, ?_⟩⟩
      refine ⟨_, _, rfl, rfl, _, rfl, z, rfl, zs, _, _, rfl, rfl, sz a1 (tcut _ _) (by omega), ?_⟩
      exact done _ _ ep ((a1.app (tcut _ _)).up (by omega))
  rw [decide_eq_false k3]
  refine iteF ?_
  dsimp only [tNext]
  refine seq_at (ifs_at (test_at ⟨_, rfl, rfl, _, rfl, ?_⟩))
  rw [show decide (V.int (w1 : Int) = V.int 3) = decide (w1 = 3) from int_eqb w1 3]
  by_cases k4 : w1 = 3
  · rw [decide_eq_true k4]
    refine iteT (ret_at ?_)
    refine ⟨_, rfl, (by show 8 ≤ sizeLine; decide), fun p hp => ?_⟩
    have ep := Ex.new (o := .lst [V.str (Str.ofString " "), .str (Str.ofString " 0.0"), .str (Str.ofString " 0.6"), .str (Str.ofString " /"), .str (Str.ofString "  0.0"), .str (Str.ofString " 0"), .str (Str.ofString "/"), .str (Str.ofString ".")]) hp
    have gp := upd_same (H := H4) (a := p) (o := .lst [V.str (Str.ofString " "), .str (Str.ofString " 0.0"), .str (Str.ofString " 0.6"), .str (Str.ofString " /"), .str (Str.ofString "  0.0"), .str (Str.ofString " 0"), .str (Str.ofString "/"), .str (Str.ofString ".")])
    obtain ⟨l4, hA4⟩ := hb4.some
    have pA : p ≠ A := (ne_of_none hA4 hp).symm
    refine ⟨_, rfl, _, _, rfl, A, 8, c + 4, rfl, rfl, by decide, by decide, by omega, hb4.mono ep, fun w2 H5 hw2 e5 hb5 => ?_⟩
    obtain ⟨x, hx, tx⟩ : ∃ x, [V.str (Str.ofString " "), .str (Str.ofString " 0.0"), .str (Str.ofString " 0.6"), .str (Str.ofString " /"), .str (Str.ofString "  0.0"), .str (Str.ofString " 0"), .str (Str.ofString "/"), .str (Str.ofString ".")][w2]? = some (.str x) ∧ Tx8 5 x := by
      match w2, hw2 with
      | 0, _ => exact ⟨_, rfl, by decide +kernel, TT.asc_of (by decide +kernel)⟩
      | 1, _ => exact ⟨_, rfl, by decide +kernel, TT.asc_of (by decide +kernel)⟩
      | 2, _ => exact ⟨_, rfl, by decide +kernel, TT.asc_of (by decide +kernel)⟩
      | 3, _ => exact ⟨_, rfl, by decide +kernel, TT.asc_of (by decide +kernel)⟩
      | 4, _ => exact ⟨_, rfl, by decide +kernel, TT.asc_of (by decide +kernel)⟩
      | 5, _ => exact ⟨_, rfl, by decide +kernel, TT.asc_of (by decide +kernel)⟩
      | 6, _ => exact ⟨_, rfl, by decide +kernel, TT.asc_of (by decide +kernel)⟩
      | 7, _ => exact ⟨_, rfl, by decide +kernel, TT.asc_of (by decide +kernel)⟩
    refine ⟨p, _, _, _, rfl, rfl, SqL.of (del_get e5 pA gp), atI_nat hx, _, _, rfl, rfl, sz tz tx (by omega), ?_⟩
    exact q _ _ (ex_of_del (e04.trans ep) del_same e5) (hb5.up (by omega)) ((tz.app tx).up (by omega))
  rw [decide_eq_false k4]
  refine iteF ?_
  dsimp only [tNext]
  have ws0 := Wds.split tz
  have wne := TT.split_ne TT.tl_blank (by decide) z
  refine seq_at (asg_at ?_)
  refine ⟨_, rfl, ⟨_, rfl⟩, z, Str.ofString " ", rfl, rfl, rfl, big (by omega), fun W hW => ?_⟩
  obtain ⟨l4, hA4⟩ := hb4.some
  have WA : W ≠ A := (ne_of_none hA4 hW).symm
  have eW := Ex.new (o := .lst ((Txt.split z (Str.ofString " ")).map V.str)) hW
  have hb5 := hb4.mono eW
  have hW5 := upd_same (H := H4) (a := W) (o := .lst ((Txt.split z (Str.ofString " ")).map V.str))
  have nW : L2.del H A W = none := Evl.fresh_back e04 hW
  have e05 := e04.trans eW
  dsimp only [gName]
  generalize upd H4 W (.lst ((Txt.split z (Str.ofString " ")).map V.str)) = H5 at e05 hb5 hW5 ⊢
  generalize Txt.split z (Str.ofString " ") = ps at hW5 ws0 wne w10 ⊢
  have pl : 1 ≤ ps.length ∧ ps.length ≤ 201 := by
    have := ws0.ln
    exact ⟨by cases ps with
      | nil => exact absurd rfl wne
      | cons => simp, by omega⟩
  refine seq_at ?_
  refine ⟨_, rfl, _, rfl, W, _, rfl, .inl (SqL.of hW5), _, _, rfl, A, ps.length, c + 4, rfl, by rw [List.length_map], pl.1, by omega, by omega, hb5, fun o H6 ho e6 hb6 => ?_⟩
  have hW6 := del_get e6 WA hW5
  refine ⟨_, rfl, _, rfl, W, _, rfl, .inl (SqL.of hW6), _, _, rfl, A, ps.length, c + 5, rfl, by rw [List.length_map], pl.1, by omega, by omega, hb6, fun o2 H7 ho2 e7 hb7 => ⟨_, _, rfl, ?_⟩⟩
  have hW7 := del_get e7 WA hW6
  have e07 := ex_of_del (ex_of_del e05 del_same e6) del_same e7
  obtain ⟨p1, hp1⟩ : ∃ p, ps[o]? = some p := ⟨_, List.getElem?_eq_getElem ho⟩
  obtain ⟨p2, hp2⟩ : ∃ p, ps[o2]? = some p := ⟨_, List.getElem?_eq_getElem ho2⟩
  have m1 := List.mem_of_getElem? hp1
  have m2 := List.mem_of_getElem? hp2
  have v1 : (ps.map V.str)[o]? = some (.str p1) := by rw [List.getElem?_map, hp1]; rfl
  have v2 : (ps.map V.str)[o2]? = some (.str p2) := by rw [List.getElem?_map, hp2]; rfl
  have len : ∀ {p}, p ∈ ps → p.length ≤ 10 := fun m => w10 _ m
  have box : ∀ {qs : List V}, BoxAt (upd H7 W (.lst qs)) A (c + 6) := fun {qs} => by
    obtain ⟨x0, b0, y0, k0, z, r⟩ := hb7
    exact ⟨x0, b0, y0, k0, by rw [upd_ne WA.symm]; exact z, r⟩
  dsimp only [List.set]
  refine seq_split (fun σ' H' => ∃ (qs : List Str) (s9 : Option V), σ' = [some (.ref A), some (.str z), some (.str (Str.ofString " !\"#$&'()*+,-./0123456789:;<=>?@ABCDEFGHIJKLMNOPQRSTUVWXYZ[\\]^_`abcdefghijklmnopqrstuvwxyz{|}~")), some (.str S), some (.int (w1 : Int)), some (.int (i : Int)), some (.str s), some (.ref W), some (.int (o : Int)), some (.int (o2 : Int))] ∧ Ex (L2.del H A) H' ∧ BoxAt H' A (c + 6) ∧ H' W = some (.lst (qs.map V.str)) ∧ Wds 400 qs) ?_ ?_
  rotate_left
  · intro R hR
    refine ifs_at (test_at ⟨_, rfl, rfl, _, rfl, ?_⟩)
    rw [show decide (V.int (w1 : Int) = V.int 4) = decide (w1 = 4) from int_eqb w1 4]
    by_cases k5 : w1 = 4
    · rw [decide_eq_true k5]
      refine iteT (asg_at ?_)
      refine ⟨_, rfl, _, rfl, W, _, _, _, rfl, rfl, SqL.of hW7, atI_nat v2, _, rfl, _, rfl, W, _, _, _, rfl, rfl, SqL.of hW7, atI_nat v1, (by show 2 ≤ sizeLine; decide), fun t ht => ?_⟩
      have et := Ex.new (o := .tup [V.str p2, V.str p1]) ht
      have gt := upd_same (H := H7) (a := t) (o := .tup [V.str p2, V.str p1])
      have hWt := et _ _ hW7
      have e08 := e07.trans et
      have hbt := hb7.mono et
      generalize upd H7 t (.tup [V.str p2, V.str p1]) = Ht at gt hWt e08 hbt ⊢
      refine ⟨t, _, rfl, SqT.of gt, rfl, _, _, rfl, _, rfl, _, rfl, W, _, _, o, rfl, rfl, hWt, Evl.ixN_nat (by rw [List.length_map]; exact ho), ?_⟩
      refine ⟨_, _, rfl, _, rfl, _, rfl, W, _, _, o2, rfl, rfl, upd_same, Evl.ixN_nat (by rw [List.length_set, List.length_map]; exact ho2), rfl, ?_⟩
      rw [upd_upd]
      have hbx : ∀ {qs : List V}, BoxAt (upd Ht W (.lst qs)) A (c + 6) := fun {qs} => by
        obtain ⟨x0, b0, y0, k0, z, r⟩ := hbt
        exact ⟨x0, b0, y0, k0, by rw [upd_ne WA.symm]; exact z, r⟩
      refine hR _ _ ⟨(ps.set o p2).set o2 p1, none, rfl, Ex.mut e08 nW, hbx, by rw [upd_same, List.map_set, List.map_set], ((ws0.set (len m2) (ws0.as _ m2)).set (len m1) (ws0.as _ m1)).up (by omega)⟩
    rw [decide_eq_false k5]
    refine iteF (ifs_at (test_at ⟨_, rfl, rfl, _, rfl, ?_⟩))
    rw [show decide (V.int (w1 : Int) = V.int 5) = decide (w1 = 5) from int_eqb w1 5]
    by_cases k6 : w1 = 5
    · rw [decide_eq_true k6]
      refine iteT (asg_at ?_)
      have t0 : Tx8 1 (Str.ofString "0") := ⟨by decide +kernel, TT.asc_of (by decide +kernel)⟩
      have tp : Tx8 10 p1 := ⟨len m1, ws0.as _ m1⟩
      have t1 := t0.app tp
      refine ⟨_, rfl, _, rfl, W, _, _, _, rfl, rfl, SqL.of hW7, atI_nat v1, _, _, rfl, rfl, sz t0 tp (by omega), _, rfl, _, rfl, W, _, _, o, rfl, rfl, hW7, Evl.ixN_nat (by rw [List.length_map]; exact ho), ?_⟩
      refine hR _ _ ⟨ps.set o (Str.ofString "0" ++ p1), none, rfl, Ex.mut e07 nW, box, by rw [upd_same, List.map_set], (ws0.set t1.ln t1.as).up (by omega)⟩
    · rw [decide_eq_false k6]
      refine iteF ?_
      refine ⟨_, rfl, .inl ⟨rfl, _, SqL.of hW7⟩, _, rfl, _, rfl, _, rfl, W, _, _, _, rfl, rfl, SqL.of hW7, atI_nat v2, W, _, _, _, rfl, rfl, hW7, line_big (by rw [List.length_map]; omega), by omega, by omega, ?_⟩
      rw [Int.toNat_natCast, map_ins]
      exact hR _ _ ⟨_, none, rfl, Ex.mut e07 nW, box, upd_same, (wds_ins ws0 m2).up (by omega)⟩
  rintro _ H8 ⟨qs, s9, rfl, e8, hb8, hW8, wd⟩
  refine ret_at ?_
  refine ⟨⟨_, rfl⟩, _, rfl, _, W, qs, rfl, rfl, .inl (SqL.of hW8), ?_, ?_⟩
  · have := wd.ln
    have one : (Str.ofString " ").length = 1 := rfl
    rw [one]; exact big (by omega)
  · exact q _ _ e8 hb8 (wd.join.up (by omega))
end

end T1

namespace T1
open PySem PySem.Spec PyProof.Rows L2 G
open Evl (Ex)
local macro_rules | `(tactic| walk_at "dd") => `(tactic| (dsimp only [tCB, tCons, tNil, tC, tOp, tUn, tTest, tB, tVar, tAndV, tOrV, tNotV, tIf, tAnd, tOr, tNot, tSeq, tRet, tRetN, tIfS, tAsg, gName, tDrop, tTup, tLst, tChain, tNext, tCall, L2.start]))
theorem RdS.one {z : Str} {n m : Nat} {rs ws qs us : List (Nat × Nat)} (h : RdS z n rs ws) (g : RdS z m qs us) : n = m ∧ rs = qs ∧ ws = us := by
  obtain ⟨f, R, S, e, _, nr, _, L⟩ := h.words
  have L' := g.ln e nr
  exact ⟨Option.some.inj (L.f.symm.trans L'.f), TT.map_some_inj (L.r.symm.trans L'.r), TT.map_some_inj (L.s.symm.trans L'.s)⟩
def sp__law_lined (K : PySem.W.Frag) : Sp := sp3 fun a b c H Q E => ∃ k, c = .int k ∧ ((∃ z n rs ws, a = .str z ∧ z.length ≤ 500 ∧ RdS z n rs ws ∧ World3 K H b n rs ws ∧ ∀ H', Ex H H' → Q (.bl true) H') ∨ (b = .non ∧
  ((∃ d, Dq K H a d ∧ (∀ z, d = .str z → z.length ≤ 500 ∧ ¬ ∃ n rs ws, RdS z n rs ws) ∧ (∀ ds, d ≠ .list ds) ∧ Small 2000 8 d ∧ ∀ H', Ex H H' → Q (.bl true) H') ∨
   (∃ p xs ds, a = .ref p ∧ H p = some (.lst xs) ∧ Dqs K (L2.del H p) xs ds ∧ Small 2000 8 (.list (ds ++ [.str "more"])) ∧ xs.length ≤ 100 ∧ ∀ H', Ex (L2.del H p) H' → Q (.bl true) H'))))
section
variable {K : PySem.W.Frag} {mg : Str → Option Value} {P : Program} {w : World} {base : Heap}
theorem ok__law_lined (T : Tx K mg) : Cal P w K mg base CX0 9 "_law_lined" ["_law_value", "_law_due", "_law_turn"] (sp__law_lined K) := by
  refine cal_of (fD__law_lined T) (T.glo 49 rfl) sc__law_lined (fun _ _ _ _ _ _ us hl => match us, hl with | [_, _, _], _ => rfl) (fun vs H Q E h => len3 h) (fun f cdv A outer s H vs Q E hr h => ?_)
  obtain ⟨a, b, c, rfl, h⟩ := h
  refine ⟨_, (PSs.nox (pss_cons (ps_tryAs (i := 4) rfl rfl sc__law_lined.nd rfl rfl (fun W pn xe tk po => (pss_one (ps_set (i := 3) sc__law_lined.nd rfl (Or.inl rfl) (pe_ifExp (pt_cmpR op_eq (pv 2) pe_int (nomark _)) (pe_cW (ok_read_store T) (hr.mono (by decide)) rfl tk (pa_cons (pv 0) pa_nil)) (pe_ckW (ks := ["line"]) [0] (ok_read_store T) (fD_read_store T) (fun _ _ _ _ _ _ us ws h1 h2 => match us, ws, h1, h2 with | [], [_], _, _ => rfl) (hr.mono (by decide)) rfl tk (pk_cons (pv 0) pk_nil)))))) (HdsAs.cons ⟨rfl, by decide, .inl (T.glo 4 rfl)⟩ (fun ax oe cls dx pn hz hf => (pss_cons (ps_if (pt_val (pe_callB (call_isiK' (K := K)) (by rfl) (T.free 6 rfl) (by decide +kernel) (pa_cons (pv 0) (pa_cons (pe_bltn (v := .ty "list") (u := .type "list") (by rfl) (T.free 8 rfl) (by decide +kernel) rfl) pa_nil)))) (pss_one (ps_expr (show PE _ _ (tBM K "list" _ _ _) from (pe_bm PySem.F.plainAttrs_list PySem.F.slot_list_append PySem.F.type_list_append mt_append (pv 0) (pa_cons pe_str pa_nil))))) pss_nil)
      (pss_one (ps_ret (pe_and (pe_cmpR op_isN (pv 1) pe_non (nomark _)) (pe_one (pe_cmpR op_eq (pe_callB (call_reprK (K := K) T.sm hr.g (let z := hu64 hr.r; z)) (by rfl) (T.free 12 rfl) (by decide +kernel) (pa_cons (pe_xf (T.err 3 rfl).xf ((T.err 3 rfl).no "given" (by simp)) hz hf (pv 4)) pa_nil)) (pe_callB (call_reprK (K := K) T.sm hr.g (let z := hu64 hr.r; z)) (by rfl) (T.free 12 rfl) (by decide +kernel) (pa_cons (pv 0) pa_nil)) (nomark _)))))))) HdsAs.nil))
      (pss_one (ps_ret (pe_and (pe_cmpR op_notN (pv 1) pe_non (nomark _)) (pe_and (pe_c (ok__law_is T) (hr.mono (by decide)) rfl pass0 (pa_cons (pv 1) (pa_cons (pv 3) pa_nil))) (pe_one (pe_c (ok__law_lists T) (hr.mono (by decide)) rfl pass0 (pa_cons (pv 1) (pa_cons (pv 3) (pa_cons (pv 2) pa_nil))))))))))), ?_⟩
  obtain ⟨k, rfl, cs⟩ := h
  have call : ∀ (R : VK) (E' : XK), (∀ z n rs ws Fs s H', a = .str z → RdS z n rs ws → World3 K H b n rs ws → (∀ H', Ex H H' → Q (.bl true) H') → Ex H H' → StoreAt K H' s n rs Fs ws → R (.ref s) H') →
      (b = .non → ((∃ d, Dq K H a d ∧ (∀ ds, d ≠ .list ds) ∧ Small 2000 8 d ∧ ∀ H', Ex H H' → Q (.bl true) H') ∨ (∃ p xs ds, a = .ref p ∧ H p = some (.lst xs) ∧ Dqs K (L2.del H p) xs ds ∧ Small 2000 8 (.list (ds ++ [.str "more"])) ∧ xs.length ≤ 100 ∧ ∀ H', Ex (L2.del H p) H' → Q (.bl true) H')) → Err1 K E' H "InvalidLine" "given" a) → sp_read_store K [a] H R E' := fun R E' good bad => by
    rcases cs with ⟨z, n, rs, ws, rfl, zl, rd, wo, q⟩ | ⟨rfl, ⟨d, hd, hz, nl, sm, q⟩ | ⟨p, xs, ds, rfl, hp, hds, sm, xl, q⟩⟩
    · refine ⟨_, rfl, .str z, .str z, (fun z' e => by cases e; exact zl), (fun no => absurd ⟨n, rs, ws, rd⟩ (no z rfl)), fun z' m qs us Fs s H1 e r ex st hs => ?_⟩
      cases e
      obtain ⟨rfl, rfl, rfl⟩ := rd.one r
      exact good z n rs ws Fs s H1 rfl rd wo q ex st
    · exact ⟨_, rfl, d, hd, fun z e => (hz z e).1, fun _ => bad rfl (.inl ⟨d, hd, nl, sm, q⟩), fun z n rs ws Fs s H' e r => absurd ⟨n, rs, ws, r⟩ (hz z e).2⟩
    · exact ⟨_, rfl, .list ds, .lst (SqL.of hp) (hds.mono Ex.ofDel), (fun z e => nomatch e), fun _ => bad rfl (.inr ⟨p, xs, ds, rfl, hp, hds, sm, xl, q⟩), fun z n rs ws Fs s H' e => nomatch e⟩
  refine seq_at ?_
  refine asg_at ⟨_, rfl, rfl, _, rfl, ?_⟩
  cases decide (V.int k = V.int 0)
  case true =>
    refine iteT ?_
    refine ⟨_, rfl, call _ _ (fun z n rs ws Fs s H1 ea rd wo q ex st => ?_) fun bn ds' d' H1 ex hx => ?_⟩
    · dsimp only [gName]
      refine ret_at (andv_at (op_at ?_))
      have wo1 := wo.mono ex
      obtain ⟨⟨w0, _, _, _, _, ew, _⟩, _⟩ := id wo
      refine ⟨_, rfl, rfl, _, rfl, ?_⟩
      rw [show (!decide (b = V.non)) = true by rw [ew, decide_eq_false (fun z => nomatch z)]; rfl]
      refine iteT (andv_at ?_)
      refine ⟨_, rfl, _, rfl, _, _, rfl, n, rs, ws, s, Fs, wo1, rfl, st, fun H2 e2 => ⟨_, rfl, iteT ?_⟩⟩
      exact ⟨_, rfl, _, rfl, _, rfl, _, _, _, rfl, n, rs, ws, s, Fs, k, wo1.mono e2, rfl, st.mono e2, rfl, fun H3 e3 => q _ (ex.trans (e2.trans e3))⟩
    · refine ⟨true, T.exm (x := "InvalidLine") (y := "InvalidLine") 3 3 rfl rfl rfl, fun _ ax hax => ?_, fun z => nomatch z⟩
      dsimp only [Ends.gone]
      subst bn
      rcases ds' with ⟨d, hd, nl, sm, q⟩ | ⟨p, xs, ds, rfl, hp, hds, sm, xl, q⟩
      · have il : isT "list" d = false := by cases d <;> first | rfl | exact absurd rfl (nl _)
        have hd1 := hd.mono ex
        refine seq_at (ifs_at (b_at (cb2_at ⟨_, rfl, rIsi_of hd1 rfl ?_⟩)))
        rw [il]
        refine ⟨_, rfl, iteF ?_⟩
        dsimp only [tNext]
        refine ret_at (andv_at (op_at ?_))
        refine ⟨_, rfl, rfl, _, rfl, ?_⟩
        rw [decide_eq_true rfl]
        refine iteT (op_at (cb_at ?_))
        refine ⟨_, rfl, rfl, rfl, d', _, _, rfl, hx, rfl, rRepr_of hd1 sm (by omega) (by omega) ?_⟩
        refine cb_at ⟨_, rfl, rRepr_of hd1 sm (by omega) (by omega) ⟨rfl, ?_⟩⟩
        rw [decide_eq_true rfl]
        exact q _ ex
      · have hp1 := ex _ _ hp
        have dl : Dq K H1 (.ref p) (.list ds) := .lst (SqL.of hp1) (hds.mono (Ex.ofDel.trans ex))
        refine seq_at (ifs_at (b_at (cb2_at ⟨_, rfl, rIsi_of dl rfl ?_⟩)))
        refine ⟨_, rfl, iteT ?_⟩
        refine ⟨_, rfl, .inl ⟨rfl, _, SqL.of hp1⟩, p, _, _, rfl, rfl, hp1, line_big (by omega), ?_⟩
        have pd : d' ≠ p := fun z => by rw [z, hp1] at hx; cases hx
        have hp2 := upd_same (H := H1) (a := p) (o := .lst (xs ++ [.str "more"]))
        have hx2 := (upd_ne (H := H1) (o := .lst (xs ++ [.str "more"])) pd).trans hx
        have e2 : Ex (L2.del H p) (upd H1 p (.lst (xs ++ [.str "more"]))) := Ex.mut (Ex.ofDel.trans ex) del_same
        have e3 : Ex (L2.del H p) (L2.del (upd H1 p (.lst (xs ++ [.str "more"]))) p) := ex_dels e2
        generalize upd H1 p (.lst (xs ++ [.str "more"])) = H2 at hp2 hx2 e2 e3 ⊢
        have dl2 : Dq K H2 (.ref p) (.list (ds ++ [.str "more"])) := .lst (SqL.of hp2) ((hds.append (.cons (.str _) .nil)).mono e2)
        dsimp only
        refine ret_at (andv_at (op_at ?_))
        refine ⟨_, rfl, rfl, _, rfl, ?_⟩
        rw [decide_eq_true rfl]
        refine iteT (op_at (cb_at ?_))
        refine ⟨_, rfl, rfl, rfl, d', _, _, rfl, hx2, rfl, rRepr_of dl2 sm (by omega) (by omega) ?_⟩
        refine cb_at ⟨_, rfl, rRepr_of dl2 sm (by omega) (by omega) ⟨rfl, ?_⟩⟩
        rw [decide_eq_true rfl]
        exact q _ e2
  case false =>
    refine iteF ?_
    refine ⟨_, rfl, rfl, rfl, call _ _ (fun z n rs ws Fs s H1 ea rd wo q ex st => ?_) fun bn ds' d' H1 ex hx => ?_⟩
    · dsimp only [gName]
      refine ret_at (andv_at (op_at ?_))
      have wo1 := wo.mono ex
      obtain ⟨⟨w0, _, _, _, _, ew, _⟩, _⟩ := id wo
      refine ⟨_, rfl, rfl, _, rfl, ?_⟩
      rw [show (!decide (b = V.non)) = true by rw [ew, decide_eq_false (fun z => nomatch z)]; rfl]
      refine iteT (andv_at ?_)
      refine ⟨_, rfl, _, rfl, _, _, rfl, n, rs, ws, s, Fs, wo1, rfl, st, fun H2 e2 => ⟨_, rfl, iteT ?_⟩⟩
      exact ⟨_, rfl, _, rfl, _, rfl, _, _, _, rfl, n, rs, ws, s, Fs, k, wo1.mono e2, rfl, st.mono e2, rfl, fun H3 e3 => q _ (ex.trans (e2.trans e3))⟩
    · refine ⟨true, T.exm (x := "InvalidLine") (y := "InvalidLine") 3 3 rfl rfl rfl, fun _ ax hax => ?_, fun z => nomatch z⟩
      dsimp only [Ends.gone]
      subst bn
      rcases ds' with ⟨d, hd, nl, sm, q⟩ | ⟨p, xs, ds, rfl, hp, hds, sm, xl, q⟩
      · have il : isT "list" d = false := by cases d <;> first | rfl | exact absurd rfl (nl _)
        have hd1 := hd.mono ex
        refine seq_at (ifs_at (b_at (cb2_at ⟨_, rfl, rIsi_of hd1 rfl ?_⟩)))
        rw [il]
        refine ⟨_, rfl, iteF ?_⟩
        dsimp only [tNext]
        refine ret_at (andv_at (op_at ?_))
        refine ⟨_, rfl, rfl, _, rfl, ?_⟩
        rw [decide_eq_true rfl]
        refine iteT (op_at (cb_at ?_))
        refine ⟨_, rfl, rfl, rfl, d', _, _, rfl, hx, rfl, rRepr_of hd1 sm (by omega) (by omega) ?_⟩
        refine cb_at ⟨_, rfl, rRepr_of hd1 sm (by omega) (by omega) ⟨rfl, ?_⟩⟩
        rw [decide_eq_true rfl]
        exact q _ ex
      · have hp1 := ex _ _ hp
        have dl : Dq K H1 (.ref p) (.list ds) := .lst (SqL.of hp1) (hds.mono (Ex.ofDel.trans ex))
        refine seq_at (ifs_at (b_at (cb2_at ⟨_, rfl, rIsi_of dl rfl ?_⟩)))
        refine ⟨_, rfl, iteT ?_⟩
        refine ⟨_, rfl, .inl ⟨rfl, _, SqL.of hp1⟩, p, _, _, rfl, rfl, hp1, line_big (by omega), ?_⟩
        have pd : d' ≠ p := fun z => by rw [z, hp1] at hx; cases hx
        have hp2 := upd_same (H := H1) (a := p) (o := .lst (xs ++ [.str "more"]))
        have hx2 := (upd_ne (H := H1) (o := .lst (xs ++ [.str "more"])) pd).trans hx
        have e2 : Ex (L2.del H p) (upd H1 p (.lst (xs ++ [.str "more"]))) := Ex.mut (Ex.ofDel.trans ex) del_same
        have e3 : Ex (L2.del H p) (L2.del (upd H1 p (.lst (xs ++ [.str "more"]))) p) := ex_dels e2
        generalize upd H1 p (.lst (xs ++ [.str "more"])) = H2 at hp2 hx2 e2 e3 ⊢
        have dl2 : Dq K H2 (.ref p) (.list (ds ++ [.str "more"])) := .lst (SqL.of hp2) ((hds.append (.cons (.str _) .nil)).mono e2)
        dsimp only
        refine ret_at (andv_at (op_at ?_))
        refine ⟨_, rfl, rfl, _, rfl, ?_⟩
        rw [decide_eq_true rfl]
        refine iteT (op_at (cb_at ?_))
        refine ⟨_, rfl, rfl, rfl, d', _, _, rfl, hx2, rfl, rRepr_of dl2 sm (by omega) (by omega) ?_⟩
        refine cb_at ⟨_, rfl, rRepr_of dl2 sm (by omega) (by omega) ⟨rfl, ?_⟩⟩
        rw [decide_eq_true rfl]
        exact q _ e2
end

end T1

namespace T1
open PySem PySem.Spec PyProof.Rows L2 G
open Evl (Ex)
local macro_rules | `(tactic| walk_at "dd") => `(tactic| (dsimp only [tCB, tCons, tNil, tC, tOp, tUn, tTest, tB, tVar, tAndV, tOrV, tNotV, tIf, tAnd, tOr, tNot, tSeq, tRet, tRetN, tIfS, tAsg, gName, tDrop, tTup, tLst, tChain, tNext, tCall, L2.start]))
theorem Small.dict1 {w p w' p' : Nat} {k v : PyData} (hk : Small w p k) (hv : Small w' p' v) : Small (w + w' + 2) (max p p' + 1) (.dict [(k, v)]) := by
  refine ⟨?_, ?_, ?_, ?_⟩
  · simp only [PyData.leavesShort, PyData.leavesShortKv, hk.lf, hv.lf, Bool.and_self]
  · simp only [PyData.showable, PyData.showableKv, hk.sh, hv.sh, Bool.and_self]
  · have a := hk.dp
    have b := hv.dp
    simp only [PyData.depth, PyData.depthKv]; omega
  · have a := hk.wt
    have b := hv.wt
    simp only [PyData.weight, PyData.weightKv]; omega
theorem str_ne (n : Nat) : TL.tl (TT.str n) ≠ [] := fun e => by
  have z := TT.num_str n
  unfold TT.num at z
  rw [e] at z
  cases z
theorem sline_head (n : Nat) (rs ws : List (Nat × Nat)) : ∃ c r, TL.tl (TT.sline n rs ws) = c :: r ∧ c ≠ 32 := by
  rw [sline_join, TT.tl_joined, TL.tl_append]
  cases e : TL.tl (TT.str n) with
  | nil => exact absurd e (str_ne n)
  | cons c r =>
    have := TT.str_sign (n := n) (c := c) (by rw [e]; exact List.mem_cons_self)
    exact ⟨c, _, rfl, by omega⟩
theorem joined_last (p : Str) (us : List Str) {q : Str} {c : Nat} (h : (TL.tl q).getLast? = some c) : (TL.tl (Txt.join " " (p :: (us ++ [q])))).getLast? = some c := by
  rw [TT.tl_joined, List.flatMap_append, ← List.append_assoc, List.getLast?_append]
  have e : ([q].flatMap fun q => 32 :: TL.tl q) = 32 :: TL.tl q := by simp
  rw [e, List.getLast?_cons, h]; rfl
theorem wrt_last (p : Nat × Nat) : ∃ c, (TL.tl (TT.wrt p)).getLast? = some c ∧ c ≠ 32 := by
  unfold TT.wrt
  rw [TL.tl_append, List.getLast?_append]
  cases e : (TL.tl (TT.str p.2)).getLast? with
  | none => exact absurd (List.getLast?_eq_none_iff.mp e) (str_ne _)
  | some c =>
    have := TT.str_sign (List.mem_of_getLast? e)
    exact ⟨c, rfl, by omega⟩
theorem sline_last (n : Nat) (rs ws : List (Nat × Nat)) : (TL.tl (TT.sline n rs ws)).getLast? ≠ some 32 := by
  rw [sline_join]
  rcases List.eq_nil_or_concat ws with rfl | ⟨us, p, rfl⟩
  · have z := joined_last (TT.str n ++ ":") (rs.map fun p => TT.str p.1 ++ "-" ++ TT.str p.2) (q := "/") (c := 47) (by decide +kernel)
    exact fun h => by
      have y := z.symm.trans h
      cases y
  · obtain ⟨c, hc, c32⟩ := wrt_last p
    have z := joined_last (TT.str n ++ ":") (rs.map (fun p => TT.str p.1 ++ "-" ++ TT.str p.2) ++ ("/" : Str) :: us.map TT.wrt) (q := TT.wrt p) hc
    have e : (rs.map (fun p => TT.str p.1 ++ "-" ++ TT.str p.2) ++ ("/" : Str) :: (us ++ [p]).map TT.wrt) = (rs.map (fun p => TT.str p.1 ++ "-" ++ TT.str p.2) ++ ("/" : Str) :: us.map TT.wrt) ++ [TT.wrt p] := by simp
    rw [List.concat_eq_append, e]
    exact fun h => c32 (Option.some.inj (z.symm.trans h))
theorem no_line_behind {z : Str} : ¬ ∃ n rs ws, RdS (z ++ Str.ofString "  ") n rs ws := by
  rintro ⟨n, rs, ws, _, _, _, e⟩
  refine sline_last n rs ws ?_
  rw [← e, TL.tl_append, show TL.tl (Str.ofString "  ") = [32, 32] by decide +kernel, List.getLast?_append]; rfl
theorem no_line_ahead {z : Str} : ¬ ∃ n rs ws, RdS (Str.ofString " " ++ z) n rs ws := by
  rintro ⟨n, rs, ws, _, _, _, e⟩
  obtain ⟨c, r, h, ne⟩ := sline_head n rs ws
  rw [← e, TL.tl_append, show TL.tl (Str.ofString " ") = [32] by decide +kernel] at h
  exact ne (List.cons.inj h).1.symm
theorem no_line_short {z : Str} (h : (Txt.split z " ").length ≤ 1) : ¬ ∃ n rs ws, RdS z n rs ws := by
  rintro ⟨n, rs, ws, r⟩
  obtain ⟨f, R, S, e, _⟩ := r.words
  rw [e] at h
  simp at h
theorem sline_words {n : Nat} {rs ws : List (Nat × Nat)} (hn : n < 100) (h1 : ∀ p ∈ rs, p.1 < 100 ∧ p.2 < 100) (h2 : ∀ p ∈ ws, p.1 < 100 ∧ p.2 < 100) : ∀ p ∈ Txt.split (TT.sline n rs ws) " ", p.length ≤ 10 := fun p hp => by
  have c1 : (":" : Str).length = 1 := rfl
  have c2 : ("-" : Str).length = 1 := rfl
  have c3 : ("." : Str).length = 1 := rfl
  have c4 : ("/" : Str).length = 1 := rfl
  rw [sline_split] at hp
  rcases (List.mem_cons.mp hp) with rfl | hp
  · have := TT.str2 hn
    rw [TT.len_app, c1]; omega
  rcases (List.mem_append.mp hp) with hp | hp
  · obtain ⟨q, hq, rfl⟩ := List.mem_map.mp hp
    have a := TT.str2 (h1 q hq).1
    have b := TT.str2 (h1 q hq).2
    rw [TT.len_app, TT.len_app, c2]; omega
  rcases (List.mem_cons.mp hp) with rfl | hp
  · omega
  · obtain ⟨q, hq, rfl⟩ := List.mem_map.mp hp
    have a := TT.str2 (h2 q hq).1
    have b := TT.str2 (h2 q hq).2
    unfold TT.wrt
    rw [TT.len_app, TT.len_app, c3]; omega
def sp__law_lines (K : PySem.W.Frag) : Sp := sp3 fun a b c H Q E => ∃ (A : Addr) (c0 n : Nat) (rs ws : List (Nat × Nat)) (k : Int), a = .ref A ∧ World3 K (L2.del H A) b n rs ws ∧ c = .int k ∧ c0 ≤ 700000 ∧ BoxAt H A c0 ∧ ∀ H', Ex (L2.del H A) H' → BoxAt H' A (c0 + 40) → Q (.bl true) H'
section
variable {K : PySem.W.Frag} {mg : Str → Option Value} {P : Program} {w : World} {base : Heap}
theorem ok__law_lines (T : Tx K mg) : Cal P w K mg base CX0 10 "_law_lines" ["_law_box_here", "_law_world_here", "_law_turn"] (sp__law_lines K) := by
  refine cal_of (fD__law_lines T) (T.glo 50 rfl) sc__law_lines (fun _ _ _ _ _ _ us hl => match us, hl with | [_, _, _], _ => rfl) (fun vs H Q E h => len3 h) (fun f cdv A outer s H vs Q E hr h => ?_)
  obtain ⟨a, b, c, rfl, h⟩ := h
  refine ⟨_, (PSs.nox (pss_cons (ps_set (i := 3) sc__law_lines.nd rfl (Or.inl rfl) (pe_c (ok__law_text T) (hr.mono (by decide)) rfl pass0 (pa_cons (pv 1) pa_nil)))
      (pss_cons (ps_if (pt_not (pt_val (pe_c (ok__law_lined T) (hr.mono (by decide)) rfl pass0 (pa_cons (pv 3) (pa_cons (pv 1) (pa_cons (pv 2) pa_nil)))))) (pss_one (ps_ret pe_bl)) pss_nil)
      (pss_cons (ps_for PassesOwn.never rfl (pi_range1 (by rfl) (T.free 11 rfl) (pa_cons pe_int pa_nil)) (pg_name (i := 4) sc__law_lines.nd rfl (Or.inl rfl)) (pss_cons (ps_set (i := 5) sc__law_lines.nd rfl (Or.inl rfl) (pe_c (ok__law_spoilt T) (hr.mono (by decide)) rfl pass0 (pa_cons (pv 0) (pa_cons (pv 3) pa_nil))))
      (pss_one (ps_if (pt_not (pt_val (pe_c (ok__law_lined T) (hr.mono (by decide)) rfl pass0 (pa_cons (pv 5) (pa_cons (pe_c (ok__law_read T) (hr.mono (by decide)) rfl pass0 (pa_cons (pv 5) pa_nil)) (pa_cons (pe_op op_mod (pe_callTy call_int1 (by rfl) (T.free 5 rfl) (by decide +kernel) (pa_cons (pe_op op_add (pv 2) (pv 4)) pa_nil)) pe_int) pa_nil)))))) (pss_one (ps_ret pe_bl)) pss_nil))))
      (pss_cons (ps_for PassesOwn.never rfl (pi_list (pe_lst (pa_cons pe_non (pa_cons pe_int (pa_cons pe_bl (pa_cons pe_str (pa_cons pe_str (pa_cons (pe_lst (pa_cons (pv 3) pa_nil)) (pa_cons (pe_tup (pa_cons (pv 3) pa_nil)) (pa_cons (pe_disp (pps_cons pe_str (pv 3) pps_nil) rfl rfl (fun z => nomatch z) (by decide)) (pa_cons (pe_op op_add_str (pv 3) (pe_op op_mul_str pe_str pe_int)) (pa_cons (pe_op op_add_str pe_str (pv 3)) pa_nil)))))))))))) (pg_name (i := 6) sc__law_lines.nd rfl (Or.inl rfl)) (pss_one (ps_if (pt_not (pt_val (pe_c (ok__law_lined T) (hr.mono (by decide)) rfl pass0 (pa_cons (pv 6) (pa_cons pe_non (pa_cons (pv 2) pa_nil)))))) (pss_one (ps_ret pe_bl)) pss_nil)))
      (pss_one (ps_ret pe_bl))))))), ?_⟩
  obtain ⟨A, c0, n, rs, ws, k, rfl, wo, rfl, c9, hb, q⟩ := h
  have n16 := wo.ok.n16
  have lt1 : ∀ p ∈ rs, p.1 < 100 ∧ p.2 < 100 := fun p hp => by have := wo.ok.sub.1 p hp; omega
  have lt2 : ∀ p ∈ ws, p.1 < 100 ∧ p.2 < 100 := fun p hp => by have := wo.lt p hp; omega
  have big : ∀ {k : Nat}, k ≤ 5000 → k ≤ sizeLine := fun {k} hk => by rw [sizeLine_eq]; omega
  have rl := wo.ok.rl
  have few := wo.few
  have zl : (TT.sline n rs ws).length ≤ 180 := by
    have := TT.sline_len (n := n) (by omega) lt1 lt2
    omega
  have tz : Tx8 180 (TT.sline n rs ws) := ⟨zl, TT.asc_sline n rs ws⟩
  have z1 : 1 ≤ (TT.sline n rs ws).length := by
    obtain ⟨c, r, e, _⟩ := sline_head n rs ws
    rw [TL.len_tl, e]; simp
  have wd := sline_words (n := n) (by omega) lt1 lt2
  have rd : RdS (TT.sline n rs ws) n rs ws := ⟨wo.ok.reads, wo.few, wo.lt, rfl⟩
  refine seq_at (asg_at ?_)
  refine ⟨_, rfl, _, rfl, n, rs, ws, wo.mono Ex.ofDel, fun H1 e1 => ?_⟩
  have e01 : Ex (L2.del H A) H1 := Ex.ofDel.trans e1
  have hb1 := hb.mono e1
  dsimp only [gName]
  generalize TT.sline n rs ws = z at zl tz z1 wd rd ⊢
  have w1 : World3 K H1 b n rs ws := wo.mono e01
  refine seq_at (ifs_at (not_at (b_at ?_)))
  refine ⟨_, rfl, _, rfl, _, rfl, _, _, _, rfl, k, rfl, .inl ⟨z, n, rs, ws, rfl, by omega, rd, w1, fun H2 e2 => ⟨_, rfl, iteF ?_⟩⟩⟩
  have e02 := e01.trans e2
  have hb2 := hb1.mono e2
  dsimp only [tNext]
  refine seq_at ?_
  refine for_at (B := L2.del H A) (n := 6) (item := fun i => .int (0 + i)) (fun P q => w_rngB (n := 6) (fun Q q => q) (by omega) fun J H3 e S => q J H3 e (S _))
    (fun i σ' H' => (∃ s4 s5, σ' = [some (.ref A), some b, some (.int k), some (.str z), s4, s5, none]) ∧ Ex (L2.del H A) H' ∧ BoxAt H' A (c0 + 6 * i)) ?_ (fun i σ' H' z => z.2.1) ?_ ?_
  · exact fun H3 e3 => ⟨⟨_, _, rfl⟩, e02.trans e3, hb2.mono e3⟩
  · rintro i σ' H3 hi ⟨⟨s4, s5, rfl⟩, e3, hb3⟩
    have ei : (0 : Int) + (i : Int) = ((i : Nat) : Int) := by omega
    rw [ei]
    dsimp only [gName]
    refine seq_at (asg_at ?_)
    refine ⟨_, rfl, _, rfl, _, _, rfl, A, c0 + 6 * i, z, rfl, by omega, hb3, rfl, tz, z1, wd, fun z' H4 e4 hb4 tz' => ?_⟩
    have e04 := ex_of_del e3 del_same e4
    have l4 := tz'.ln
    dsimp only [gName]
    refine ifs_at (not_at (b_at ?_))
    refine ⟨_, rfl, cons_at ⟨_, rfl, _, rfl, z', rfl, by omega, fun no H5 e5 => ?_, fun m qs us w H5 r5 e5 w5 => ?_⟩⟩
    · refine ⟨_, rfl, _, rfl, _, _, rfl, rfl, .inl ⟨_, rfl, _, _, rfl, rfl, (by show (0 : Int) < 2; decide), ?_⟩⟩
      refine ⟨_, _, _, rfl, _, rfl, .inr ⟨rfl, .inl ⟨.str z', .str _, (fun y ey => by cases ey; exact ⟨by omega, no⟩), (fun _ y => nomatch y), (small_str (tz'.up (by omega))).mono (by omega) (by omega), fun H6 e6 => ⟨_, rfl, iteF ?_⟩⟩⟩⟩
      exact ⟨⟨_, _, rfl⟩, e04.trans (e5.trans e6), (hb4.mono (e5.trans e6)).up (by omega)⟩
    · refine ⟨_, rfl, _, rfl, _, _, rfl, rfl, .inl ⟨_, rfl, _, _, rfl, rfl, (by show (0 : Int) < 2; decide), ?_⟩⟩
      refine ⟨_, _, _, rfl, _, rfl, .inl ⟨z', m, qs, us, rfl, by omega, r5, w5, fun H6 e6 => ⟨_, rfl, iteF ?_⟩⟩⟩
      exact ⟨⟨_, _, rfl⟩, e04.trans (e5.trans e6), (hb4.mono (e5.trans e6)).up (by omega)⟩
  rintro σ' H3 ⟨⟨s4, s5, rfl⟩, e3, hb3⟩
  dsimp only
  refine seq_at ?_
  refine ⟨_, rfl, (by show 1 ≤ sizeLine; decide), fun l1 h1 => ⟨_, rfl, (by show 1 ≤ sizeLine; decide), fun t1 ht1 => fun p hp => ⟨_, rfl, upd_same, [(.inr "line", .str z)], rfl, (by show 1 ≤ 15; decide), ?_⟩⟩⟩
  have x1 := Ex.new (o := .lst [V.str z]) h1
  have x2 := Ex.new (o := .tup [V.str z]) ht1
  have x3 := Ex.mut (o := .dK (mergeK [] [(.inr "line", .str z)])) (Ex.new (o := .dK []) hp) hp
  have g1 := (x2.trans x3) _ _ (upd_same (H := H3) (a := l1) (o := .lst [V.str z]))
  have g2 := x3 _ _ (upd_same (H := upd H3 l1 (.lst [V.str z])) (a := t1) (o := .tup [V.str z]))
  have g3 : (upd (upd (upd (upd H3 l1 (.lst [V.str z])) t1 (.tup [V.str z])) p (.dK [])) p (.dK (mergeK [] [(.inr "line", .str z)]))) p = some (.dK [(.inr "line", .str z)]) := upd_same
  have x13 := x1.trans (x2.trans x3)
  have n1 : L2.del H A l1 = none := Evl.fresh_back e3 h1
  obtain ⟨l0, hA3⟩ := hb3.some
  have l1A : l1 ≠ A := (ne_of_none hA3 h1).symm
  generalize (upd (upd (upd (upd H3 l1 (.lst [V.str z])) t1 (.tup [V.str z])) p (.dK [])) p (.dK (mergeK [] [(.inr "line", .str z)]))) = H4 at x13 g1 g2 g3 ⊢
  clear x1 x2 x3 h1 ht1 hp
  have two : (⟨(List.replicate (2 : Int).toNat (Str.ofString " ").cps).foldl (· ++ ·) #[]⟩ : Str) = Str.ofString "  " := by decide +kernel
  have c2 : (Str.ofString "  ").length = 2 := by decide +kernel
  have c1 : (Str.ofString " ").length = 1 := by decide +kernel
  refine ⟨_, rfl, Str.ofString " ", 2, rfl, rfl, by decide, by decide, by decide +kernel, by decide +kernel, ?_⟩
  rw [two]
  refine ⟨_, _, rfl, rfl, by rw [c2]; exact big (by omega), _, rfl, _, _, rfl, rfl, by rw [c1]; exact big (by omega), (by show 10 ≤ sizeLine; decide), fun L hL => ?_⟩
  have y1 := Ex.new (o := .lst [V.non, .int 5, .bl true, .str (Str.ofString ""), .str (Str.ofString "1:"), .ref l1, .ref t1, .ref p, .str (z ++ Str.ofString "  "), .str (Str.ofString " " ++ z)]) hL
  have gL := upd_same (H := H4) (a := L) (o := .lst [V.non, .int 5, .bl true, .str (Str.ofString ""), .str (Str.ofString "1:"), .ref l1, .ref t1, .ref p, .str (z ++ Str.ofString "  "), .str (Str.ofString " " ++ z)])
  refine ⟨L, rfl, ⟨_, SqL.of upd_same⟩, ?_⟩
  have Ll1 : L ≠ l1 := (ne_of_none g1 hL).symm
  have t1l : t1 ≠ l1 := ne_of g2 g1 (by intro y; cases y)
  have pl1 : p ≠ l1 := ne_of g3 g1 (by intro y; cases y)
  replace g1 := y1 _ _ g1
  replace g2 := y1 _ _ g2
  replace g3 := y1 _ _ g3
  have xy := x13.trans y1
  have hb5 := hb3.mono xy
  generalize upd H4 L (.lst [V.non, .int 5, .bl true, .str (Str.ofString ""), .str (Str.ofString "1:"), .ref l1, .ref t1, .ref p, .str (z ++ Str.ofString "  "), .str (Str.ofString " " ++ z)]) = H5 at g1 g2 g3 gL xy hb5 ⊢
  have bas : Ex (L2.del H A) (L2.del H5 l1) := ex_to_del (e3.trans xy) n1
  have sz : Small 500 1 (.str z) := small_str (tz.up (by omega))
  have item : ∀ i, i < 10 → (i = 5 ∧ G.nth [V.non, .int 5, .bl true, .str (Str.ofString ""), .str (Str.ofString "1:"), .ref l1, .ref t1, .ref p, .str (z ++ Str.ofString "  "), .str (Str.ofString " " ++ z)] i = .ref l1) ∨
      ∃ d, Dq K (L2.del H5 l1) (G.nth [V.non, .int 5, .bl true, .str (Str.ofString ""), .str (Str.ofString "1:"), .ref l1, .ref t1, .ref p, .str (z ++ Str.ofString "  "), .str (Str.ofString " " ++ z)] i) d ∧ (∀ z, d = .str z → z.length ≤ 500 ∧ ¬ ∃ n rs ws, RdS z n rs ws) ∧ (∀ ds, d ≠ .list ds) ∧ Small 2000 8 d := fun i hi => by
    match i, hi with
    | 0, _ => exact .inr ⟨_, .non, (fun _ y => nomatch y), (fun _ y => nomatch y), smallB_ok (by decide +kernel)⟩
    | 1, _ => exact .inr ⟨_, .int _, (fun _ y => nomatch y), (fun _ y => nomatch y), smallB_ok (by decide +kernel)⟩
    | 2, _ => exact .inr ⟨_, .bl _, (fun _ y => nomatch y), (fun _ y => nomatch y), smallB_ok (by decide +kernel)⟩
    | 3, _ => exact .inr ⟨_, .str _, (fun y ey => by cases ey; exact ⟨by decide +kernel, no_line_short (by decide +kernel)⟩), (fun _ y => nomatch y), smallB_ok (by decide +kernel)⟩
    | 4, _ => exact .inr ⟨_, .str _, (fun y ey => by cases ey; exact ⟨by decide +kernel, no_line_short (by decide +kernel)⟩), (fun _ y => nomatch y), smallB_ok (by decide +kernel)⟩
    | 5, _ => exact .inl ⟨rfl, rfl⟩
    | 6, _ => exact .inr ⟨.tuple [.str z], .tup (SqT.of (by rw [del_ne t1l]; exact g2)) (.cons (.str _) .nil), (fun _ y => nomatch y), (fun _ y => nomatch y), (Small.tuple (w := 500) (p := 1) fun d m => by rw [List.mem_singleton.mp m]; exact sz).mono (by simp) (by omega)⟩
    | 7, _ => exact .inr ⟨.dict [(.str "line", .str z)], .dic (kvs := [(.inr "line", .str z)]) (ds := [.str z]) (by rw [del_ne pl1]; exact g3) (.cons (.str _) .nil), (fun _ y => nomatch y), (fun _ y => nomatch y), (Small.dict1 (w := 100) (p := 4) (smallB_ok (by decide +kernel)) sz).mono (by omega) (by decide)⟩
    | 8, _ => exact .inr ⟨_, .str _, (fun y ey => by cases ey; exact ⟨by rw [TT.len_app, c2]; omega, no_line_behind⟩), (fun _ y => nomatch y), (small_str ((tz.app (⟨by rw [c2]; omega, TT.asc_of (by decide +kernel)⟩ : Tx8 2 (Str.ofString "  "))).up (by omega))).mono (by omega) (by omega)⟩
    | 9, _ => exact .inr ⟨_, .str _, (fun y ey => by cases ey; exact ⟨by rw [TT.len_app, c1]; omega, no_line_ahead⟩), (fun _ y => nomatch y), (small_str (((⟨by rw [c1]; omega, TT.asc_of (by decide +kernel)⟩ : Tx8 1 (Str.ofString " ")).app tz).up (by omega))).mono (by omega) (by omega)⟩
  have gB : SqL K (L2.del H5 l1) L _ := SqL.of (by rw [del_ne Ll1]; exact gL)
  refine for_gen (its_l gB) (fun i σ' H' => (∃ s6, σ' = [some (.ref A), some b, some (.int k), some (.str z), s4, s5, s6]) ∧ Ex (L2.del H5 l1) H' ∧ BoxAt H' A (c0 + 36) ∧ (i ≤ 5 → H' l1 = some (.lst [.str z]))) ?_ (fun i σ' H' z => z.2.1) ?_ ?_
  · exact ⟨⟨_, rfl⟩, Ex.ofDel, hb5, fun _ => g1⟩
  · rintro i σ' H6 hi ⟨⟨s6, rfl⟩, e6, hb6, hl6⟩
    dsimp only [gName]
    refine ifs_at (not_at (b_at ?_))
    refine ⟨_, rfl, _, rfl, _, _, _, rfl, k, rfl, .inr ⟨rfl, ?_⟩⟩
    rcases item i hi with ⟨i5, ev⟩ | ⟨d, hd, hz, nl, sm⟩
    · rw [ev]
      have hl := hl6 (by omega)
      refine .inr ⟨l1, _, [.str z], rfl, hl, .cons (.str _) .nil, ?_, by simp, fun H7 e7 => ⟨_, rfl, iteF ?_⟩⟩
      · refine (Small.list (w := 500) (p := 4) fun d m => ?_).mono (by simp) (by omega)
        rcases (List.mem_cons.mp m) with rfl | m
        · exact sz.mono (by omega) (by omega)
        · rw [List.mem_singleton.mp m]; exact smallB_ok (by decide +kernel)
      · refine ⟨⟨_, rfl⟩, ex_of_del e6 del_same e7, ?_, fun y => absurd y (by omega)⟩
        exact (box_del hb6 l1A).mono e7
    · refine .inl ⟨d, hd.mono e6, hz, nl, sm, fun H7 e7 => ⟨_, rfl, iteF ?_⟩⟩
      exact ⟨⟨_, rfl⟩, e6.trans e7, hb6.mono e7, fun y => e7 _ _ (hl6 (by omega))⟩
  rintro σ' H6 ⟨⟨s6, rfl⟩, e6, hb6, _⟩
  dsimp only
  refine ret_at ?_
  exact q _ (bas.trans e6) (hb6.up (by omega))
end

end T1

namespace T1
open PySem PySem.Spec PyProof.Rows L2 G
open Evl (Ex)
local macro_rules | `(tactic| walk_at "dd") => `(tactic| (dsimp only [tCB, tCons, tNil, tC, tOp, tUn, tTest, tB, tVar, tAndV, tOrV, tNotV, tIf, tAnd, tOr, tNot, tSeq, tRet, tRetN, tIfS, tAsg, gName, tDrop, tTup, tLst, tChain, tNext, tCall, L2.start]))
section
variable {X : Cx} {K : PySem.W.Frag}
theorem store_eq (T : Tx X.K X.mg) (hr : RG 3 X.A) (h : X.K = K := by rfl) : OpR X (compareOp .Eq) (rCmpO K (He.ga K "Store") false (sp_Store___eq__ K) E0) := by
  subst h
  obtain ⟨fd, F, G⟩ := ok_Store___eq__ (P := X.prog) (w := X.w) (base := X.base) T
  exact op_eqO ⟨(me_Store___eq__ T).at_, (me_Store___eq__ T).fn.symm⟩ G hr (F.bindsN fun _ _ _ _ _ _ us hl => match us, hl with | [_, _], _ => rfl) pass0
theorem store_ne (T : Tx X.K X.mg) (hr : RG 4 X.A) (h : X.K = K := by rfl) : OpR X (compareOp .NotEq) (rCmpO K (He.ga K "Store") true (sp_Store___eq__ K) E0) := by
  subst h
  obtain ⟨fd, F, G⟩ := ok_Store___eq__ (P := X.prog) (w := X.w) (base := X.base) T
  exact op_neO ⟨(me_Store___eq__ T).at_, (me_Store___eq__ T).fn.symm⟩ (T.own 1 rfl).ne (T.own 1 rfl).hm G hr (F.bindsN fun _ _ _ _ _ _ us hl => match us, hl with | [_, _], _ => rfl) pass0
end
theorem store_ty {K : PySem.W.Frag} {mg : Str → Option Value} {H : Hp} {s : Addr} (T : Tx K mg) (h : InsAt (He.ga K "Store") s H) : TyX K H (.ref s) (.ref (He.ga K "Store")) := by
  obtain ⟨_, _, g⟩ := h
  exact .base (.ins g (cl_Store T) (T.own 1 rfl).ha (T.own 1 rfl).got.1.symm (T.own 1 rfl).got.2.symm (T.own 1 rfl).hm)
theorem cmp_stores {K : PySem.W.Frag} {mg : Str → Option Value} {H : Hp} {s t : Addr} {n m : Nat} {rs qs Fs Gs ws us} {Q : VK} (T : Tx K mg) (h1 : StoreAt K H s n rs Fs ws) (h2 : StoreAt K H t m qs Gs us) (q : Q (.bl (decide (n = m) && decide (rs = qs) && decide (ws = us))) H) :
    rCmpO K (He.ga K "Store") false (sp_Store___eq__ K) E0 (.ref s) (.ref t) H Q :=
  ⟨s, _, rfl, h1.ins, store_ty T h2.ins, nf_same, _, _, rfl, s, n, rs, Fs, ws, rfl, h1, .inl ⟨t, m, qs, Gs, us, rfl, h2, _, rfl, q⟩⟩
/-- no store: a tree, data, a tuple -/
def NoS (K : PySem.W.Frag) (H : Hp) (v : V) : Prop := (∃ t, v = .ref t ∧ InsAt (He.ga K "Tree") t H) ∨ (∃ d, Dq K H v d) ∨ ∃ t xs, v = .ref t ∧ H t = some (.tup xs)
theorem NoS.mono {K : PySem.W.Frag} {H H' : Hp} {v : V} (e : Ex H H') (h : NoS K H v) : NoS K H' v := by
  rcases h with ⟨t, h1, h2⟩ | ⟨d, h⟩ | ⟨t, xs, h1, h2⟩
  · exact .inl ⟨t, h1, h2.mono e⟩
  · exact .inr (.inl ⟨d, h.mono e⟩)
  · exact .inr (.inr ⟨t, xs, h1, e _ _ h2⟩)
theorem cmp_no {K : PySem.W.Frag} {mg : Str → Option Value} {H : Hp} {s : Addr} {v : V} {n : Nat} {rs Fs ws} {Q : VK} {neg : Bool} (T : Tx K mg) (h1 : StoreAt K H s n rs Fs ws) (h2 : NoS K H v) (q : Q (.bl neg) H) : rCmpO K (He.ga K "Store") neg (sp_Store___eq__ K) E0 (.ref s) v H Q := by
  have fin : ∀ {t : Value}, TyX K H v t → PySem.W.notFirst K (He.ga K "Store") t = true → NoStore K H v → rCmpO K (He.ga K "Store") neg (sp_Store___eq__ K) E0 (.ref s) v H Q := fun ty nf ns =>
    ⟨s, _, rfl, h1.ins, ty, nf, _, _, rfl, s, n, rs, Fs, ws, rfl, h1, .inr ⟨ns, false, rfl, by cases neg <;> exact q⟩⟩
  rcases h2 with ⟨t, rfl, h⟩ | ⟨d, h⟩ | ⟨t, xs, rfl, h⟩
  · have h' := h
    obtain ⟨_, _, g⟩ := h'
    exact fin (.base (.ins g (cl_Tree T) (T.own 0 rfl).ha (T.own 0 rfl).got.1.symm (T.own 0 rfl).got.2.symm (T.own 0 rfl).hm)) (nf_of ((T.own 1 rfl).ow "Tree" (by simp [owns]))) (.inr ⟨t, rfl, h⟩)
  · exact fin h.ty (nf_of ((T.own 1 rfl).ty _ (tyN_mem d))) (.inl ⟨_, tyN_mem d, h.ty⟩)
  · exact fin (.base (.tup h)) (nf_of ((T.own 1 rfl).ty "tuple" (by simp))) (.inl ⟨"tuple", by simp, .base (.tup h)⟩)
theorem StoreAt.del {K : PySem.W.Frag} {H : Hp} {D a : Addr} {l : List V} {n : Nat} {rs Fs ws} (hD : H D = some (.lst l)) (h : StoreAt K H a n rs Fs ws) : StoreAt K (L2.del H D) a n rs Fs ws := by
  obtain ⟨⟨dx, t, r1, r2, z, h1, h2, h3⟩, b1, b2⟩ := h
  exact ⟨⟨dx, t, r1, r2, by rw [del_ne (fun e => by rw [e, hD] at z; cases z)]; exact z, TreeAt.del hD h1, h2.del hD (tups_row _), h3.del hD (tups_row _)⟩, b1, b2⟩
theorem ex_setL {H : Hp} {p : Addr} {o : HO} : Ex (L2.del H p) (upd H p o) := Ex.mut Ex.ofDel del_same
theorem eqv_intsL (l m : List Nat) : PyData.eqv (.list (l.map intD)) (.list (m.map intD)) = decide (l = m) := by
  rw [← eqv_rows2]
  unfold rowD
  simp only [PyData.eqv]
theorem shaped_intsL (l : List Nat) : SeqAt.shaped (.list (l.map intD)) = true := (shaped_ints l).1
/-- a world's data -/
def wD3 (n : Nat) (rs ws : List (Nat × Nat)) : PyData := .list [.int (n : Int), .list (rs.map pairD), .list ((ws.map (·.1)).map intD), .list ((ws.map (·.2)).map intD)]
theorem eqv_wD3 (n m : Nat) (rs qs ws us : List (Nat × Nat)) : PyData.eqv (wD3 n rs ws) (wD3 m qs us) = (decide (n = m) && decide (rs = qs) && decide (ws = us)) := by
  have e : PyData.eqv (wD3 n rs ws) (wD3 m qs us) = (PyData.eqv (intD n) (intD m) && (PyData.eqv (.list (rs.map pairD)) (.list (qs.map pairD)) && (PyData.eqv (.list ((ws.map (·.1)).map intD)) (.list ((us.map (·.1)).map intD)) && (PyData.eqv (.list ((ws.map (·.2)).map intD)) (.list ((us.map (·.2)).map intD)) && true)))) := rfl
  rw [e, eqv_int2, eqv_rdsL, eqv_intsL, eqv_intsL, Bool.eq_iff_iff]
  simp only [Bool.and_eq_true, decide_eq_true_eq, and_true]
  constructor
  · rintro ⟨a, b, c, d⟩
    exact ⟨⟨a, b⟩, zip_eq c d⟩
  · rintro ⟨⟨a, b⟩, rfl⟩
    exact ⟨a, b, rfl, rfl⟩
theorem shaped_wD3 (n : Nat) (rs ws : List (Nat × Nat)) : SeqAt.shaped (wD3 n rs ws) = true := by
  have a := shaped_intsL (ws.map (·.1))
  have b := shaped_intsL (ws.map (·.2))
  have c := (shaped_pairs rs).1
  unfold SeqAt.shaped at a b c ⊢
  unfold wD3
  rw [Bool.and_eq_true, decide_eq_true_eq] at a b c ⊢
  refine ⟨?_, ?_⟩
  · simp only [PyData.canLay0, PyData.canLayAll0, Bool.and_true, Bool.true_and, Bool.and_eq_true] at a b c ⊢
    exact ⟨c.1, a.1, b.1⟩
  · have d1 := depth_ints (ws.map (·.1))
    have d2 := depth_ints (ws.map (·.2))
    have d3 : PyData.depthAll (rs.map pairD) ≤ 2 := by
      clear a b c d1 d2
      induction rs with
      | nil => simp [PyData.depthAll]
      | cons l F ih =>
        have : (pairD l).depth ≤ 2 := by simp [pairD, intD, PyData.depth, PyData.depthAll]
        simp only [List.map_cons, PyData.depthAll]; omega
    simp only [PyData.depth, PyData.depthAll] at d1 d2 ⊢
    omega
theorem World3.dq {K : PySem.W.Frag} {H : Hp} {w : V} {n : Nat} {rs ws : List (Nat × Nat)} (h : World3 K H w n rs ws) : Dq K H w (wD3 n rs ws) := by
  obtain ⟨⟨a, s, hl, cl, ts, rfl, h1, h2, h3, h4, h5⟩, _⟩ := h
  exact .lst (SqL.of h1) (.cons (.int _) (.cons (.lst (SqL.of h2) (tp_dqs h3)) (.cons (.lst (SqL.of h4) (nat_rows _ _ _)) (.cons (.lst (SqL.of h5) (nat_rows _ _ _)) .nil))))
def sp__law_right (K : PySem.W.Frag) : Sp := sp1 fun a H Q E => ∃ (A : Addr) (c0 : Nat), a = .ref A ∧ c0 ≤ 500000 ∧ BoxAt H A c0 ∧ ∀ H', Ex (L2.del H A) H' → Q (.bl true) H'
section
variable {K : PySem.W.Frag} {mg : Str → Option Value} {P : Program} {w : World} {base : Heap}
theorem ok__law_right (T : Tx K mg) : Cal P w K mg base CX0 12 "_law_right" ["_law_box_here"] (sp__law_right K) := by
  refine cal_of (fD__law_right T) (T.glo 51 rfl) sc__law_right (fun _ _ _ _ _ _ us hl => match us, hl with | [_], _ => rfl) (fun vs H Q E h => len1 h) (fun f cdv A outer s H vs Q E hr h => ?_)
  obtain ⟨a, rfl, h⟩ := h
  refine ⟨_, (PSs.nox (pss_cons (ps_par3 (i := 1) (j := 2) (l := 3) rfl sc__law_right.nd rfl rfl rfl (by decide) (by decide) (by decide) rfl rfl rfl (pa_cons (pe_c (ok__law_take T) (hr.mono (by decide)) rfl pass0 (pa_cons (pv 0) (pa_cons pe_int pa_nil))) (pa_cons (pe_c (ok__law_take T) (hr.mono (by decide)) rfl pass0 (pa_cons (pv 0) (pa_cons pe_int pa_nil))) (pa_cons (pe_c (ok__law_take T) (hr.mono (by decide)) rfl pass0 (pa_cons (pv 0) (pa_cons pe_int pa_nil))) pa_nil))) (by rfl))
      (pss_cons (ps_set (i := 4) sc__law_right.nd rfl (Or.inl rfl) (pe_c (ok__law_world T) (hr.mono (by decide)) rfl pass0 (pa_cons (pv 0) (pa_cons (pv 2) pa_nil))))
      (pss_cons (ps_par (i := 5) (j := 6) rfl sc__law_right.nd rfl rfl (by decide) rfl rfl (pa_cons (pe_callTy (call_listK (K := K)) (by rfl) (T.free 8 rfl) (by decide +kernel) (pa_cons (pe_ix (ix_listK (K := K)) (pv 4) pe_int (fun _ _ => rfl)) pa_nil)) (pa_cons (pe_callTy (call_listK (K := K)) (by rfl) (T.free 8 rfl) (by decide +kernel) (pa_cons (pe_ix (ix_listK (K := K)) (pv 4) pe_int (fun _ _ => rfl)) pa_nil)) pa_nil)) (by rfl))
      (pss_cons (ps_set (i := 7) sc__law_right.nd rfl (Or.inl rfl) (pe_c (ok__law_made T) (hr.mono (by decide)) rfl pass0 (pa_cons (pv 4) (pa_cons (pv 2) (pa_cons (pv 3) (pa_cons (pv 5) (pa_cons (pv 6) pa_nil)))))))
      (pss_cons (ps_if (PW.pt (pw_or (pt_cmpR (op_neDK (K := K) (hu64 hr.r)) (pv 5) (pe_ix (ix_listK (K := K)) (pv 4) pe_int (fun _ _ => rfl)) (nomark _)) (pw_or1 (pt_cmpR (op_neDK (K := K) (hu64 hr.r)) (pv 6) (pe_ix (ix_listK (K := K)) (pv 4) pe_int (fun _ _ => rfl)) (nomark _))))) (pss_one (ps_ret pe_bl)) pss_nil)
      (pss_cons (ps_expr (pe_bm PySem.F.plainAttrs_list PySem.F.slot_list_append PySem.F.type_list_append mt_append (pv 5) (pa_cons pe_int pa_nil)))
      (pss_cons (ps_expr (pe_bm PySem.F.plainAttrs_list PySem.F.slot_list_insert PySem.F.type_list_insert mt_insert (pv 6) (pa_cons pe_int (pa_cons pe_int pa_nil))))
      (pss_cons (ps_if (PW.pt (pw_or (pt_not (pt_val (pe_c (ok__law_is T) (hr.mono (by decide)) rfl pass0 (pa_cons (pv 4) (pa_cons (pv 7) pa_nil))))) (pw_or1 (pt_not (pt_val (pe_c (ok__law_lists T) (hr.mono (by decide)) rfl pass0 (pa_cons (pv 4) (pa_cons (pv 7) (pa_cons (pv 3) pa_nil))))))))) (pss_one (ps_ret pe_bl)) pss_nil)
      (pss_cons (ps_set (i := 8) sc__law_right.nd rfl (Or.inl rfl) (pe_c (ok__law_other T) (hr.mono (by decide)) rfl pass0 (pa_cons (pv 0) (pa_cons (pv 4) (pa_cons (pv 1) pa_nil)))))
      (pss_cons (ps_set (i := 9) sc__law_right.nd rfl (Or.inl rfl) (pe_c (ok__law_made T) (hr.mono (by decide)) rfl pass0 (pa_cons (pv 8) (pa_cons pe_int (pa_cons (pe_op op_sub pe_int (pv 3)) (pa_cons (pe_callTy (call_tupK (K := K)) (by rfl) (T.free 17 rfl) (by decide +kernel) (pa_cons (pe_ix (ix_listK (K := K)) (pv 8) pe_int (fun _ _ => rfl)) pa_nil)) (pa_cons (pe_callTy (call_tupK (K := K)) (by rfl) (T.free 17 rfl) (by decide +kernel) (pa_cons (pe_ix (ix_listK (K := K)) (pv 8) pe_int (fun _ _ => rfl)) pa_nil)) pa_nil)))))))
      (pss_cons (ps_set (i := 10) sc__law_right.nd rfl (Or.inl rfl) (pe_cmpR (op_eqDK (K := K) (hu64 hr.r)) (pv 4) (pv 8) (nomark _)))
      (pss_cons (ps_if (PW.pt (pw_or (pt_cmpR op_ne (pe_callB (call_reprK (K := K) T.sm hr.g (hu64 hr.r)) (by rfl) (T.free 12 rfl) (by decide +kernel) (pa_cons (pe_lst (pa_cons (pe_cmpR (store_eq (K := K) T (hr.mono (by decide))) (pv 7) (pv 9) (nomark _)) (pa_cons (pe_cmpR (store_eq (K := K) T (hr.mono (by decide))) (pv 9) (pv 7) (nomark _)) pa_nil))) pa_nil)) (pe_callB (call_reprK (K := K) T.sm hr.g (hu64 hr.r)) (by rfl) (T.free 12 rfl) (by decide +kernel) (pa_cons (pe_lst (pa_cons (pv 10) (pa_cons (pv 10) pa_nil))) pa_nil)) (nomark _)) (pw_or1 (pt_not (pt_val (pe_c (ok__law_is T) (hr.mono (by decide)) rfl pass0 (pa_cons (pv 8) (pa_cons (pv 9) pa_nil)))))))) (pss_one (ps_ret pe_bl)) pss_nil)
      (pss_cons (ps_for PassesOwn.never rfl (pi_list (pe_lst (pa_cons (pe_fldK (K := K) (pv 7)) (pa_cons pe_non (pa_cons pe_int (pa_cons (pe_c (ok__law_text T) (hr.mono (by decide)) rfl pass0 (pa_cons (pv 4) pa_nil)) (pa_cons (pe_callTy (call_listK (K := K)) (by rfl) (T.free 8 rfl) (by decide +kernel) (pa_cons (pe_ix (ix_listK (K := K)) (pv 4) pe_int (fun _ _ => rfl)) pa_nil)) (pa_cons pe_dnewK (pa_cons (pe_tup (pa_cons (pv 7) pa_nil)) pa_nil))))))))) (pg_name (i := 11) sc__law_right.nd rfl (Or.inl rfl)) (pss_one (ps_if (PW.pt (pw_or (pt_cmpR op_notBl (pe_cmpR (store_eq (K := K) T (hr.mono (by decide))) (pv 7) (pv 11) (nomark _)) pe_bl (nomark _)) (pw_or1 (pt_cmpR op_notBl (pe_cmpR (store_ne (K := K) T (hr.mono (by decide))) (pv 7) (pv 11) (nomark _)) pe_bl (nomark _))))) (pss_one (ps_ret pe_bl)) pss_nil)))
      (pss_cons (ps_if (pt_not (pt_val (pe_c (ok__law_lists T) (hr.mono (by decide)) rfl pass0 (pa_cons (pv 8) (pa_cons (pv 9) (pa_cons (pv 3) pa_nil)))))) (pss_one (ps_ret pe_bl)) pss_nil)
      (pss_cons (ps_if (PW.pt (pw_or (pt_not (pt_val (pe_c (ok__law_refused T) (hr.mono (by decide)) rfl pass0 (pa_cons (pv 0) (pa_cons (pv 4) (pa_cons (pv 3) pa_nil)))))) (pw_or1 (pt_not (pt_val (pe_c (ok__law_doors T) (hr.mono (by decide)) rfl pass0 (pa_cons (pv 4) (pa_cons (pv 7) (pa_cons (pv 3) pa_nil))))))))) (pss_one (ps_ret pe_bl)) pss_nil)
      (pss_cons (ps_if (PW.pt (pw_or (pt_not (pt_val (pe_c (ok__law_lines T) (hr.mono (by decide)) rfl pass0 (pa_cons (pv 0) (pa_cons (pv 4) (pa_cons (pv 3) pa_nil)))))) (pw_or1 (pt_not (pt_val (pe_c (ok__law_lists T) (hr.mono (by decide)) rfl pass0 (pa_cons (pv 4) (pa_cons (pv 7) (pa_cons (pe_op op_sub pe_int (pv 3)) pa_nil))))))))) (pss_one (ps_ret pe_bl)) pss_nil)
      (pss_one (ps_ret (pe_and (pe_c (ok__law_is T) (hr.mono (by decide)) rfl pass0 (pa_cons (pv 4) (pa_cons (pv 7) pa_nil))) (pe_one (pe_cmpR (store_eq (K := K) T (hr.mono (by decide))) (pv 7) (pe_c (ok__law_made T) (hr.mono (by decide)) rfl pass0 (pa_cons (pv 4) (pa_cons pe_int (pa_cons (pv 3) (pa_cons (pe_ix (ix_listK (K := K)) (pv 4) pe_int (fun _ _ => rfl)) (pa_cons (pe_ix (ix_listK (K := K)) (pv 4) pe_int (fun _ _ => rfl)) pa_nil)))))) (nomark _))))))))))))))))))))))), ?_⟩
  obtain ⟨A, c0, rfl, c9, hb, q⟩ := h
  refine seq_at ?_
  refine ⟨_, rfl, _, _, rfl, A, 5, c0, rfl, rfl, by decide, by decide, by omega, hb, fun kd H1 hk e1 hb1 => ?_⟩
  refine ⟨_, rfl, _, _, rfl, A, 3, c0 + 1, rfl, rfl, by decide, by decide, by omega, hb1, fun wy_ H2 hw e2 hb2 => ?_⟩
  refine ⟨_, rfl, _, _, rfl, A, 2, c0 + 2, rfl, rfl, by decide, by decide, by omega, hb2, fun tn H3 ht e3 hb3 => ?_⟩
  refine ⟨_, _, _, rfl, ?_⟩
  dsimp only
  have e03 := ex_of_del (ex_of_del e1 del_same e2) del_same e3
  refine seq_at (asg_at ?_)
  refine ⟨_, rfl, _, rfl, _, _, rfl, A, c0 + 3, wy_, rfl, rfl, by omega, hb3, fun w n rs ws H4 e4 hb4 w3 zero => ?_⟩
  have e04 := ex_of_del e03 del_same e4
  dsimp only [gName]
  have w3' := w3
  obtain ⟨⟨W, S, hl, cl, ts, rfl, hW, hS, tp, hh, hc⟩, ok, few, lt⟩ := w3'
  have bE : Ex (L2.del H4 A) H4 := Ex.ofDel
  clear e1 e2 e3 e4 hb1 hb2 hb3
  have nA : (L2.del H4 A) A = none := del_same
  refine seq_at ?_
  refine ⟨_, rfl, W, _, 2, _, rfl, rfl, SqL.of (bE _ _ hW), rfl, hl, _, rfl, .inl (SqL.of (bE _ _ hh)), fun p5 hp5 => ?_⟩
  have y5 := Ex.new (o := .lst ((ws.map (·.1)).map iV)) hp5
  refine ⟨_, rfl, W, _, 3, _, rfl, rfl, SqL.of ((bE.trans y5) _ _ hW), rfl, cl, _, rfl, .inl (SqL.of ((bE.trans y5) _ _ hc)), fun p6 hp6 => ⟨_, _, rfl, ?_⟩⟩
  have y6 := Ex.new (o := .lst ((ws.map (·.2)).map iV)) hp6
  have g5 := y6 _ _ (upd_same (H := H4) (a := p5) (o := .lst ((ws.map (·.1)).map iV)))
  have g6 := upd_same (H := upd H4 p5 (.lst ((ws.map (·.1)).map iV))) (a := p6) (o := .lst ((ws.map (·.2)).map iV))
  have n5 := Evl.fresh_back bE hp5
  have n6 := Evl.fresh_back (bE.trans y5) hp6
  have n56 : p5 ≠ p6 := ne_of_none (upd_same (a := p5)) hp6
  have b6 := bE.trans (y5.trans y6)
  have hb6 := hb4.mono (y5.trans y6)
  obtain ⟨l6, hA6⟩ := hb6.some
  have p5A : p5 ≠ A := fun z => by obtain ⟨_, q⟩ := hb4.some; rw [z, q] at hp5; cases hp5
  have p6A : p6 ≠ A := fun z => by obtain ⟨_, q⟩ := (hb4.mono y5).some; rw [z, q] at hp6; cases hp6
  dsimp only [List.set]
  generalize upd (upd H4 p5 (.lst ((ws.map (·.1)).map iV))) p6 (.lst ((ws.map (·.2)).map iV)) = H6 at g5 g6 b6 hb6 hA6 ⊢
  clear y5 y6 hp5 hp6
  have rr : Rows2 ws (.list ((ws.map (·.1)).map intD)) (.list ((ws.map (·.2)).map intD)) := ⟨rfl, rfl, rfl, rfl⟩
  refine seq_at (asg_at ?_)
  refine ⟨_, rfl, _, rfl, _, rfl, _, rfl, _, rfl, _, _, _, _, _, rfl, n, rs, ws, wy_, tn, _, _, w3.mono b6, rfl, rfl, .lst (SqL.of g5) (nat_rows _ _ _), .lst (SqL.of g6) (nat_rows _ _ _), rr, fun z => zero (by omega), fun s0 Fs H7 e7 hs7 st7 => ?_⟩
  dsimp only [gName]
  have g5' := e7 _ _ g5
  have g6' := e7 _ _ g6
  have b7 := b6.trans e7
  have hW7 := b7 _ _ hW
  have hh7 := b7 _ _ hh
  have hc7 := b7 _ _ hc
  have cl_ : ∀ l : List Nat, (PyData.list (l.map intD)).canLay0 = true := fun l => SeqAt.canLay_of_shaped (shaped_intsL l)
  refine seq_at (ifs_at (or_at ?_))
  refine ⟨_, rfl, _, rfl, W, _, 2, _, rfl, rfl, SqL.of hW7, rfl, _, _, (Dq.lst (SqL.of g5') (nat_rows _ _ _)).dp (cl_ _), (Dq.lst (SqL.of hh7) (nat_rows _ _ _)).dp (cl_ _), shaped_intsL _, shaped_intsL _, _, rfl, ?_⟩
  rw [eqv_intsL, decide_eq_true rfl]
  refine iteF (test_at ?_)
  refine ⟨_, rfl, _, rfl, W, _, 3, _, rfl, rfl, SqL.of hW7, rfl, _, _, (Dq.lst (SqL.of g6') (nat_rows _ _ _)).dp (cl_ _), (Dq.lst (SqL.of hc7) (nat_rows _ _ _)).dp (cl_ _), shaped_intsL _, shaped_intsL _, _, rfl, ?_⟩
  rw [eqv_intsL, decide_eq_true rfl]
  refine iteF ?_
  dsimp only [tNext]
  have hb7 := hb6.mono e7
  have l1 : ((ws.map (·.1)).map iV).length < sizeLine := line_big (by rw [(List.length_map), (List.length_map)]; omega)
  have l2 : ((ws.map (·.2)).map iV).length < sizeLine := line_big (by rw [(List.length_map), (List.length_map)]; omega)
  refine seq_at ?_
  refine ⟨_, rfl, .inl ⟨rfl, _, SqL.of g5'⟩, p5, _, _, rfl, rfl, g5', l1, ?_⟩
  have b8 : Ex (L2.del H4 A) (upd H7 p5 (.lst ((ws.map (·.1)).map iV ++ [V.int 0]))) := Ex.mut b7 n5
  have st8 := (StoreAt.del g5' st7).mono (ex_setL (o := .lst ((ws.map (·.1)).map iV ++ [V.int 0])))
  have g6'' : upd H7 p5 (.lst ((ws.map (·.1)).map iV ++ [V.int 0])) p6 = _ := (upd_ne n56.symm).trans g6'
  have hb8 : BoxAt (upd H7 p5 (.lst ((ws.map (·.1)).map iV ++ [V.int 0]))) A (c0 + 3 + 80) := (box_del hb7 p5A).mono ex_setL
  dsimp only
  generalize upd H7 p5 (.lst ((ws.map (·.1)).map iV ++ [V.int 0])) = H8 at b8 st8 g6'' hb8 ⊢
  refine seq_at ?_
  refine ⟨_, rfl, .inl ⟨rfl, _, SqL.of g6''⟩, p6, _, 0, _, rfl, rfl, g6'', l2, by decide, by decide, ?_⟩
  have b9 : Ex (L2.del H4 A) (upd H8 p6 (.lst (((ws.map (·.2)).map iV).take (0 : Int).toNat ++ [V.int 5] ++ ((ws.map (·.2)).map iV).drop (0 : Int).toNat))) := Ex.mut b8 n6
  have st9 := (StoreAt.del g6'' st8).mono (ex_setL (o := .lst (((ws.map (·.2)).map iV).take (0 : Int).toNat ++ [V.int 5] ++ ((ws.map (·.2)).map iV).drop (0 : Int).toNat)))
  have hb9 : BoxAt (upd H8 p6 (.lst (((ws.map (·.2)).map iV).take (0 : Int).toNat ++ [V.int 5] ++ ((ws.map (·.2)).map iV).drop (0 : Int).toNat))) A (c0 + 3 + 80) := (box_del hb8 p6A).mono ex_setL
  dsimp only
  generalize upd H8 p6 (.lst (((ws.map (·.2)).map iV).take (0 : Int).toNat ++ [V.int 5] ++ ((ws.map (·.2)).map iV).drop (0 : Int).toNat)) = H9 at b9 st9 hb9 ⊢
  obtain ⟨l9, hA9⟩ := hb9.some
  have bG : Ex (L2.del H4 A) (L2.del H9 A) := ex_to_del b9 nA
  have wG := w3.mono bG
  have sG := StoreAt.del hA9 st9
  have e09 : Ex (L2.del H A) H9 := ex_of_del e04 del_same b9
  have eG : Ex (L2.del H9 A) H9 := Ex.ofDel
  have eB : Ex (L2.del H A) (L2.del H9 A) := ex_to_del e09 del_same
  clear w3 hW hS tp hh hc hb6 hb7 hb8 st7 st8 st9 b6 b7 b8 b9 g5 g6 g5' g6' g6'' e7 bE e04 e03 hW7 hh7 hc7 hA6 bG
  refine seq_at (ifs_at (or_at (not_at (b_at ?_))))
  refine ⟨_, rfl, _, rfl, _, _, rfl, n, rs, ws, s0, Fs, wG.mono eG, rfl, sG.mono eG, fun H10 e10 => ⟨_, rfl, iteF (not_at (b_at ?_))⟩⟩
  have eG10 := eG.trans e10
  refine ⟨_, rfl, _, rfl, _, rfl, _, _, _, rfl, n, rs, ws, s0, Fs, tn, wG.mono eG10, rfl, sG.mono eG10, rfl, fun H11 e11 => ⟨_, rfl, iteF ?_⟩⟩
  dsimp only [tNext]
  have eG11 := eG10.trans e11
  have hb11 := hb9.mono (e10.trans e11)
  obtain ⟨l11, hA11⟩ := hb11.some
  refine seq_at (asg_at ?_)
  refine ⟨_, rfl, _, rfl, _, rfl, _, _, _, rfl, A, c0 + 3 + 80, kd, n, rs, ws, rfl, wG.mono (ex_to_del eG11 del_same), rfl, by omega, hb11, fun w' m qs us H12 e12 hb12 w5 => ?_⟩
  have eG12 := ex_of_del eG11 del_same e12
  dsimp only [gName]
  have w5' := w5
  obtain ⟨⟨W2, S2, hl2, cl2, ts2, rfl, hW2, hS2, tp2, hh2, hc2⟩, ok2, few2, lt2⟩ := w5'
  have b12 : Ex (L2.del H12 A) H12 := Ex.ofDel
  refine seq_at (asg_at ?_)
  refine ⟨_, rfl, _, rfl, _, _, rfl, rfl, _, rfl, W2, _, 2, _, rfl, rfl, SqL.of (b12 _ _ hW2), rfl, hl2, _, rfl, .inl ⟨SqL.of (b12 _ _ hh2), fun t1 ht1 => ?_⟩⟩
  have y1 := Ex.new (o := .tup ((us.map (·.1)).map iV)) ht1
  have f1 := upd_same (H := H12) (a := t1) (o := .tup ((us.map (·.1)).map iV))
  generalize upd H12 t1 (.tup ((us.map (·.1)).map iV)) = H13 at y1 f1 ⊢
  refine ⟨_, rfl, W2, _, 3, _, rfl, rfl, SqL.of ((b12.trans y1) _ _ hW2), rfl, cl2, _, rfl, .inl ⟨SqL.of ((b12.trans y1) _ _ hc2), fun t2 ht2 => ?_⟩⟩
  have y2 := Ex.new (o := .tup ((us.map (·.2)).map iV)) ht2
  have f2 := upd_same (H := H13) (a := t2) (o := .tup ((us.map (·.2)).map iV))
  replace f1 := y2 _ _ f1
  generalize upd H13 t2 (.tup ((us.map (·.2)).map iV)) = H14 at y2 f1 f2 ⊢
  have y12 := y1.trans y2
  have rr2 : Rows2 us (.tuple ((us.map (·.1)).map intD)) (.tuple ((us.map (·.2)).map intD)) := ⟨rfl, rfl, rfl, rfl⟩
  refine ⟨_, _, _, _, _, rfl, m, qs, us, 2, 1 - (tn : Int), _, _, w5.mono (b12.trans y12), rfl, rfl, .tup (SqT.of f1) (nat_rows _ _ _), .tup (SqT.of f2) (nat_rows _ _ _), rr2, (fun z => by omega), fun s1 Gs H15 e15 hs15 st15 => ?_⟩
  have hb15 := hb12.mono (y12.trans e15)
  obtain ⟨l15, hA15⟩ := hb15.some
  have eG15 := eG12.trans (y12.trans e15)
  have wG' := wG.mono (ex_to_del eG15 del_same)
  have sG' := sG.mono (ex_to_del eG15 del_same)
  have w5G := w5.mono (ex_to_del (b12.trans (y12.trans e15)) del_same)
  have s5G := StoreAt.del hA15 st15
  have eB' : Ex (L2.del H A) (L2.del H15 A) := ex_to_del (eB.trans eG15) del_same
  clear wG sG w5 st15 hW2 hS2 tp2 hh2 hc2 b12 y12 y1 y2 f1 f2 eG12 eG11 eG10 eG eB
  have eG : Ex (L2.del H15 A) H15 := Ex.ofDel
  dsimp only [gName]
  refine seq_at (asg_at ?_)
  have wq := wG'.mono eG
  have w5q := w5G.mono eG
  refine ⟨_, rfl, _, rfl, _, _, wq.dq.dp (SeqAt.canLay_of_shaped (shaped_wD3 _ _ _)), w5q.dq.dp (SeqAt.canLay_of_shaped (shaped_wD3 _ _ _)), shaped_wD3 _ _ _, shaped_wD3 _ _ _, ?_⟩
  rw [eqv_wD3]
  dsimp only [gName]
  refine seq_at (ifs_at (or_at ?_))
  refine cb_at ?_
  refine ⟨_, rfl, _, rfl, cmp_stores T (sG'.mono eG) (s5G.mono eG) ?_⟩
  refine cons_at ⟨_, rfl, _, rfl, cmp_stores T (s5G.mono eG) (sG'.mono eG) ?_⟩
  have bb : (decide (m = n) && decide (qs = rs) && decide (us = ws)) = (decide (n = m) && decide (rs = qs) && decide (ws = us)) := by
    rw [Bool.eq_iff_iff]
    simp only [decide_eq_true_eq, Bool.and_eq_true]
    exact ⟨fun ⟨⟨a, b⟩, c⟩ => ⟨⟨a.symm, b.symm⟩, c.symm⟩, fun ⟨⟨a, b⟩, c⟩ => ⟨⟨a.symm, b.symm⟩, c.symm⟩⟩
  rw [bb]
  generalize (decide (n = m) && decide (rs = qs) && decide (ws = us)) = due
  have smD : Small 200 4 (.list [.bool due, .bool due]) := smallB_ok (by cases due <;> decide +kernel)
  refine ⟨(by show 2 ≤ sizeLine; decide), fun L1 hL1 => ?_⟩
  have z1 := Ex.new (o := .lst [V.bl due, .bl due]) hL1
  refine rRepr_of (d := .list [.bool due, .bool due]) (.lst (SqL.of upd_same) (.cons (.bl _) (.cons (.bl _) .nil))) smD (by omega) (by omega) ?_
  refine cb_at ⟨_, rfl, _, rfl, (by show 2 ≤ sizeLine; decide), fun L2' hL2 => ?_⟩
  have z2 := Ex.new (o := .lst [V.bl due, .bl due]) hL2
  refine rRepr_of (d := .list [.bool due, .bool due]) (.lst (SqL.of upd_same) (.cons (.bl _) (.cons (.bl _) .nil))) smD (by omega) (by omega) ⟨rfl, _, rfl, ?_⟩
  rw [decide_eq_true rfl]
  have e16 := eG.trans (z1.trans z2)
  have hb16 := hb15.mono (z1.trans z2)
  generalize upd (upd H15 L1 (.lst [V.bl due, .bl due])) L2' (.lst [V.bl due, .bl due]) = H16 at e16 hb16 ⊢
  refine iteF (not_at (b_at ?_))
  refine ⟨_, rfl, _, rfl, _, _, rfl, m, qs, us, s1, Gs, w5G.mono e16, rfl, s5G.mono e16, fun H17 e17 => ⟨_, rfl, iteF ?_⟩⟩
  have e17' := e16.trans e17
  have hb17 := hb16.mono e17
  dsimp only [tNext]
  refine seq_at ?_
  have sG17 := sG'.mono e17'
  obtain ⟨⟨dx, tr_, r1, r2, g17, tr17, _⟩, _⟩ := id sG17
  have wq17 := wG'.mono e17'
  obtain ⟨⟨W_, S3, hl3, cl3, ts3, ew, hW3, hS3, tp3, hh3, hc3⟩, _⟩ := id wq17
  cases ew
  refine ⟨_, rfl, s0, _, dx, _, _, rfl, g17, cl_Store T, no_Store_tree T, rfl, _, rfl, _, rfl, n, rs, ws, wq17, fun H18 e18 => ?_⟩
  refine ⟨_, rfl, W, _, 2, _, rfl, rfl, SqL.of (e18 _ _ hW3), rfl, hl3, _, rfl, .inl (SqL.of (e18 _ _ hh3)), fun q1 hq1 => fun q2 hq2 => ⟨_, rfl, (by show 1 ≤ sizeLine; decide), fun q3 hq3 => ⟨(by show 7 ≤ sizeLine; decide), fun L hL => ⟨L, rfl, ⟨_, SqL.of upd_same⟩, ?_⟩⟩⟩⟩
  have x1 := Ex.new (o := .lst ((ws.map (·.1)).map iV)) hq1
  have x2 := Ex.new (o := .dK []) hq2
  have x3 := Ex.new (o := .tup [.ref s0]) hq3
  have x4 := Ex.new (o := .lst [.ref tr_, .non, .int 0, .str (TT.sline n rs ws), .ref q1, .ref q2, .ref q3]) hL
  have g1 := (x2.trans (x3.trans x4)) _ _ (upd_same (H := H18) (a := q1) (o := .lst ((ws.map (·.1)).map iV)))
  have g2 := (x3.trans x4) _ _ (upd_same (H := upd H18 q1 (.lst ((ws.map (·.1)).map iV))) (a := q2) (o := .dK []))
  have g3 := x4 _ _ (upd_same (H := upd (upd H18 q1 (.lst ((ws.map (·.1)).map iV))) q2 (.dK [])) (a := q3) (o := .tup [.ref s0]))
  have g4 := upd_same (H := upd (upd (upd H18 q1 (.lst ((ws.map (·.1)).map iV))) q2 (.dK [])) q3 (.tup [.ref s0])) (a := L) (o := .lst [.ref tr_, .non, .int 0, .str (TT.sline n rs ws), .ref q1, .ref q2, .ref q3])
  have e19 := e18.trans (x1.trans (x2.trans (x3.trans x4)))
  generalize upd (upd (upd (upd H18 q1 (.lst ((ws.map (·.1)).map iV))) q2 (.dK [])) q3 (.tup [.ref s0])) L (.lst [.ref tr_, .non, .int 0, .str (TT.sline n rs ws), .ref q1, .ref q2, .ref q3]) = H19 at g1 g2 g3 g4 e19 ⊢
  clear x1 x2 x3 x4 hq1 hq2 hq3 hL
  have item : ∀ i, i < 7 → NoS K H19 (G.nth [V.ref tr_, .non, .int 0, .str (TT.sline n rs ws), .ref q1, .ref q2, .ref q3] i) := fun i hi => by
    match i, hi with
    | 0, _ => exact .inl ⟨tr_, rfl, (tr17.mono e19).ins⟩
    | 1, _ => exact .inr (.inl ⟨_, .non⟩)
    | 2, _ => exact .inr (.inl ⟨_, .int _⟩)
    | 3, _ => exact .inr (.inl ⟨_, .str _⟩)
    | 4, _ => exact .inr (.inl ⟨_, .lst (SqL.of g1) (nat_rows _ _ _)⟩)
    | 5, _ => exact .inr (.inl ⟨_, .dic0 g2⟩)
    | 6, _ => exact .inr (.inr ⟨q3, _, rfl, g3⟩)
  have e1719 := e17'.trans e19
  refine for_gen (its_l (SqL.of g4)) (fun i σ' H' => (∃ s11, σ' = [some (.ref A), some (.int kd), some (.int wy_), some (.int tn), some (.ref W), some (.ref p5), some (.ref p6), some (.ref s0), some (.ref W2), some (.ref s1), some (.bl due), s11]) ∧ Ex H19 H') ?_ (fun i σ' H' z => z.2) ?_ ?_
  · exact ⟨⟨_, rfl⟩, Ex.refl _⟩
  · rintro i σ' H20 hi ⟨⟨s11, rfl⟩, e20⟩
    have cmp : ∀ {neg : Bool} {N : VK}, N (.bl neg) H20 → rCmpO K (He.ga K "Store") neg (sp_Store___eq__ K) E0 (.ref s0) (G.nth [V.ref tr_, .non, .int 0, .str (TT.sline n rs ws), .ref q1, .ref q2, .ref q3] i) H20 N := fun {neg N} k =>
      cmp_no T (sG'.mono (e1719.trans e20)) ((item i hi).mono e20) k
    dsimp only [gName]
    refine ifs_at (or_at (test_at ?_))
    refine ⟨_, rfl, _, rfl, cmp ⟨_, _, rfl, rfl, ⟨_, rfl, iteF (test_at ?_)⟩⟩⟩
    refine ⟨_, rfl, _, rfl, cmp ⟨_, _, rfl, rfl, ⟨_, rfl, iteF ?_⟩⟩⟩
    exact ⟨⟨_, rfl⟩, e20⟩
  rintro σ' H20 ⟨⟨s11, rfl⟩, e20⟩
  have eE := e1719.trans e20
  have hb20 := hb17.mono (e19.trans e20)
  clear item
  dsimp only
  refine seq_at (ifs_at (not_at (b_at ?_)))
  refine ⟨_, rfl, _, rfl, _, rfl, _, _, _, rfl, m, qs, us, s1, Gs, tn, w5G.mono eE, rfl, s5G.mono eE, rfl, fun H21 e21 => ⟨_, rfl, iteF ?_⟩⟩
  have eE21 := eE.trans e21
  have hb21 := hb20.mono e21
  dsimp only [tNext]
  refine seq_at (ifs_at (or_at (not_at (b_at ?_))))
  refine ⟨_, rfl, _, rfl, _, rfl, _, _, _, rfl, A, c0 + 3 + 80 + 50, n, rs, ws, tn, rfl, wG'.mono (ex_to_del eE21 del_same), rfl, by omega, hb21, fun H22 e22 hb22 => ⟨_, rfl, iteF (not_at (b_at ?_))⟩⟩
  have eE22 := ex_of_del eE21 del_same e22
  refine ⟨_, rfl, _, rfl, _, rfl, _, _, _, rfl, n, rs, ws, s0, Fs, tn, wG'.mono eE22, rfl, sG'.mono eE22, rfl, fun H23 e23 => ⟨_, rfl, iteF ?_⟩⟩
  have eE23 := eE22.trans e23
  have hb23 := hb22.mono e23
  dsimp only [tNext]
  refine seq_at (ifs_at (or_at (not_at (b_at ?_))))
  refine ⟨_, rfl, _, rfl, _, rfl, _, _, _, rfl, A, c0 + 3 + 80 + 50 + 10, n, rs, ws, tn, rfl, wG'.mono (ex_to_del eE23 del_same), rfl, by omega, hb23, fun H24 e24 hb24 => ⟨_, rfl, iteF (not_at (b_at ?_))⟩⟩
  have eE24 := ex_of_del eE23 del_same e24
  refine ⟨_, rfl, _, rfl, _, rfl, _, _, rfl, rfl, _, _, _, rfl, n, rs, ws, s0, Fs, 1 - (tn : Int), wG'.mono eE24, rfl, sG'.mono eE24, rfl, fun H25 e25 => ⟨_, rfl, iteF ?_⟩⟩
  have eE25 := eE24.trans e25
  dsimp only [tNext]
  refine ret_at ?_
  refine ⟨_, rfl, _, rfl, _, _, rfl, n, rs, ws, s0, Fs, wG'.mono eE25, rfl, sG'.mono eE25, fun H26 e26 => ?_⟩
  have eE26 := eE25.trans e26
  refine ⟨_, rfl, iteT ?_⟩
  have w26 := wG'.mono eE26
  obtain ⟨⟨W_, S4, hl4, cl4, ts4, ew, hW4, hS4, tp4, hh4, hc4⟩, _⟩ := id w26
  cases ew
  refine ⟨_, rfl, _, rfl, _, rfl, _, rfl, W, _, 2, _, rfl, rfl, SqL.of hW4, rfl, _, rfl, W, _, 3, _, rfl, rfl, SqL.of hW4, rfl, ?_⟩
  refine ⟨_, _, _, _, _, rfl, n, rs, ws, 2, (tn : Int), _, _, w26, rfl, rfl, .lst (SqL.of hh4) (nat_rows _ _ _), .lst (SqL.of hc4) (nat_rows _ _ _), rr, (fun z => by omega), fun s2 Fs2 H27 e27 _ st27 => ?_⟩
  refine cmp_stores T (sG'.mono (eE26.trans e27)) st27 ?_
  rw [decide_eq_true rfl, decide_eq_true rfl, decide_eq_true rfl]
  exact q _ (eB'.trans (eE26.trans e27))
end
end T1

namespace T1
open PySem PySem.Spec PyProof.Rows L2 G
open Evl (Ex)
local macro_rules | `(tactic| walk_at "dd") => `(tactic| (dsimp only [tCB, tCons, tNil, tC, tOp, tUn, tTest, tB, tVar, tAndV, tOrV, tNotV, tIf, tAnd, tOr, tNot, tSeq, tRet, tRetN, tIfS, tAsg, gName, tDrop, tTup, tLst, tChain, tNext, tCall, L2.start]))
def sp_law (K : PySem.W.Frag) : Sp := sp1 fun a H Q E => ∃ (p : Addr) (ns : List Int), a = .ref p ∧ SqL K H p (ns.map V.int) ∧ ∀ H', Ex H H' → Q (.bl true) H'
section
variable {K : PySem.W.Frag} {mg : Str → Option Value} {P : Program} {w : World} {base : Heap}
theorem ok_law (T : Tx K mg) : Cal P w K mg base CX0 13 "law" ["_law_script"] (sp_law K) := by
  refine cal_of (fD_law T) (T.glo 52 rfl) sc_law (fun _ _ _ _ _ _ us hl => match us, hl with | [_], _ => rfl) (fun vs H Q E h => len1 h) (fun f cdv A outer s H vs Q E hr h => ?_)
  obtain ⟨a, rfl, h⟩ := h
  refine ⟨_, (PSs.nox (pss_cons (ps_for PassesOwn.never rfl (pi_range1 (by rfl) (T.free 11 rfl) (pa_cons (pe_callB (call_max2 rfl) (by rfl) (T.free 9 rfl) (by decide +kernel) (pa_cons pe_int (pa_cons (pe_callB (call_min2 rfl) (by rfl) (T.free 10 rfl) (by decide +kernel) (pa_cons pe_int (pa_cons (pe_callB (call_lenK (K := K)) (by rfl) (T.free 7 rfl) (by decide +kernel) (pa_cons (pv 0) pa_nil)) pa_nil))) pa_nil))) pa_nil)) (pg_name (i := 1) sc_law.nd rfl (Or.inl rfl)) (pss_one (ps_if (pt_not (pt_val (pe_c (ok__law_right T) (hr.mono (by decide)) rfl pass0 (pa_cons (pe_c (ok__law_box T) (hr.mono (by decide)) rfl pass0 (pa_cons (pe_c (ok__law_cell T) (hr.mono (by decide)) rfl pass0 (pa_cons (pv 0) (pa_cons (pv 1) pa_nil))) pa_nil)) pa_nil)))) (pss_one (ps_ret pe_bl)) pss_nil)))
      (pss_one (ps_ret pe_bl)))), ?_⟩
  obtain ⟨p, ns, rfl, sq, q⟩ := h
  have bd : ∀ x : Int, -(2 ^ 62) ≤ (if (if x < 3 then x else 3) > 2 then (if x < 3 then x else 3) else 2) ∧ (if (if x < 3 then x else 3) > 2 then (if x < 3 then x else 3) else 2) < 2 ^ 62 := fun x => by constructor <;> (split <;> (try split) <;> omega)
  refine seq_at ?_
  refine for_at (B := fun _ => none) (item := fun i => .int (0 + i)) (fun P q => ⟨_, rfl, p, _, rfl, .inl sq, _, _, rfl, _, _, rfl, _, rfl, (bd _).1, (bd _).2, q _ _ (Ex.refl _) (its_r 0 _)⟩) (fun i σ' H' => (∃ s1, σ' = [some (.ref p), s1]) ∧ Ex H H') ?_ (fun _ _ _ _ a o z => by cases z) ?_ ?_
  · exact fun H1 e1 => ⟨⟨_, rfl⟩, e1⟩
  · rintro i σ' H1 hi ⟨⟨s1, rfl⟩, e1⟩
    rw [show (V.int (0 + (i : Int))) = iV i by rw [Int.zero_add]; rfl]
    dsimp only [gName]
    refine ifs_at (not_at (b_at ?_))
    refine ⟨_, rfl, _, rfl, _, _, rfl, p, ns, i, rfl, Evl.ex_l e1 sq, rfl, fun z H2 e2 => ⟨_, rfl, z, rfl, fun A H3 hA e3 hb3 => ?_⟩⟩
    have e03 := (e1.trans e2).trans e3
    have hA0 : H A = none := Evl.fresh_back (e1.trans e2) hA
    refine ⟨_, rfl, A, 0, rfl, by omega, hb3, fun H4 e4 => ⟨_, rfl, iteF ?_⟩⟩
    exact ⟨⟨_, rfl⟩, ex_of_del e03 hA0 e4⟩
  · rintro σ' H' ⟨⟨s1, rfl⟩, e⟩
    exact q _ e
end

end T1

namespace T1
open PySem PySem.Spec PyProof.Rows L2 G
theorem end_law {P : Program} {w : World} {K : PySem.W.Frag} {h : Heap} {mg : Str → Option Value} {f : Addr} (X : K.In h) (G : h.Ns mainGlobals mg) (hfa : mg ("law" : Str) = some (.ref f)) (c : Says K) :
    ∃ fd : FuncData, (∀ (s : Shared) (v : Value), BindsTo s fd ⟨[v], []⟩ [("_law_script", v)]) ∧ ∀ base : Heap, K.In base → base.Ns mainGlobals mg → FG P w K mg base CX0 13 f fd ["_law_script"] (sp_law K) := by
  have T := tx_of X G c
  have e := hfa.symm.trans (T.glo 52 rfl)
  cases e
  obtain ⟨fd, D⟩ := fD_law T
  have b := FunD.bindsA (ps := ["_law_script"]) D fun _ _ _ _ _ _ us hl => match us, hl with | [_], _ => rfl
  refine ⟨fd, fun s v => b s [v] rfl, fun base _ _ => ?_⟩
  obtain ⟨fd', D', G'⟩ := cal_fg (ok_law (P := P) (w := w) (base := base) T) ⟨fd, D⟩
  have eq : fd = fd' := by
    obtain ⟨oc, od, _, _, _, _, _, _, _, osl, _, lk, _⟩ := id D.ex
    obtain ⟨oc', od', _, _, _, _, _, _, _, osl', _, lk', _⟩ := id D'.ex
    rw [lk] at lk'
    cases lk'
    rfl
  subst eq
  exact G'
end T1
open PyProof.Rows PySem PySem.W PySem.Calls
theorem PySem.Challenge.cw_looksleft_k03_stores_and_lines_holds : PySem.Challenge.rw_looksleft_k03_stores_and_lines.Holds := by
  w_on; o_law
  refine HandSHeadRun.head_any (r := T1.R) (q := view T1.R.prog [61]) (H := T1.hk) (ob := T1.ob) (M := 30000) (loose := T1.names) (kwd := [])
    (d := HandSHeadRun.topDef T1.R.prog 61) T1.ob_eq (by kernel_rfl) (fun s => by kernel_rfl) T1.run (by kernel_rfl) (by kernel_rfl) (by kernel_rfl)
    (by rfl) (by first | assumption | decide +kernel) (by decide +kernel)
    ⟨rfl, rfl, rfl, rfl, rfl, by decide +kernel⟩ ?hw ?hc
  case hw => w_witness2
  case hc =>
    refine G.walk_G (l := PySem.Challenge.rw_looksleft_k03_stores_and_lines) (n := 63) (k := 13) (x := "_law_script") rfl (by decide) (by kernel_rfl) ?room ?F
    case room => exact ⟨rfl, by decide, by decide⟩
    case F =>
      intro w mg fa h Y nsG hmg0
      obtain ⟨K, KX, c⟩ := Y
      have at_law : mg ("law" : PySem.Str) = some (.ref fa) := by
        have e : (HandSHeadRun.topDef T1.R.prog 61).name = ("law" : PySem.Str) := by kernel_rfl
        rw [← e]
        exact hmg0
      obtain ⟨fd, hb, hF⟩ := T1.end_law (P := (PySem.Challenge.rw_looksleft_k03_stores_and_lines).prog) (w := w) KX nsG at_law c
      exact ⟨K, fd, T1.sp_law K, KX, hb, fun H a ns hl _ hS => ⟨_, rfl, a, ns, rfl, hS, fun _ _ => rfl⟩, hF⟩

