import PyProof.Rows.All
import Wide.All
import OpenK.AllK
import Wide.FinOn
import KE.KStateDown
import HandS.ForMost
import HandS.Exc
import HandS.ExcOwn
import HandS.TryMany
import HandS.ExcInit
import HandS.ExcField
import HandS.WordsExc
import HandS.Defaults
import HandS.MakeKw
import HandS.MakeKwOnly
import HandS.IsInst
import HandS.ClsMeth
import HandS.Deep
import HandS.Flow
import HandS.SortRule
import HandS.SortInts
import HandS.Evl
import HandS.Wide
import HandS.Head0
import HandS.Head1
import HandS.Head2
import HandS.HeadEnd
import HandS.HeadHook1
import HandS.HeadHook2
import HandS.TupAny
import HandS.TupMul
import HandS.Star
import HandS.Strs
import KE.GoesMore
import HandS.SetBool
import HandS.Conv
import HandS.Style
import PyProof.NeKinds
import PySem.Challenge.RW_looksleft_k01_trees
import HandS.TryOnly
set_option Elab.async false
set_option linter.all false
set_option maxRecDepth 100000
set_option maxHeartbeats 3900000
/-! My layer: promises of defs where no repr runs around (guards), data, repr, own errors. -/
namespace G
open L2 PyProof.Rows PySem PySem.Spec
/-- a call's arguments: the keywords ks, each by its name, no star among them -/
structure NamedOnly (X : Cx) (kws : List Keyword) (pos : Pos) (ks : List Str) : Prop where
  each : ((backToKw pos (keywordEach kws X.env)).all fun k => k.1.isSome) = true
  keys : ((backToKw pos (keywordEach kws X.env)).filterMap fun k => k.1) = ks
  flat : (((backTo pos (starEach [] X.env)).any fun a => a.1) || ((backToKw pos (keywordEach kws X.env)).any fun k => k.1.isNone)) = false
/-- a call's arguments: e and then es, no star among them -/
structure OneByOne (X : Cx) (e : Expr) (es : List Expr) (pos : Pos) : Prop where
  next : starEach (e :: es) X.env = (false, eval e X.env) :: starEach es X.env
  none : ((backTo pos (starEach es X.env)).any fun a => a.1) = false
/-! ### room, with no repr around -/
structure RG (k : Nat) (A : Around) : Prop where
  r : Room k A
  g : A.guards = some []
theorem RG.mono {j k : Nat} {A : Around} (h : RG k A) (l : j ≤ k) : RG j A := ⟨h.r.mono l, h.g⟩
theorem RG.deeper {k : Nat} {A : Around} (h : RG (k + 1) A) (e : Env) : RG k (A.deeper e) := ⟨h.r.deeper e, h.g⟩
theorem RG.make {k : Nat} {A : Around} (h : RG (k + 1) A) (C : Addr) (us : List Value) (kw : List (Str × Value)) : RG k (A.under (.builtin "type.__call__" ⟨.ref C :: us, kw⟩)) :=
  ⟨h.r.make C us kw, by
    have e : (Code.builtin "type.__call__" ⟨.ref C :: us, kw⟩).guards = [] := by unfold Code.guards; rfl
    have z : (A.under (Code.builtin "type.__call__" ⟨.ref C :: us, kw⟩)).guards = pushGuards (Code.builtin "type.__call__" ⟨.ref C :: us, kw⟩).guards A.guards := by unfold Around.under; rfl
    rw [z, e, h.g]; rfl⟩
/-- what a def promises, called where no repr is around -/
structure FG (P : Program) (w : World) (K : PySem.W.Frag) (mg : Str → Option Value) (base : Heap) (CX : CXT) (k : Nat) (f : Addr) (fd : FuncData) (ps : List Str) (sp : Sp) : Prop where
  few : ∀ (vs : List V) (H : Hp) (Q : VK) (E : XK), sp vs H Q E → vs.length = ps.length
  run : ∀ (A : Around) (outer : List Env) (s : Shared) (H : Hp) (args : Args) (us : List Value) (vs : List V) (Q : VK) (E : XK),
    RG k A → Env0 P w K mg base A outer s H → BindsTo s fd args (ps.zip us) → Vals vs us → sp vs H Q E → codeAny (model P w) A (.call (.ref f) args) (CR CX outer P w H s Q E) s
section
variable {P : Program} {w : World} {K : PySem.W.Frag} {mg : Str → Option Value} {base : Heap} {CX : CXT}
/-- the written part stands in the state of a call -/
theorem has_K {A : Around} {outer : List Env} {s : Shared} {H : Hp} (e : Env0 P w K mg base A outer s H) : K.In s.heap :=
  PySem.W.Frag.In.keeps e.mod.kin (fun a u z => And.left (e.bs a u z))
/-- what a body's end means outside of it -/
theorem body_end {N : List Str} {qual : Str} {scope : Scope} {f : Addr} {cdv : Value} {A : Around} {outer : List Env} {s s' : Shared} {H : Hp} {Q : VK} {E : XK} {fl : Flow}
    (h : SP (cxOf CX P w K mg base N qual scope f cdv A outer s H E) [] { nx := fun _ H' => Q .non H', rt := Q } fl s') :
    match (motive := Flow → Prop) fl with | .ret u => CE outer P w H s Q u s' | .next => CE outer P w H s Q .none s' | _ => False := by
  match fl, h with
  | .ret _, ⟨v, _, H', I, r, q⟩ => exact ⟨v, H', I.os, I.bare, I.base, I.hok, r, q⟩
  | .next, ⟨_, H', I, q⟩ => exact ⟨.non, H', I.os, I.bare, I.base, I.hok, rfl, q⟩
  | .brk, ⟨_, _, _, q⟩ => exact q
  | .cont, ⟨_, _, _, q⟩ => exact q
/-- a parameter has a place in the frame -/
theorem par_place {N ps : List Str} {scope : Scope} (S : FnScope N ps scope) (n : Nat) {us : List Value} (b : Str × Value) (m : b ∈ ps.zip us) :
    scope.names.lookup b.1 = some .local ∨ (scope.names.lookup b.1 = some .cell ∧ ((cellsFrom n scope.names []).lookup b.1).isSome = true) := by
  obtain ⟨p, u⟩ := b
  have c := S.par p (List.of_mem_zip m).1
  exact c.imp id fun c => And.intro c (Option.isSome_iff_exists.mpr (cell_has c))
/-- a def by its body -/
theorem fg_of {x qual : Str} {params : Arguments} {body : List Stmt} {scope : Scope} {dvs : List V} {kws : List (Str × V)} {f : Addr} {fd : FuncData} {N ps : List Str} {k : Nat} {sp : Sp} (F : FunD K x qual params body scope dvs kws f fd) (S : FnScope N ps scope)
    (few : ∀ (vs : List V) (H : Hp) (Q : VK) (E : XK), sp vs H Q E → vs.length = ps.length)
    (run : ∀ (cdv : Value) (A : Around) (outer : List Env) (s : Shared) (H : Hp) (vs : List V) (Q : VK) (E : XK), RG k (A.deeper (envOfC qual scope s.heap.objs.size f cdv)) → sp vs H Q E →
      ∃ t : TS, PSs (cxOf CX P w K mg base N qual scope f cdv A outer s H E) body t ∧
        t { nx := fun _ H' => Q .non H', rt := Q } (start N vs) H) : FG P w K mg base CX (k + 1) f fd ps sp := by
  obtain ⟨oc, od, dV, kV, doc, pm, an, cdv, ct, osl, fdE, stands, code, -⟩ := F.ex
  subst fdE
  constructor
  case few => exact few
  intro A outer s H args us vs Q E room env0 binds vals prom
  have inK := has_K env0
  apply codeAny_call_function room.r.depth (inK _ _ stands) rfl S.co S.gen rfl (PySem.W.codeRec_of inK code)
  apply binds
  apply wpAny_newFunctionEnv_cells S.kind (par_place S _)
  rintro _ rfl s1 inside
  refine And.intro (Heap.NoLimit.keeps (env0.mod.nolimit.keeps fun a u z => And.left (env0.bs a u z)) inside.toInCall.keep) (codeAny_func ?_)
  obtain ⟨t, steps, want⟩ := run cdv A outer s H vs Q E (RG.deeper room _) prom
  have atStart := inv_start (CX := CX) (E := E) (cd := cdv) (f := f) S room.r.hd env0 (few vs H Q E prom) vals inside
  refine wpAny_mono (steps.run [] s1 _ H _ atStart want) (fun fl s' z => ?_) (fun _ _ z => z)
  have z' := body_end z
  cases fl <;> first | exact z' | exact False.elim z'
end
/-! ### calls of such defs -/
section
variable {X : Cx} {CX : CXT} {k : Nat} {f C : Addr} {fd : FuncData} {ps ks : List Str} {sp : Sp} {E : XK} {x m : Str} {p pos apos : Pos} {e o : Expr} {es : List Expr} {kws : List Keyword} {ta : TE} {t tk : TA}
theorem ret_of {pins : List (Addr × Obj)} {σ : L2.St} {H : Hp} {s : Shared} {Q : VK} (hx : Passes CX X E) (I : Inv X pins σ H s) {r : Result} {s' : Shared} (h : CR CX X.stack X.prog X.w H s Q E r s') :
    match r with | .ok (.ret u) => EP X pins σ Q u s' | .ok _ => False | .error e => X.xe e s' := by
  cases r with
  | error e => exact hx pins σ H s e s' I h
  | ok fl => cases fl with
    | ret u => exact I.after h
    | next => exact h
    | brk => exact h
    | cont => exact h
theorem run_g {pins : List (Addr × Obj)} {σ : L2.St} {H : Hp} {s : Shared} {Q : VK} {us : List Value} {vs : List V} (F : FG X.prog X.w X.K X.mg X.base CX k f fd ps sp) (hr : RG k X.A) (hb : Binds X.K fd ps []) (hx : Passes CX X E)
    (I : Inv X pins σ H s) (r : Vals vs us) (h : sp vs H Q E) : wpAny (model X.prog X.w) X.A (call (.ref f) us) (EP X pins σ Q) X.xe s := by
  have hl : us.length = ps.length := r.length.symm.trans (F.few _ _ _ _ h)
  have hbs : BindsTo s fd ⟨us, []⟩ (ps.zip us) := by
    have z := hb s us I.kIn (by rw [List.append_nil]; exact hl)
    rwa [List.append_nil] at z
  refine wpAny_call (codeAny_mono (F.run X.A X.stack s H _ us vs Q E hr I.env0 hbs r h) fun q s' hq => ?_)
  have z := ret_of hx I hq
  cases q with
  | error e => exact z
  | ok fl => cases fl <;> exact z
/-- f(e, ..) -/
theorem pe_g (F : FG X.prog X.w X.K X.mg X.base CX k f fd ps sp) (hr : RG k X.A) (hg : Gl X x) (hm : X.mg x = some (.ref f)) (hk : PySem.W.keepIn X.K (.ref f) = true) (hb : Binds X.K fd ps []) (hx : Passes CX X E) (ha : PA X (e :: es) t)
    (hdb : (x == ("__debug__" : Str)) = false := by decide) (one : OneByOne X e es pos := by exact ⟨rfl, rfl⟩) :
    PE X (.Call (.Name x p) (e :: es) [] pos) (tCall sp [] E t) :=
  ⟨fun pins s σ H Q I h => wpAny_Call_Name_kw (ld_glob I hg hm (PySem.W.callWith_K (h₀ := X.base) I.ok.mod.kin hk (thn (ha.run pos pins s σ H _ I h) fun us s1 ⟨vs, H1, I1, r, q⟩ => ⟨I1.kIn, run_g F hr hb hx I1 r (by simpa using q)⟩) one.next one.none) hdb)⟩
/-- f() -/
theorem pe_g0 (F : FG X.prog X.w X.K X.mg X.base CX k f fd ps sp) (hr : RG k X.A) (hg : Gl X x) (hm : X.mg x = some (.ref f)) (hk : PySem.W.keepIn X.K (.ref f) = true) (hb : Binds X.K fd ps []) (hx : Passes CX X E)
    (hdb : (x == ("__debug__" : Str)) = false := by decide) : PE X (.Call (.Name x p) [] [] pos) (tCall sp [] E tNil) :=
  ⟨fun pins s σ H Q I h => wpAny_Call_Name_kw (ld_glob I hg hm (PySem.W.callWith_K0 I.kIn hk (run_g F hr hb hx I .nil (by simpa [tCall, tNil] using h))) hdb)⟩
/-- o.m(e, ..) -/
theorem pe_gm {pl : Sem Bool} (he : PE X o ta) (c : Cls X.K C) (hm : Meth X.K C m f) (F : FG X.prog X.w X.K X.mg X.base CX k f fd ps sp) (hr : RG k X.A) (hb : Binds X.K fd ps []) (hx : Passes CX X E) (ha : PA X (e :: es) t)
    (one : OneByOne X e es pos := by exact ⟨rfl, rfl⟩)
    (ht : eval (.Call (.Attribute o m apos) (e :: es) [] pos) X.env = (do let ov ← eval o X.env; standAt apos.atName; let (f, first) ← holding [ov] (getMethod ov m pl); callWith pos f first (backTo pos (starEach (e :: es) X.env)) (backToKw pos (keywordEach [] X.env))) := by rfl) :
    PE X (.Call (.Attribute o m apos) (e :: es) [] pos) (tMeth C m sp [] E ta t) := by
  refine ⟨fun pins s σ H Q I h => PySem.W.methodCall_KW (pl := pl) (thn (he.run pins s σ H _ I h) ?_) ht⟩
  rintro u s1 ⟨_, H1, I1, rx, a, dx, fs, rfl, ea, l, q⟩
  cases rx
  refine getmeth_ok I1 ea c hm l (PySem.W.callWith_K (first := [.ref a]) (h₀ := X.base) I.ok.mod.kin hm.kp (thn (ha.run pos pins s1 σ H1 _ I1 q) fun us s2 ⟨vs, H2, I2, r, q2⟩ => ⟨I2.kIn, ?_⟩) one.next one.none)
  exact run_g (us := .ref a :: us) (vs := .ref a :: vs) F hr hb hx I2 (.cons rfl r) (by simpa using q2)
theorem pe_gm0 {pl : Sem Bool} (he : PE X o ta) (c : Cls X.K C) (hm : Meth X.K C m f) (F : FG X.prog X.w X.K X.mg X.base CX k f fd ps sp) (hr : RG k X.A) (hb : Binds X.K fd ps []) (hx : Passes CX X E)
    (ht : eval (.Call (.Attribute o m apos) [] [] pos) X.env = (do let ov ← eval o X.env; standAt apos.atName; let (f, first) ← holding [ov] (getMethod ov m pl); callWith pos f first (backTo pos (starEach [] X.env)) (backToKw pos (keywordEach [] X.env))) := by rfl) :
    PE X (.Call (.Attribute o m apos) [] [] pos) (tMeth C m sp [] E ta tNil) := by
  refine ⟨fun pins s σ H Q I h => PySem.W.methodCall_KW (pl := pl) (thn (he.run pins s σ H _ I h) ?_) ht⟩
  rintro u s1 ⟨_, H1, I1, rx, a, dx, fs, rfl, ea, l, q⟩
  cases rx
  exact getmeth_ok I1 ea c hm l (PySem.W.callWith_K0 (first := [.ref a]) I1.kIn hm.kp (run_g (us := [.ref a]) (vs := [.ref a]) F hr hb hx I1 (.cons rfl .nil) (by simpa [tNil] using q)))
/-- f(e, .., k = v, ..), n values by position: how it binds -/
theorem run_gk {n : Nat} {g : List Value → List Value → List Value} {gV : List V → List V → List V} {pins : List (Addr × Obj)} {σ : L2.St} {H : Hp} {s : Shared} {Q : VK} {us ws : List Value} {vs zs : List V} (F : FG X.prog X.w X.K X.mg X.base CX k f fd ps sp) (hr : RG k X.A)
    (hb : KBn X.K fd ps n ks g gV) (hx : Passes CX X E) (I : Inv X pins σ H s) (r : Vals vs us) (rz : Vals zs ws) (l1 : vs.length = n) (l2 : zs.length = ks.length) (h : sp (gV vs zs) H Q E) :
    wpAny (model X.prog X.w) X.A (call (.ref f) us (ks.zip ws)) (EP X pins σ Q) X.xe s := by
  refine wpAny_call (codeAny_mono (F.run X.A X.stack s H _ (g us ws) _ Q E hr I.env0 (hb.to s us ws I.kIn (r.length.symm.trans l1) (rz.length.symm.trans l2)) (hb.rel r rz) h) fun q s' hq => ?_)
  have z := ret_of hx I hq
  cases q with
  | error e => exact z
  | ok fl => cases fl <;> exact z
def tGK (n m : Nat) (sp : Sp) (gV : List V → List V → List V) (E : XK) (t tk : TA) : TE := fun σ H Q => t σ H fun vs H1 => tk σ H1 fun zs H2 => vs.length = n ∧ zs.length = m ∧ sp (gV vs zs) H2 Q E
/-- f(k = v, ..) -/
theorem pe_gk0 {g : List Value → List Value → List Value} {gV : List V → List V → List V} (F : FG X.prog X.w X.K X.mg X.base CX k f fd ps sp) (hr : RG k X.A) (hg : Gl X x) (hm : X.mg x = some (.ref f)) (hk : PySem.W.keepIn X.K (.ref f) = true) (hb : KBn X.K fd ps 0 ks g gV) (hx : Passes CX X E)
    (hkw : PK X kws tk) (nk : NamedOnly X kws pos ks := by exact ⟨rfl, rfl, rfl⟩)
    (hdb : (x == ("__debug__" : Str)) = false := by decide) :
    PE X (.Call (.Name x p) [] kws pos) (tGK 0 ks.length sp gV E tNil tk) := by
  refine ⟨fun pins s σ H Q I h => wpAny_Call_Name_kw (ld_glob I hg hm (PySem.W.callWith_KW0 (h₀ := X.base) I.ok.mod.kin hk nk.each (thn (hkw.run pos pins s σ H _ I h) ?_) nk.flat) hdb)⟩
  rintro ws s2 ⟨zs, H2, I2, rz, l1, l2, q2⟩
  refine ⟨I2.kIn, ?_⟩
  rw [nk.keys]
  exact run_gk (us := []) (vs := []) F hr hb hx I2 .nil rz rfl l2 q2
/-- a class of one's own is called; Z tells what its __init__ may let out -/
theorem run_new {n : Nat} {g : List Value → List Value → List Value} {gV : List V → List V → List V} {pins : List (Addr × Obj)} {σ : L2.St} {H : Hp} {s : Shared} {Q : VK} {us ws : List Value} {vs zs : List V} {Z : XK} (M : Mk X.K C f) (F : FG X.prog X.w X.K X.mg X.base CX k f fd ps sp) (hr : RG (k + 1) X.A)
    (hb : KBn X.K fd ps (n + 1) ks g gV) (out : ∀ (H' : Hp) (s1 s2 : Shared) (e : Value), Inv X pins σ H' s1 → CX X.stack H' s1 Z e s2 → X.xe e s2) (I : Inv X pins σ H s) (r : Vals vs us) (rz : Vals zs ws) (l1 : vs.length = n) (l2 : zs.length = ks.length)
    (want : ∀ a d : Addr, H a = none → H d = none → d ≠ a → sp (gV (.ref a :: vs) zs) (upd (upd H d (.own a)) a (.ins C d [])) (fun v H' => v = .non ∧ Q (.ref a) H') Z) : wpAny (model X.prog X.w) X.A (call (.ref C) us (ks.zip ws)) (EP X pins σ Q) X.xe s := by
  have J := Inv.made (C := C) I
  have free : ∀ j, H (s.heap.objs.size + j) = none := fun j => I.hok.fresh (Nat.le_add_right _ j)
  have prom := want (s.heap.objs.size + 1) s.heap.objs.size (free 1) (free 0) (Nat.succ_ne_self _).symm
  have self : Vals (V.ref (s.heap.objs.size + 1) :: vs) (Value.ref (s.heap.objs.size + 1) :: us) := Paired.cons rfl r
  have many : (Value.ref (s.heap.objs.size + 1) :: us).length = n + 1 := by rw [← self.length, List.length_cons, l1]
  have manyK : ws.length = ks.length := by rw [← rz.length, l2]
  have body := F.run _ X.stack _ _ _ _ _ _ Z (hr.make C us (ks.zip ws)) (J.env0.make C us (ks.zip ws)) (hb.to _ _ _ J.kIn many manyK) (hb.rel self rz) prom
  refine wpAny_call (make_map I.kIn M.makes M.init (beq_iff_eq.mp M.fn) (codeAny_mono body ?_))
  rintro (e | _ | _ | _ | u) s' z
  · exact out _ _ _ _ J z
  iterate 3 exact False.elim z
  obtain ⟨_, H', J', rv, rfl, q⟩ := J.after z
  exact ⟨rv, .ref (s.heap.objs.size + 1), H', J', rfl, q⟩
theorem run_gmk {n : Nat} {g : List Value → List Value → List Value} {gV : List V → List V → List V} {pins : List (Addr × Obj)} {σ : L2.St} {H : Hp} {s : Shared} {Q : VK} {us ws : List Value} {vs zs : List V} (M : Mk X.K C f) (F : FG X.prog X.w X.K X.mg X.base CX k f fd ps sp) (hr : RG (k + 1) X.A)
    (hb : KBn X.K fd ps (n + 1) ks g gV) (hx : Passes CX X E) (I : Inv X pins σ H s) (r : Vals vs us) (rz : Vals zs ws) (l1 : vs.length = n) (l2 : zs.length = ks.length)
    (want : ∀ a d : Addr, H a = none → H d = none → d ≠ a → sp (gV (.ref a :: vs) zs) (upd (upd H d (.own a)) a (.ins C d [])) (fun v H' => v = .non ∧ Q (.ref a) H') E) :
    wpAny (model X.prog X.w) X.A (call (.ref C) us (ks.zip ws)) (EP X pins σ Q) X.xe s :=
  run_new M F hr hb (fun H' s1 s2 e J z => hx pins σ H' s1 e s2 J z) I r rz l1 l2 want
abbrev tGM := @tMakeK
theorem pe_gmk0 {g : List Value → List Value → List Value} {gV : List V → List V → List V} (M : Mk X.K C f) (F : FG X.prog X.w X.K X.mg X.base CX k f fd ps sp) (hr : RG (k + 1) X.A) (hg : Gl X x) (hm : X.mg x = some (.ref C)) (hb : KBn X.K fd ps 1 ks g gV) (hx : Passes CX X E) (hkw : PK X kws tk)
    (nk : NamedOnly X kws pos ks := by exact ⟨rfl, rfl, rfl⟩) (hdb : (x == ("__debug__" : Str)) = false := by decide)
    :
    PE X (.Call (.Name x p) [] kws pos) (tGM C 0 ks.length sp gV E tNil tk) := by
  refine ⟨fun pins s σ H Q I h => wpAny_Call_Name_kw (ld_glob I hg hm (PySem.W.callWith_KW0 (h₀ := X.base) I.ok.mod.kin M.kp nk.each (thn (hkw.run pos pins s σ H _ I h) ?_) nk.flat) hdb)⟩
  rintro ws s2 ⟨zs, H2, I2, rz, l1, l2, q2⟩
  refine ⟨I2.kIn, ?_⟩
  rw [nk.keys]
  exact run_gmk (us := []) (vs := []) M F hr hb hx I2 .nil rz rfl l2 q2
/-- C(e, ..) by position alone -/
theorem pe_gmk (M : Mk X.K C f) (F : FG X.prog X.w X.K X.mg X.base CX k f fd ps sp) (hr : RG (k + 1) X.A) (hg : Gl X x) (hm : X.mg x = some (.ref C)) {n : Nat} {g : List Value → List Value → List Value} {gV : List V → List V → List V} (hb : KBn X.K fd ps (n + 1) [] g gV) (hx : Passes CX X E) (ha : PA X (e :: es) t)
    (hdb : (x == ("__debug__" : Str)) = false := by decide) (one : OneByOne X e es pos := by exact ⟨rfl, rfl⟩) :
    PE X (.Call (.Name x p) (e :: es) [] pos) (tGM C n 0 sp gV E t tNil) := by
  refine ⟨fun pins s σ H Q I h => wpAny_Call_Name_kw (ld_glob I hg hm (PySem.W.callWith_K (h₀ := X.base) I.ok.mod.kin M.kp (thn (ha.run pos pins s σ H _ I h) ?_) one.next one.none) hdb)⟩
  rintro us s1 ⟨vs, H1, I1, r, l1, l2, q⟩
  refine ⟨I1.kIn, ?_⟩
  exact run_gmk (ks := []) (ws := []) (zs := []) M F hr hb hx I1 r .nil l1 rfl q
end
/-- how a def without defaults binds, keywords among its arguments -/
theorem kb_of {K : PySem.W.Frag} {x qual : Str} {params : Arguments} {body : List Stmt} {scope : Scope} {kws : List (Str × V)} {f : Addr} {fd : FuncData} {ps : List Str} (F : FunD K x qual params body scope [] kws f fd) (n : Nat) (ks : List Str) (g : {α : Type} → List α → List α → List α)
    (hrel : ∀ {vs zs : List V} {us ws : List Value}, Vals vs us → Vals zs ws → Vals (g vs zs) (g us ws))
    (h : ∀ (kV doc pm : Value) (an : Option Addr) (cdv ct : Value) (us ws : List Value), us.length = n → ws.length = ks.length → bindArgs (PySem.W.fnOf x qual params body scope .none kV doc pm an cdv ct) ⟨us, ks.zip ws⟩ = pure (ps.zip (g us ws))) :
    KBn K fd ps n ks (fun us ws => g us ws) (fun vs zs => g vs zs) := by
  have ⟨_, _, dV, kV, doc, pm, an, cdv, ct, _, is, _, _, dflt, _⟩ := F.ex
  subst is
  have none : dV = .none := dflt.elim (·.2) fun z => absurd rfl z.1
  subst none
  exact ⟨fun s us ws _ l1 l2 => .of_eq (h kV doc pm an cdv ct us ws l1 l2), hrel⟩
end G

namespace G
open L2 PyProof.Rows PySem PySem.Spec
open Evl (Ex)
/-! ### data over the abstract heap -/
mutual
inductive Dq (K : PySem.W.Frag) (H : Hp) : V → PyData → Prop
  | non : Dq K H .non .none
  | bl (b : Bool) : Dq K H (.bl b) (.bool b)
  | int (i : Int) : Dq K H (.int i) (.int i)
  | str (x : Str) : Dq K H (.str x) (.str x)
  | lst {a : Addr} {xs : List V} {ds : List PyData} (h : SqL K H a xs) (hs : Dqs K H xs ds) : Dq K H (.ref a) (.list ds)
  | tup {a : Addr} {xs : List V} {ds : List PyData} (h : SqT K H a xs) (hs : Dqs K H xs ds) : Dq K H (.ref a) (.tuple ds)
  | dic {a : Addr} (h : H a = some (.dK [])) : Dq K H (.ref a) (.dict [])
inductive Dqs (K : PySem.W.Frag) (H : Hp) : List V → List PyData → Prop
  | nil : Dqs K H [] []
  | cons {v : V} {vs : List V} {d : PyData} {ds : List PyData} (h : Dq K H v d) (hs : Dqs K H vs ds) : Dqs K H (v :: vs) (d :: ds)
end
section
variable {K : PySem.W.Frag} {H H' : Hp}
mutual
theorem Dq.mono (e : Ex H H') : ∀ {v : V} {d : PyData}, Dq K H v d → Dq K H' v d
  | _, _, .non => .non
  | _, _, .bl b => .bl b
  | _, _, .int i => .int i
  | _, _, .str x => .str x
  | _, _, .lst h hs => .lst (Evl.ex_l e h) (Dqs.mono e hs)
  | _, _, .tup h hs => .tup (Evl.ex_t e h) (Dqs.mono e hs)
  | _, _, .dic h => .dic (e _ _ h)
theorem Dqs.mono (e : Ex H H') : ∀ {v : List V} {d : List PyData}, Dqs K H v d → Dqs K H' v d
  | _, _, .nil => .nil
  | _, _, .cons h hs => .cons (h.mono e) (Dqs.mono e hs)
end
theorem Dqs.length : ∀ {xs : List V} {ds : List PyData}, Dqs K H xs ds → xs.length = ds.length
  | _, _, .nil => rfl
  | _, _, .cons _ hs => congrArg Nat.succ (Dqs.length hs)
theorem Dqs.get : ∀ {xs : List V} {ds : List PyData} {i : Nat} {x : V}, Dqs K H xs ds → xs[i]? = some x → ∃ d, ds[i]? = some d ∧ Dq K H x d
  | _, _, _, _, .nil, seen => by simp at seen
  | _, _, 0, _, .cons h _, e => by simp at e; subst e; exact ⟨_, rfl, h⟩
  | _, _, i + 1, _, .cons _ hs, e => by
    obtain ⟨d, h1, h2⟩ := Dqs.get (i := i) hs (by simpa using e)
    exact ⟨d, by simpa using h1, h2⟩
theorem Dqs.at_ : ∀ {xs : List V} {ds : List PyData} {i : Nat} {d : PyData}, Dqs K H xs ds → ds[i]? = some d → ∃ x, xs[i]? = some x ∧ Dq K H x d
  | _, _, _, _, .nil, seen => by simp at seen
  | _, _, 0, _, .cons h _, e => by simp at e; subst e; exact ⟨_, rfl, h⟩
  | _, _, i + 1, _, .cons _ hs, e => by
    obtain ⟨x, h1, h2⟩ := Dqs.at_ (i := i) hs (by simpa using e)
    exact ⟨x, (by simpa using h1), h2⟩
theorem Dqs.append : ∀ {xs ys : List V} {ds es : List PyData}, Dqs K H xs ds → Dqs K H ys es → Dqs K H (xs ++ ys) (ds ++ es)
  | _, _, _, _, .nil, h => h
  | _, _, _, _, .cons h hs, h' => .cons h (Dqs.append hs h')
theorem Dqs.take : ∀ {xs : List V} {ds : List PyData} (n : Nat), Dqs K H xs ds → Dqs K H (xs.take n) (ds.take n)
  | _, _, 0, _ => by simpa using Dqs.nil
  | _, _, _ + 1, .nil => .nil
  | _, _, n + 1, .cons h hs => .cons h (Dqs.take n hs)
theorem Dqs.drop : ∀ {xs : List V} {ds : List PyData} (n : Nat), Dqs K H xs ds → Dqs K H (xs.drop n) (ds.drop n)
  | _, _, 0, h => h
  | _, _, _ + 1, .nil => .nil
  | _, _, n + 1, .cons _ hs => Dqs.drop n hs
theorem Dqs.set : ∀ {xs : List V} {ds : List PyData} {x : V} {d : PyData} (i : Nat), Dqs K H xs ds → Dq K H x d → Dqs K H (xs.set i x) (ds.set i d)
  | _, _, _, _, _, .nil, _ => .nil
  | _, _, _, _, 0, .cons _ hs, h => .cons h hs
  | _, _, _, _, i + 1, .cons g hs, h => .cons g (Dqs.set i hs h)
theorem Dqs.ints (ns : List Int) : Dqs K H (ns.map V.int) (ns.map PyData.int) := by
  induction ns with
  | nil => exact .nil
  | cons n ns ih => exact .cons (.int n) ih
theorem Dqs.ints_inv : ∀ {ns : List Int} {xs : List V}, Dqs K H xs (ns.map PyData.int) → xs = ns.map V.int
  | [], _, .nil => rfl
  | n :: ns, _, .cons h hs => by cases h; rw [List.map_cons, Dqs.ints_inv hs]
mutual
theorem Dq.dp : ∀ {v : V} {d : PyData}, Dq K H v d → d.canLay0 = true → Dp K H v d
  | _, _, .non, _ => .non
  | _, _, .bl b, _ => .bl b
  | _, _, .int i, _ => .int i
  | _, _, .str x, _ => .str x
  | _, _, .lst h hs, c => .lst h (Dqs.dp hs (by simpa [PyData.canLay0] using c))
  | _, _, .tup h hs, c => .tup h (Dqs.dp hs (by simpa [PyData.canLay0] using c))
  | _, _, .dic h, c => by simp [PyData.canLay0] at c
theorem Dqs.dp : ∀ {v : List V} {d : List PyData}, Dqs K H v d → PyData.canLayAll0 d = true → DpAll K H v d
  | _, _, .nil, _ => .nil
  | _, _, .cons h hs, c => by
    simp only [PyData.canLayAll0, Bool.and_eq_true] at c
    exact .cons (h.dp c.1) (Dqs.dp hs c.2)
end
/-- a value's type's name -/
def tyN : PyData → String
  | .int _ => "int" | .bool _ => "bool" | .str _ => "str" | .none => "NoneType"
  | .dict _ => "dict" | .tuple _ => "tuple" | .list _ => "list"
theorem Dq.ty {v : V} {d : PyData} (h : Dq K H v d) : TyX K H v (.type (tyN d)) := by
  cases h with
  | non => exact .base .non
  | bl b => exact .base (.bl b)
  | int i => exact .base (.int i)
  | str x => exact .base (.str x)
  | dic h => exact .base (.dK h)
  | lst h hs => rcases h with (h | ⟨o, h⟩) | ⟨o, its, n, h1, h2, _⟩
                · exact .base (.lst h)
                · exact .base (.frz h)
                · exact .kList h1 h2
  | tup h hs => rcases h with (h | ⟨o, h⟩) | ⟨o, its, n, h1, h2, _⟩
                · exact .base (.tup h)
                · exact .fTuple h
                · exact .kTuple h1 h2
def isT (T : String) : PyData → Bool
  | .none => T == "NoneType" | .bool _ => T == "bool" || T == "int" | .int _ => T == "int" | .str _ => T == "str" | .list _ => T == "list" | .tuple _ => T == "tuple" | .dict _ => T == "dict"
theorem kit_is {d : PyData} {T : String} (hT : T = "int" ∨ T = "bool" ∨ T = "tuple" ∨ T = "list" ∨ T = "str") : PySem.W.kitOne K (.type (tyN d)) (.type T) = some (isT T d) := by
  rcases hT with rfl | rfl | rfl | rfl | rfl <;> cases d <;> simp only [tyN, isT] <;> exact kit_ty (by decide +kernel)
/-- isinstance(x, T) of data -/
theorem rIsi_of {v c : V} {d : PyData} {T : String} {Q : VK} (h : Dq K H v d) (hc : c = .ty T) (q : Q (.bl (isT T d)) H) (hT : T = "int" ∨ T = "bool" ∨ T = "tuple" ∨ T = "list" ∨ T = "str" := by simp) : rIsi K [v, c] H Q :=
  ⟨v, c, _, _, _, rfl, hc ▸ .ty T, h.ty, kit_is hT, q⟩
/-- sys.modules stands in the written part (it is a dict) -/
def Sm (K : PySem.W.Frag) : Prop := ∃ o, K.lookup sysModules = some o ∧ o.cls = .type "dict"
theorem Sm.ne {X : Cx} {pins : List (Addr × Obj)} {σ : L2.St} {H : Hp} {s : Shared} (S : Sm X.K) (I : Inv X pins σ H s) {a : Addr} (h : (∃ o, H a = some o) ∨ ∃ o, X.K.lookup a = some o ∧ o.cls ≠ .type "dict") : sysModules ≠ a := by
  obtain ⟨o, h1, h2⟩ := S
  rintro rfl
  rcases h with ⟨u, h⟩ | ⟨u, h, c⟩
  · have z := (I.bs _ _ (I.mod.kin _ _ h1)).2
    rw [z] at h; cases h
  · rw [h1] at h; cases h; exact c h2
/-! ### repr -/
mutual
theorem Dq.reads {X : Cx} {pins : List (Addr × Obj)} {σ : L2.St} {H : Hp} {s : Shared} (S : Sm X.K) (I : Inv X pins σ H s) : ∀ {v : V} {d : PyData}, Dq X.K H v d → ∀ u, RelV v u → ∃ as, Reads s.heap u d as ∧ sysModules ∉ as
  | _, _, .non, _, r => by cases r; exact ⟨_, .none, by simp⟩
  | _, _, .bl b, _, r => by cases r; exact ⟨_, .bool b, by simp⟩
  | _, _, .int i, _, r => by obtain ⟨t, rfl⟩ := r; exact ⟨_, .int i t, by simp⟩
  | _, _, .str x, _, r => by obtain ⟨t, rfl⟩ := r; exact ⟨_, .str x t, by simp⟩
  | _, _, .lst h hs, _, r => by
    cases r
    obtain ⟨its, rv, ⟨o, n, ho, hc, _, hd⟩, _⟩ := I.list h
    obtain ⟨as, hr, hn⟩ := Dqs.reads S I hs _ rv
    have hne : sysModules ≠ _ := S.ne I (a := _) (by
      rcases h with (h | ⟨o, h⟩) | ⟨o, its, n, h1, h2, _⟩
      · exact .inl ⟨_, h⟩
      · exact .inl ⟨_, h⟩
      · exact .inr ⟨_, h1, by rw [h2]; exact fun z => absurd (Value.type.inj z) (by decide)⟩)
    exact ⟨_, Reads.list ho hc hd (by simpa using hr), by simp [hn, hne]⟩
  | _, _, .tup h hs, _, r => by
    cases r
    obtain ⟨its, rv, ⟨o, ho, hc, n, hd⟩, _⟩ := I.tuple h
    obtain ⟨as, hr, hn⟩ := Dqs.reads S I hs _ rv
    exact ⟨_, Reads.tuple ho hc hd (by simpa using hr), hn⟩
  | _, _, .dic h, _, r => by
    cases r
    have hne : sysModules ≠ _ := S.ne I (.inl ⟨_, h⟩)
    obtain ⟨_, _, vs, kv, o, es, ep, ho, hx, hd, _, hp, _⟩ := I.hok _ _ h
    cases kv
    obtain ⟨l⟩ := es
    have hl : l = [] := by cases hp; rfl
    subst hl
    exact ⟨_, Reads.dict (kvs := []) ho hx.1 hd .nil .nil, by simp [hne]⟩
theorem Dqs.reads {X : Cx} {pins : List (Addr × Obj)} {σ : L2.St} {H : Hp} {s : Shared} (S : Sm X.K) (I : Inv X pins σ H s) : ∀ {vs : List V} {ds : List PyData}, Dqs X.K H vs ds → ∀ us, Vals vs us → ∃ as, ReadsAll s.heap us ds as ∧ sysModules ∉ as
  | _, _, .nil, _, r => by cases r; exact ⟨_, .nil, by simp⟩
  | _, _, .cons h hs, _, r => by
    cases r with
    | cons r1 r2 =>
      obtain ⟨as, q1, n1⟩ := h.reads S I _ r1
      obtain ⟨bs, q2, n2⟩ := Dqs.reads S I hs _ r2
      exact ⟨_, .cons q1 q2, by simp [n1, n2]⟩
end
/-- repr(x) of data -/
def rRepr (K : PySem.W.Frag) : List V → Hp → VK → Prop := fun xs H Q => ∃ x d, xs = [x] ∧ Dq K H x d ∧ d.showable = true ∧ d.shown.length ≤ sizeLine ∧ d.depth ≤ 60 ∧ Q (.str d.shown) H
theorem call_repr {X : Cx} (S : Sm X.K) (hg : X.A.guards = some []) (hu : X.A.units + 64 < cLine) : CallR X (.builtin "repr") (rRepr X.K) := by
  rintro pins s σ H xs us Q I r ⟨x, d, rfl, h, hs, hz, hd, q⟩
  obtain ⟨u, only, ru⟩ := vals1 r
  subst only
  obtain ⟨as, rd, hn⟩ := h.reads S I u ru
  have core : ∀ a, u = .ref a → wpAny (model X.prog X.w) X.A (call (.builtin "repr") [u]) (EP X pins σ Q) X.xe s := by
    rintro a rfl
    exact repr_of_reads' rd hs (fun _ => hn) hg (by omega) (fun _ _ e => e) (fun h' t tk hk => ⟨.str d.shown, H, I.kept hk, ⟨_, rfl⟩, q⟩) hz
  have sc : ∀ t : Str, d.shown = t → EP X pins σ Q (.str t s.toks) { s with toks := s.toks + 1 } := fun t e => ⟨.str d.shown, H, I.tok _, ⟨_, by rw [e]⟩, q⟩
  cases h with
  | non => cases ru; exact PySem.P.repr_of_none (sc _ (by simp only [PyData.shown]))
  | bl b => cases ru; exact PySem.P.repr_of_bool (sc _ (by simp only [PyData.shown]))
  | int i => obtain ⟨t, rfl⟩ := ru; exact PySem.P.repr_of_int (by simpa [PyData.showable] using hs) (sc _ (by simp only [PyData.shown]))
  | str x => obtain ⟨t, rfl⟩ := ru; exact PySem.P.repr_of_str (sc _ (by simp only [PyData.shown])) (by simpa only [PyData.shown] using hz)
  | lst h hs => cases ru; exact core _ rfl
  | tup h hs => cases ru; exact core _ rfl
  | dic h => cases ru; exact core _ rfl
end
end G

namespace G
open L2 PyProof.Rows PySem PySem.Spec
open Evl (Ex)
/-! ### own errors: LeftError.__init__(self, words) -/
/-- LeftError, the parent of all, at C: its __init__ is ValueError's -/
structure ParC (K : PySem.W.Frag) (mg : Str → Option Value) (C : Addr) : Prop where
  g : mg "LeftError" = some (.ref C)
  rd : ∃ mc, PySem.W.readsIn K C mc = true ∧ PySem.W.findCls K (.ref C) mc "__init__" = some (.val (.builtin "ValueError.__init__"))
  ga : some (some (.builtin "type.__getattribute__")) = PySem.W.specialIn K (.ref C) "__getattribute__"
theorem pe_parinit {X : Cx} {C : Addr} {e : Expr} {es : List Expr} {ta : TA} {p1 p2 pos : Pos} {pl : Sem Bool} (T : ParC X.K X.mg C) (hg : Gl X "LeftError") (ha : PA X (e :: es) ta)
    (hc : eval (.Call (.Attribute (.Name "LeftError" p1) "__init__" p2) (e :: es) [] pos) X.env = (do let ov ← eval (.Name "LeftError" p1) X.env; standAt p2.atName; let (f, first) ← holding [ov] (getMethod ov "__init__" pl); callWith pos f first (backTo pos (starEach (e :: es) X.env)) (backToKw pos (keywordEach [] X.env))) := by rfl)
    (one : OneByOne X e es pos := by exact ⟨rfl, rfl⟩) :
    PE X (.Call (.Attribute (.Name "LeftError" p1) "__init__" p2) (e :: es) [] pos) (tVeI X.K ta) := by
  obtain ⟨mc, rd, fi⟩ := T.rd
  refine ⟨fun pins s σ H Q I h => PySem.W.methodCall_KW (ld_glob I hg T.g (PySem.W.method_cls I.kIn T.ga.symm (PySem.W.cls_value I.kIn rd fi rfl ?_))) hc⟩
  refine PyProof.Rows.callWith_method1 (thn (ha.run pos pins _ σ H _ (I.tok _) h) ?_) one.next one.none
  rintro us s1 ⟨_, H1, I1, r1, a, D, ws, rfl, hl, T2, ea, q⟩
  cases r1 with
  | @cons _ u0 _ ur ra rw' =>
    cases ra
    have hn : ur.length ≤ sizeLine := by
      rw [← Paired.length rw', sizeLine_eq]; omega
    exact oinit_ok T2 I1 ea hn fun s' J => ⟨.non, H1, J, rfl, q⟩
/-- a class of errors at C, of a name x, with the fields fs -/
structure ErrC (K : PySem.W.Frag) (mg : Str → Option Value) (x : Str) (C : Addr) : Prop where
  g : mg x = some (.ref C)
  ox : OexC K C
  xf : XfC K C
/-- the promise of __init__(self, f) -/
def spE1 (C : Addr) (f : Str) : Sp := fun vs H Q _ => ∃ (a : Addr) (v : V), vs = [.ref a, v] ∧ H a = some (exo a C none) ∧ ∀ d, H d = none → d ≠ a → Q .non (upd (upd H d (exd d [(f, v)])) a (exo a C (some d)))
def spE2 (C : Addr) (f g : Str) : Sp := fun vs H Q _ => ∃ (a : Addr) (v w : V), vs = [.ref a, v, w] ∧ H a = some (exo a C none) ∧ ∀ d H', H d = none → d ≠ a → H' a = some (exo a C (some d)) → H' d = some (exd d [(g, w), (f, v)]) → (∀ b, b ≠ a → b ≠ d → H' b = H b) → Q .non H'
/-- the error is made: what is left of it is its dict -/
theorem ex_err {H : Hp} {a d : Addr} {o u w : HO} {fs : List (Str × V)} (ha : H a = none) (hd : H d = none) (hne : d ≠ a) : Ex H (upd (del (upd (upd (upd H a o) d u) a w) a) d (.xd fs)) := fun b z e => by
  have b1 : b ≠ a := fun q => by rw [q, ha] at e; cases e
  have b2 : b ≠ d := fun q => by rw [q, hd] at e; cases e
  rw [upd_ne b2, del_ne b1, upd_ne b1, upd_ne b2, upd_ne b1]; exact e
def upA (ta : TA) : TA := fun σ H P => ∃ P', (∀ vs H1, P' vs H1 → P vs H1) ∧ ta σ H P'
theorem PA.up {X : Cx} {es : List Expr} {ta : TA} (h : PA X es ta) : PA X es (upA ta) :=
  ⟨fun pos pins s σ H P I ⟨_, hp, z⟩ => thn (h.run pos pins s σ H _ I z) fun _ _ ⟨vs, H1, J, r, q⟩ => ⟨vs, H1, J, r, hp vs H1 q⟩⟩
def tErr1 (C : Addr) (f : Str) (ta : TA) : L2.St → Hp → XK → Prop := fun σ H Q => ta σ H fun vs H1 => ∃ v, vs = [v] ∧ ∀ d H', H1 d = none → Ex H1 H' → H' d = some (.xd [(f, v)]) → Q (.ref C) (some d) H'
def tErr2 (C : Addr) (f g : Str) (ta : TA) : L2.St → Hp → XK → Prop := fun σ H Q => ta σ H fun vs H1 => ∃ v w, vs = [v, w] ∧ ∀ d H', H1 d = none → Ex H1 H' → H' d = some (.xd [(g, w), (f, v)]) → Q (.ref C) (some d) H'
theorem mkO1 {C : Addr} {f : Str} {ta : TA} {σ : L2.St} {H : Hp} {Q : XK} (h : tErr1 C f ta σ H Q) : tMkO C (spE1 C f) [] (upA ta) σ H Q := by
  refine ⟨_, ?_, h⟩
  rintro _ H1 ⟨v, rfl, q⟩
  refine ⟨by simp, fun a ha => ⟨a, v, rfl, upd_same, fun d hd hne => ⟨rfl, d, [(f, v)], upd_same, by rw [upd_ne hne, upd_same], ?_, ?_⟩⟩⟩
  · rw [upd_ne hne] at hd; exact hd
  · rw [upd_ne hne] at hd
    exact q d _ hd (ex_err ha hd hne) upd_same
theorem mkO2 {C : Addr} {f g : Str} {ta : TA} {σ : L2.St} {H : Hp} {Q : XK} (h : tErr2 C f g ta σ H Q) : tMkO C (spE2 C f g) [] (upA ta) σ H Q := by
  refine ⟨_, ?_, h⟩
  rintro _ H1 ⟨v, w, rfl, q⟩
  refine ⟨by simp, fun a ha => ⟨a, v, w, rfl, upd_same, fun d H' hd hne e1 e2 e3 => ⟨rfl, d, _, e1, e2, ?_, ?_⟩⟩⟩
  · rw [upd_ne hne] at hd; exact hd
  · rw [upd_ne hne] at hd
    refine q d _ hd (fun b z e => ?_) upd_same
    have b1 : b ≠ a := fun q => by rw [q, ha] at e; cases e
    have b2 : b ≠ d := fun q => by rw [q, hd] at e; cases e
    rw [upd_ne b2, del_ne b1, e3 b b1 b2, upd_ne b1]; exact e
section
variable {X : Cx} {CX : CXT} {x : Str} {C fI : Addr} {k : Nat} {fd : FuncData} {e : Expr} {es : List Expr} {ta : TA} {p pos : Pos} {f g : Str}
/-- X(e): an error with one field -/
theorem pmk_err1 {ps : List Str} (T : ErrC X.K X.mg x C) (iC : PySem.W.findIn X.K (.ref C) "__init__" = some (some (.ref fI))) (tI : PySem.W.typeIn X.K (.ref fI) = some (.type "function"))
    (F : FnOk X.prog X.w X.K X.mg X.base CX0 k fI fd ps (spE1 C f)) (hr : RG (k + 1) X.A) (hb : Binds X.K fd ps []) (hg : Gl X x) (ha : PA X (e :: es) ta)
    (hdb : (x == ("__debug__" : Str)) = false := by decide) (one : OneByOne X e es pos := by exact ⟨rfl, rfl⟩) :
    PMk X (.Call (.Name x p) (e :: es) [] pos) (tErr1 C f ta) :=
  fun pins s σ H Q I h => pmk_oex T.ox iC tI F hr.r hb .nil pass0 hg T.g (PA.up ha) hdb one.next one.none pins s σ H Q I (mkO1 h)
theorem pmk_err2 {ps : List Str} (T : ErrC X.K X.mg x C) (iC : PySem.W.findIn X.K (.ref C) "__init__" = some (some (.ref fI))) (tI : PySem.W.typeIn X.K (.ref fI) = some (.type "function"))
    (F : FnOk X.prog X.w X.K X.mg X.base CX0 k fI fd ps (spE2 C f g)) (hr : RG (k + 1) X.A) (hb : Binds X.K fd ps []) (hg : Gl X x) (ha : PA X (e :: es) ta)
    (hdb : (x == ("__debug__" : Str)) = false := by decide) (one : OneByOne X e es pos := by exact ⟨rfl, rfl⟩) :
    PMk X (.Call (.Name x p) (e :: es) [] pos) (tErr2 C f g ta) :=
  fun pins s σ H Q I h => pmk_oex T.ox iC tI F hr.r hb .nil pass0 hg T.g (PA.up ha) hdb one.next one.none pins s σ H Q I (mkO2 h)
end
end G

namespace G
open L2 PyProof.Rows PySem PySem.Spec
open Evl (Ex)
/-! ### what the head tells -/
def kM (n : Nat) (g : Addr → Option Obj) : PySem.W.Frag := He.frG g (sysModules :: cStatics :: He.asD g n)
abbrev AlM : Type := He.AlD × Bool
def obsM (fa : List He.Fa) (fn : List He.DefD) (more : PySem.W.Frag → Bool) (K : PySem.W.Frag) : AlM := (He.obsD fa fn K, more K)
def SaysM (fa : List He.Fa) (fn : List He.DefD) (more : PySem.W.Frag → Bool) (K : PySem.W.Frag) : Prop := obsM fa fn more K = (He.valD fn, true)
def hookM (n : Nat) (fa : List He.Fa) (fn : List He.DefD) (more : PySem.W.Frag → Bool) : PySem.W.Hook where
  α := AlM
  obs := fun s => obsM fa fn more (kM n s.heap.get?)
  val := fun _ => (He.valD fn, true)
  says := fun _ h => ∃ K : PySem.W.Frag, K.In h ∧ SaysM fa fn more K
  of := fun _ _ e => ⟨_, He.frG_in, e⟩
  keeps := fun _ _ _ says kept => says.imp fun _ both => ⟨PySem.W.Frag.In.keeps both.1 kept, both.2⟩
def obM (n : Nat) (fa : List He.Fa) (fn : List He.DefD) (more : PySem.W.Frag → Bool) (s : PySem.W.SharedT) : AlM := obsM fa fn more (kM n (HandSHeadRun.getT s))
theorem obM_eq (n : Nat) (fa : List He.Fa) (fn : List He.DefD) (more : PySem.W.Frag → Bool) (s : PySem.W.SharedT) : obM n fa fn more s = (hookM n fa fn more).obs s.abs := by
  have e : HandSHeadRun.getT s = s.abs.heap.get? := funext (HandSHeadRun.getT_eq s)
  show obsM fa fn more (kM n (HandSHeadRun.getT s)) = obsM fa fn more (kM n s.abs.heap.get?)
  rw [e]
section
variable {fa : List He.Fa} {fn : List He.DefD} {more : PySem.W.Frag → Bool} {K : PySem.W.Frag}
theorem SaysM.d (c : SaysM fa fn more K) : He.SaysD fa fn K := (Prod.mk.inj c).1
theorem SaysM.m (c : SaysM fa fn more K) : more K = true := (Prod.mk.inj c).2
end
/-- sys.modules, as a look -/
def smB (K : PySem.W.Frag) : Bool := match K.lookup sysModules with
  | some o => o.cls == .type "dict"
  | none => false
theorem smB_ok {K : PySem.W.Frag} (h : smB K = true) : Sm K := by
  unfold smB at h
  split at h
  · rename_i o e; exact ⟨o, e, beq_iff_eq.mp h⟩
  · cases h
/-- an own class over ValueError, as a look -/
def oexB (K : PySem.W.Frag) (C : Addr) : Bool := match K.lookup C with
  | some ⟨.type "type", _, .cls own, slots⟩ => (match own.mro, slots.toList with
    | .ref C' :: bm, [_, _, _, _, some (.builtin n), _] => C' == C && n == "ValueError.__new__" && !own.hasDel && own.hasDict && PySem.HandSPX.refsVE bm
    | _, _ => false)
  | _ => false
def clsB (K : PySem.W.Frag) (C : Addr) : Bool := oexB K C && (decide (PySem.W.findIn K (.ref C) "__setattr__" = some (some (.builtin "object.__setattr__"))) && (decide (PySem.W.subIn K (.ref C) (.type "BaseException") = some true) &&
  (decide (PySem.W.typeIn K (.ref C) = some (.type "type")) && PySem.W.keepIn K (.ref C))))
theorem clsB_ok {K : PySem.W.Frag} {C : Addr} (h : clsB K C = true) : OexC K C := by
  unfold clsB at h
  simp only [decide_eq_true_eq, Bool.and_eq_true] at h
  obtain ⟨h1, h2, h3, h4, h5⟩ := h
  refine ⟨?_, h2, h3, h4, h5⟩
  unfold oexB at h1
  split at h1
  · rename_i dd own slots ho
    split at h1
    · rename_i C' bm k0 k1 k2 k3 n k5 line six
      simp only [Bool.and_eq_true, beq_iff_eq, Bool.not_eq_true'] at h1
      obtain ⟨⟨⟨⟨rfl, rfl⟩, hdel⟩, hdi⟩, ht⟩ := h1
      cases own with | mk nm bs mro ns qn hd sn sub ab col del =>
      cases slots with | mk all =>
      dsimp only at line hdel hdi
      subst line hdel hdi six
      exact ⟨nm, qn, ns, bs, bm, sn, sub, ab, col, dd, k0, k1, k2, k3, k5, ho, ht⟩
    · cases h1
  · cases h1
/-- an error class x with the fields fs -/
def errB (K : PySem.W.Frag) (p : Str × List Str) : Bool := clsB K (He.ga K p.1) && (xfB K (He.ga K p.1) && (decide (PySem.W.findIn K (.ref (He.ga K p.1)) "__init__" = some (some (.ref (He.ma K (He.ga K p.1) "__init__")))) &&
  (decide (PySem.W.typeIn K (.ref (He.ma K (He.ga K p.1) "__init__")) = some (.type "function")) && p.2.all fun f => decide (PySem.W.findIn K (.ref (He.ga K p.1)) f = some none))))
structure ErrF (K : PySem.W.Frag) (x : Str) (fs : List Str) : Prop where
  ox : OexC K (He.ga K x)
  xf : XfC K (He.ga K x)
  iC : PySem.W.findIn K (.ref (He.ga K x)) "__init__" = some (some (.ref (He.ma K (He.ga K x) "__init__")))
  tI : PySem.W.typeIn K (.ref (He.ma K (He.ga K x) "__init__")) = some (.type "function")
  no : ∀ f ∈ fs, PySem.W.findIn K (.ref (He.ga K x)) f = some none
theorem errB_ok {K : PySem.W.Frag} {x : Str} {fs : List Str} (h : errB K (x, fs) = true) : ErrF K x fs := by
  unfold errB at h
  simp only [Bool.and_eq_true, decide_eq_true_eq, List.all_eq_true] at h
  obtain ⟨h1, h2, h3, h4, h5⟩ := h
  exact ⟨clsB_ok h1, xfB_ok h2, h3, h4, h5⟩
/-- the parent -/
def parB (K : PySem.W.Frag) : Bool := PySem.W.readsIn K (He.ga K "LeftError") (.type "type") && ((match PySem.W.findCls K (.ref (He.ga K "LeftError")) (.type "type") "__init__" with
  | some (.val v) => v == .builtin "ValueError.__init__"
  | _ => false) && decide (PySem.W.specialIn K (.ref (He.ga K "LeftError")) "__getattribute__" = some (some (.builtin "type.__getattribute__"))))
theorem parB_ok {K : PySem.W.Frag} {mg : Str → Option Value} (h : parB K = true) (hg : mg "LeftError" = some (.ref (He.ga K "LeftError"))) : ParC K mg (He.ga K "LeftError") := by
  unfold parB at h
  simp only [decide_eq_true_eq, Bool.and_eq_true] at h
  obtain ⟨h1, h2, h3⟩ := h
  refine ⟨hg, ⟨.type "type", h1, ?_⟩, h3.symm⟩
  split at h2
  · rename_i v e; rw [e, beq_iff_eq.mp h2]
  · cases h2
/-! ### a global def that is called -/
structure Cal (P : Program) (w : World) (K : PySem.W.Frag) (mg : Str → Option Value) (base : Heap) (CX : CXT) (k : Nat) (x : Str) (ps : List Str) (sp : Sp) : Prop where
  ex : ∃ fd, FG P w K mg base CX k (He.ga K x) fd ps sp ∧ Binds K fd ps [] ∧ ∃ oc od osl, K.lookup (He.ga K x) = some ⟨oc, od, .func fd, osl⟩
  kp : PySem.W.keepIn K (.ref (He.ga K x)) = true
  g : mg x = some (.ref (He.ga K x))
section
variable {P : Program} {w : World} {K : PySem.W.Frag} {mg : Str → Option Value} {base : Heap} {CX : CXT}
theorem cal_of {x : Str} {params : Arguments} {body : List Stmt} {scope : Scope} {N ps : List Str} {k : Nat} {sp : Sp} (F : ∃ fd, FunD K x x params body scope [] [] (He.ga K x) fd) (hm : mg x = some (.ref (He.ga K x))) (S : FnScope N ps scope)
    (hb : ∀ (kV doc pm : Value) (an : Option Addr) (cdv ct : Value) (us : List Value), us.length = ps.length → bindArgs (PySem.W.fnOf x x params body scope .none kV doc pm an cdv ct) ⟨us, []⟩ = pure (ps.zip us))
    (few : ∀ (vs : List V) (H : Hp) (Q : VK) (E : XK), sp vs H Q E → vs.length = ps.length)
    (hbody : ∀ (f : Addr) (cdv : Value) (A : Around) (outer : List Env) (s : Shared) (H : Hp) (vs : List V) (Q : VK) (E : XK), RG k (A.deeper (envOfC x scope s.heap.objs.size f cdv)) → sp vs H Q E →
      ∃ t, PSs (cxOf CX P w K mg base N x scope f cdv A outer s H E) body t ∧ t { nx := fun _ H' => Q .non H', rt := Q } (start N vs) H) :
    Cal P w K mg base CX (k + 1) x ps sp := by
  obtain ⟨fd, F⟩ := F
  refine ⟨⟨fd, fg_of F S few (hbody _), F.bindsN hb, ?_⟩, F.kp, hm⟩
  obtain ⟨oc, od, _, _, _, _, _, _, _, osl, _, lk, _⟩ := F.ex
  exact ⟨oc, od, osl, lk⟩
end
section
variable {X : Cx} {CX : CXT} {k : Nat} {ps : List Str} {sp : Sp} {E : XK} {x : Str} {p pos : Pos} {e : Expr} {es : List Expr} {t : TA}
theorem pe_c (F : Cal X.prog X.w X.K X.mg X.base CX k x ps sp) (hr : RG k X.A) (hg : Gl X x) (hx : Passes CX X E) (ha : PA X (e :: es) t) (hdb : (x == ("__debug__" : Str)) = false := by decide)
    (one : OneByOne X e es pos := by exact ⟨rfl, rfl⟩) : PE X (.Call (.Name x p) (e :: es) [] pos) (tCall sp [] E t) := by
  obtain ⟨fd, G, b, _⟩ := F.ex
  exact pe_g G hr hg F.g F.kp b hx ha hdb one
theorem pe_c0 (F : Cal X.prog X.w X.K X.mg X.base CX k x ps sp) (hr : RG k X.A) (hg : Gl X x) (hx : Passes CX X E) (hdb : (x == ("__debug__" : Str)) = false := by decide) : PE X (.Call (.Name x p) [] [] pos) (tCall sp [] E tNil) := by
  obtain ⟨fd, G, b, _⟩ := F.ex
  exact pe_g0 G hr hg F.g F.kp b hx hdb
end
/-- the def that is called, by its text -/
theorem cal_fg {P : Program} {w : World} {K : PySem.W.Frag} {mg : Str → Option Value} {base : Heap} {CX : CXT} {k : Nat} {x : Str} {ps : List Str} {sp : Sp} {params : Arguments} {body : List Stmt} {scope : Scope} (F : Cal P w K mg base CX k x ps sp) (D : ∃ fd, FunD K x x params body scope [] [] (He.ga K x) fd) :
    ∃ fd, FunD K x x params body scope [] [] (He.ga K x) fd ∧ FG P w K mg base CX k (He.ga K x) fd ps sp := by
  obtain ⟨fd, G, _, oc, od, osl, lk⟩ := F.ex
  obtain ⟨fd', D⟩ := D
  obtain ⟨oc', od', _, _, _, _, _, _, _, osl', _, lk', _⟩ := id D.ex
  rw [lk] at lk'
  cases lk'
  exact ⟨fd, D, G⟩
theorem hu64 {k : Nat} {A : Around} (h : Room k A) : A.units + 64 < cLine := by have := h.un; omega
theorem hu65 {k : Nat} {A : Around} (h : Room k A) : A.units + 65 < cLine := by have := h.un; omega
theorem hu0 {k : Nat} {A : Around} (h : Room k A) : A.units < cLine := by have := h.un; omega
/-! ### promises by the number of arguments -/
abbrev Sp0 := Hp → VK → XK → Prop
def sp0 (R : Hp → VK → XK → Prop) : Sp := fun vs H Q E => vs = [] ∧ R H Q E
def sp1 (R : V → Hp → VK → XK → Prop) : Sp := fun vs H Q E => ∃ a, vs = [a] ∧ R a H Q E
def sp2 (R : V → V → Hp → VK → XK → Prop) : Sp := fun vs H Q E => ∃ a b, vs = [a, b] ∧ R a b H Q E
def sp3 (R : V → V → V → Hp → VK → XK → Prop) : Sp := fun vs H Q E => ∃ a b c, vs = [a, b, c] ∧ R a b c H Q E
def sp4 (R : V → V → V → V → Hp → VK → XK → Prop) : Sp := fun vs H Q E => ∃ a b c d, vs = [a, b, c, d] ∧ R a b c d H Q E
def sp5 (R : V → V → V → V → V → Hp → VK → XK → Prop) : Sp := fun vs H Q E => ∃ a b c d e, vs = [a, b, c, d, e] ∧ R a b c d e H Q E
theorem len0 {R} {vs : List V} {H : Hp} {Q : VK} {E : XK} (h : sp0 R vs H Q E) : vs.length = 0 := by obtain ⟨rfl, _⟩ := h; rfl
theorem len1 {R} {vs : List V} {H : Hp} {Q : VK} {E : XK} (h : sp1 R vs H Q E) : vs.length = 1 := by obtain ⟨_, rfl, _⟩ := h; rfl
theorem len2 {R} {vs : List V} {H : Hp} {Q : VK} {E : XK} (h : sp2 R vs H Q E) : vs.length = 2 := by obtain ⟨_, _, rfl, _⟩ := h; rfl
theorem len3 {R} {vs : List V} {H : Hp} {Q : VK} {E : XK} (h : sp3 R vs H Q E) : vs.length = 3 := by obtain ⟨_, _, _, rfl, _⟩ := h; rfl
theorem len4 {R} {vs : List V} {H : Hp} {Q : VK} {E : XK} (h : sp4 R vs H Q E) : vs.length = 4 := by obtain ⟨_, _, _, _, rfl, _⟩ := h; rfl
theorem len5 {R} {vs : List V} {H : Hp} {Q : VK} {E : XK} (h : sp5 R vs H Q E) : vs.length = 5 := by obtain ⟨_, _, _, _, _, rfl, _⟩ := h; rfl
/-! ### the end -/
/-- the law's def is called: tracked is the script at most, and only where the written part has it not -/
structure Met (P : Program) (w : World) (K : PySem.W.Frag) (h : Heap) (a : Addr) (zs : List V) (H : Hp) : Prop where
  only : Only H
  here : SqL K H a zs
  ok : HOk P w H h
  one : ∀ b, H b = none ∨ (b = a ∧ K.lookup a = none)
section
variable {P : Program} {w : World} {K : PySem.W.Frag} {mg mb : Str → Option Value} {a : Addr} {vs : List Value} {zs : List V} {s : Shared} {H : Hp}
abbrev scriptObj (vs : List Value) : Obj := { cls := .type "list", data := .seq vs.toArray }
theorem met_ex {h : Heap} (inK : K.In h) (at_a : h.get? a = some (scriptObj vs)) (r : Vals zs vs) (few : zs.length ≤ sizeLine) : ∃ H, Met P w K h a zs H := by
  rcases Option.eq_none_or_eq_some (K.lookup a) with out | ⟨u, own⟩
  · have alone : ∀ b, (upd (fun _ => none) a (.frz (scriptObj vs) (.lst zs)) : Hp) b = none ∨ b = a := fun b => by
      by_cases q : b = a
      · exact Or.inr q
      · exact Or.inl (by rw [upd_ne q])
    refine ⟨upd (fun _ => none) a (.frz (scriptObj vs) (.lst zs)), ?_, .inl (.inr ⟨_, upd_same⟩), ?_, fun b => (alone b).imp id fun q => ⟨q, out⟩⟩
    · intro b
      refine (alone b).imp id ?_
      rintro rfl
      exact ⟨_, _, upd_same⟩
    · intro b ob z
      rcases alone b with q | rfl
      · rw [q] at z; exact nomatch z
      · rw [upd_same] at z
        cases z
        exact ⟨at_a, few, vs, _, r, at_a⟩
  · have e := (inK a u own).symm.trans at_a
    cases e
    have size : vs.toArray.size ≤ sizeLine := by
      have := r.length
      rw [List.size_toArray]; omega
    exact ⟨fun _ => none, fun _ => .inl rfl, .inr ⟨_, vs.toArray, _, own, rfl, rfl, rfl, size, by simpa using r⟩, fun _ _ z => (nomatch z), fun _ => .inl rfl⟩
/-- an object that is no list in the state is not tracked -/
theorem Met.free (M : Met P w K s.heap a zs H) (at_a : s.heap.get? a = some (scriptObj vs)) {b : Addr} {o : Obj} (e : s.heap.get? b = some o) (no : b = a → o ≠ scriptObj vs) : (hidT s.heap H).get? b = some o := by
  refine hidT_get e ((M.one b).resolve_right fun ⟨q, _⟩ => no q ?_)
  subst q
  rw [e] at at_a
  exact Option.some.inj at_a
theorem Met.ns (M : Met P w K s.heap a zs H) (at_a : s.heap.get? a = some (scriptObj vs)) {b : Addr} {m : Str → Option Value} (n : s.heap.Ns b m) : (hidT s.heap H).Ns b m := by
  obtain ⟨o, es, ep, e, d, rest⟩ := n
  refine ⟨o, es, ep, M.free at_a e (fun _ q => ?_), d, rest⟩
  rw [q] at d
  exact Data.noConfusion d
theorem Met.env (M : Met P w K s.heap a zs H) (at_a : s.heap.get? a = some (scriptObj vs)) (inK : K.In s.heap) (main : s.heap.Ns mainGlobals mg) (bn : s.heap.Ns builtinsNs mb) (boot : ∀ x : Str, x ≠ "__name__" → mb x = bootBuiltins x) (free : s.heap.NoLimit) (still : s.gens = #[]) :
    K.In (hidT s.heap H) ∧ (hidT s.heap H).Ns mainGlobals mg ∧ Env0 P w K mg (hidT s.heap H) callerA [] s H := by
  have kin : K.In (hidT s.heap H) := fun b o e => by
    refine hidT_get (inK b o e) ((M.one b).resolve_right ?_)
    rintro ⟨rfl, none_⟩
    rw [none_] at e
    exact nomatch e
  have names := M.ns at_a main
  obtain ⟨mc, lim1, lim2⟩ := free
  refine ⟨kin, names, rfl, ⟨kin, names, ⟨mb, M.ns at_a bn, boot⟩, mc, M.ns at_a lim1, lim2⟩, fun _ _ e => of_hidT e, ?_, trivial, ?_, M.ok, AllBare.of_eq still⟩
  · rw [hidT_size]; exact Nat.le_refl _
  · intro b m
    exact absurd m List.not_mem_nil
end
theorem law_callG {P : Program} {w : World} {K : PySem.W.Frag} {mg mb : Str → Option Value} {k : Nat} {fa a : Addr} {fd : FuncData} {x : Str} {sp : Sp} {s : Shared} {vs : List Value} {ns : List Int}
    (inK : K.In s.heap) (main : s.heap.Ns mainGlobals mg) (bn : s.heap.Ns builtinsNs mb) (boot : ∀ x : Str, x ≠ "__name__" → mb x = bootBuiltins x) (free : s.heap.NoLimit) (still : s.gens = #[])
    (at_a : s.heap.get? a = some (scriptObj vs)) (nums : IntsAre vs ns) (few : ns.length ≤ sizeLine) (room : Room k callerA)
    (F : ∀ base : Heap, K.In base → base.Ns mainGlobals mg → FG P w K mg base CX0 k fa fd [x] sp) (binds : ∀ (s : Shared) (u : Value), BindsTo s fd ⟨[u], []⟩ [(x, u)])
    (prom : ∀ H : Hp, Only H → SqL K H a (ns.map V.int) → sp [.ref a] H (fun v _ => v = .bl true) fun _ _ _ => False) :
    codeAny (model P w) callerA (.call (.ref fa) ⟨[.ref a], []⟩) (fun r s' => (r = .ok (.ret (.bool true)) ∧ OldK s.heap s'.heap) ∧ s'.os = s.os ∧ AllBare s'.gens) s := by
  obtain ⟨H, M⟩ := met_ex (P := P) (w := w) inK at_a (vals_ints nums) (by rwa [List.length_map])
  obtain ⟨kin, names, env⟩ := M.env at_a inK main bn boot free still
  have run := (F _ kin names).run callerA [] s H ⟨[.ref a], []⟩ [.ref a] [.ref a] _ _ ⟨room, rfl⟩ env (binds s _) (Paired.cons rfl .nil) (prom H M.only M.here)
  refine codeAny_mono run ?_
  rintro (e | _ | _ | _ | u) s' z
  iterate 4 exact False.elim z
  obtain ⟨v, H', os, bare, un, ok', r, t⟩ := z
  cases (show v = V.bl true from t)
  cases (show u = Value.bool true from r)
  refine ⟨⟨rfl, OldK.of_keep fun b o e => ?_⟩, os, bare⟩
  rcases M.only b with n | ⟨uo, xs, z⟩
  · exact un.keep b o e n (fun m => absurd m List.not_mem_nil) (fun m => absurd m List.not_mem_nil)
  · have old := (M.ok b _ z).1
    rw [e] at old
    cases old
    exact (ok' b _ (un.frzs b _ _ z)).1
theorem walk_G {l : PySem.W.OpenLaw} {n k : Nat} {q : Program} {loose : List Str} {XP : (Str → Option Value) → Heap → Prop} {YP : World → Heap → Prop} {d : DefRec} {x : Str}
    (most : l.most = some n) (line : n ≤ sizeLine) (bare : d.params.defaults = []) (room : Room k callerA)
    (F : ∀ (w : World) (mg : Str → Option Value) (fa : Addr) (h : Heap), YP w h → h.Ns mainGlobals mg → mg d.name = some (.ref fa) → ∃ (K : PySem.W.Frag) (fd : FuncData) (sp : Sp),
      K.In h ∧ (∀ (s : Shared) (u : Value), BindsTo s fd ⟨[u], []⟩ [(x, u)]) ∧ (∀ (H : Hp) (a : Addr) (ns : List Int), ns.length ≤ n → Only H → SqL K H a (ns.map V.int) → sp [.ref a] H (fun v _ => v = .bl true) fun _ _ _ => False) ∧
        ∀ base : Heap, K.In base → base.Ns mainGlobals mg → FG l.prog w K mg base CX0 k fa fd [x] sp) : PySem.W.WalkO q loose XP YP l.row.toRowW d [] (fun f vs => PySem.call f vs) := by
  apply Att.attach_call most bare
  intro w s0 s1 mg mb fa o pm cd doc a vs ns G Y at_f data code name obj nums few gens
  obtain ⟨K, fd, sp, inK, binds, prom, def_⟩ := F w mg fa _ Y G.T.g name
  refine codeAny_mono (law_callG inK G.T.g G.T.b G.T.builtins G.T.nolimit gens obj nums (by omega) room def_ binds fun H only here => prom H a ns few only here) ?_
  exact fun _ _ ⟨⟨z1, z2⟩, z3⟩ => ⟨z1, z2, z3⟩
end G

namespace G
open L2 PyProof.Rows PySem PySem.Spec
open Evl (Ex)
/-! ### what is walked while the old heap stands -/
structure ItS (J : It) (H : Hp) (n : Nat) (item : Nat → V) : Prop where
  go : ∀ i H', Ex H H' → i < n → J.go i H'
  yl : ∀ i x H' H'', Ex H H' → i < n → J.yld i H' x H'' → x = item i ∧ H'' = H'
  st : ∀ H', Ex H H' → J.stop n H'
def nth (xs : List V) (i : Nat) : V := (xs[i]?).getD .non
theorem nth_at {xs : List V} {i : Nat} (h : i < xs.length) : xs[i]? = some (nth xs i) := by
  unfold nth; rw [List.getElem?_eq_getElem h]; rfl
section
variable {K : PySem.W.Frag} {H : Hp} {a : Addr} {xs : List V}
theorem its_l (h : SqL K H a xs) : ItS (Itl K a) H xs.length (nth xs) where
  go := fun i H' e hi => ⟨xs, _, Evl.ex_l e h, nth_at hi⟩
  yl := fun i x H' H'' e hi ⟨h1, h2⟩ => ⟨by have z := h2 xs (Evl.ex_l e h); rw [nth_at hi] at z; exact (Option.some.inj z).symm, h1⟩
  st := fun H' e => ⟨xs, Evl.ex_l e h, Nat.le_refl _⟩
theorem its_t (h : SqT K H a xs) : ItS (Itt K a) H xs.length (nth xs) where
  go := fun i H' e hi => ⟨xs, _, Evl.ex_t e h, nth_at hi⟩
  yl := fun i x H' H'' e hi ⟨h1, h2⟩ => ⟨by have z := h2 xs (Evl.ex_t e h); rw [nth_at hi] at z; exact (Option.some.inj z).symm, h1⟩
  st := fun H' e => ⟨xs, Evl.ex_t e h, Nat.le_refl _⟩
theorem its_r (lo : Int) (n : Nat) : ItS (Itr lo n) H n (fun i => .int (lo + i)) where
  go := fun i H' _ hi => hi
  yl := fun i x H' H'' _ _ ⟨h1, h2⟩ => ⟨h2, h1⟩
  st := fun H' _ => Nat.le_refl n
end
theorem PI.or {X : Cx} {tg l : Expr} {w1 w2 : TI} (h1 : PI X tg l w1) (h2 : PI X tg l w2) : PI X tg l (fun σ H R => w1 σ H R ∨ w2 σ H R) :=
  ⟨fun pins s σ H R I h => h.elim (h1.run pins s σ H R I) (h2.run pins s σ H R I)⟩
/-- a list or a tuple -/
theorem pi_seq {X : Cx} {tg l : Expr} {tl : TE} (h : PE X l tl) : PI X tg l (fun σ H R => iList X.K tl σ H R ∨ iTup X.K tl σ H R) := PI.or (pi_list h) (pi_tup h)
/-- what a comprehension's list holds -/
inductive F2 {α β : Type} (R : α → β → Prop) : List α → List β → Prop where
  | nil : F2 R [] []
  | cons {a : α} {b : β} {as : List α} {bs : List β} : R a b → F2 R as bs → F2 R (a :: as) (b :: bs)
theorem F2.imp {α β : Type} {R R' : α → β → Prop} (f : ∀ a b, R a b → R' a b) : ∀ {as : List α} {bs : List β}, F2 R as bs → F2 R' as bs
  | _, _, .nil => .nil
  | _, _, .cons h hs => .cons (f _ _ h) (F2.imp f hs)
theorem F2.snoc {α β : Type} {R : α → β → Prop} {a : α} {b : β} (h : R a b) : ∀ {as : List α} {bs : List β}, F2 R as bs → F2 R (as ++ [a]) (bs ++ [b])
  | _, _, .nil => .cons h .nil
  | _, _, .cons g hs => .cons g (F2.snoc h hs)
theorem F2.length {α β : Type} {R : α → β → Prop} : ∀ {as : List α} {bs : List β}, F2 R as bs → as.length = bs.length
  | _, _, .nil => rfl
  | _, _, .cons _ hs => congrArg Nat.succ (F2.length hs)
theorem F2.map_eq {α β : Type} {f : α → β} : ∀ {as : List α} {bs : List β}, F2 (fun a b => b = f a) as bs → bs = as.map f
  | _, _, .nil => rfl
  | _, _, .cons h hs => by rw [h, F2.map_eq hs]; rfl
theorem lc_gen {J : It} {H : Hp} {n : Nat} {item : Nat → V} (S : ItS J H n item) {g : TG} {tt : TT} {te : TE} {vs : List Nat} {σ : L2.St} {Q : VK} (fl : Nat → Bool) (R : Nat → Addr → V → Hp → Prop) (hn : n < sizeLine)
    (cl : ∀ i D y H' o, H D = none → R i D y H' → R i D y (upd H' D o)) (mo : ∀ i D y H' H'', Ex H' H'' → R i D y H' → R i D y H'')
    (turn : ∀ i D H', i < n → H D = none → Ex H H' → (∃ acc, H' D = some (.lst acc)) → ∀ (Ny : VK) (Nn : Hp → Prop), (∀ y H4, fl i = true → Ex H' H4 → R i D y H4 → Ny y H4) → (∀ H4, fl i = false → Ex H' H4 → Nn H4) →
      g (item i) (wipe σ vs) H' fun σ2 H2 => wipe σ2 vs = wipe σ vs ∧ tt σ2 H2 fun b H3 => if b = true then te σ2 H3 Ny else Nn H3)
    (fin : ∀ D ys H', H D = none → Ex H H' → H' D = some (.lst ys) → F2 (fun i y => R i D y H') ((List.range n).filter fl) ys → Q (.ref D) H') :
    ∀ D, H D = none → ∃ W : Nat → Nat → Hp → Prop, (∃ m, W 0 m (upd H D (.lst []))) ∧ ∀ i m H, W i m H → (J.stop i H ∧ Q (.ref D) H) ∨ (J.go i H ∧ ∃ Nx : Hp → Prop, (∀ H', Nx H' → ∃ m', m' < m ∧ W (i + 1) m' H') ∧
      ∀ x H', J.yld i H x H' → g x (wipe σ vs) H' fun σ2 H2 => wipe σ2 vs = wipe σ vs ∧ tt σ2 H2 fun b H3 => if b = true then te σ2 H3 fun y H4 => ∃ acc, H4 D = some (.lst acc) ∧ acc.length < sizeLine ∧ Nx (upd H4 D (.lst (acc ++ [y]))) else Nx H3) := by
  intro D hD
  have exD : ∀ {H' : Hp} {o : HO}, Ex H H' → Ex H (upd H' D o) := fun e => Evl.Ex.mut e hD
  refine ⟨fun i m H' => m = n - i ∧ i ≤ n ∧ Ex H H' ∧ ∃ ys, H' D = some (.lst ys) ∧ ys.length ≤ i ∧ F2 (fun i y => R i D y H') ((List.range i).filter fl) ys, ⟨n, by omega, Nat.zero_le _, Evl.Ex.new hD, [], upd_same, Nat.le_refl _, by simpa using F2.nil⟩, ?_⟩
  rintro i m H' ⟨rfl, hi, e, ys, hd, hl, f⟩
  by_cases c : i = n
  · subst c
    exact .inl ⟨S.st H' e, fin D ys H' hD e hd f⟩
  · have hi' : i < n := by omega
    refine .inr ⟨S.go i H' e hi', fun H2 => i + 1 ≤ n ∧ Ex H H2 ∧ ∃ ys, H2 D = some (.lst ys) ∧ ys.length ≤ i + 1 ∧ F2 (fun i y => R i D y H2) ((List.range (i + 1)).filter fl) ys, fun H2 ⟨h1, h2, h3⟩ => ⟨n - (i + 1), by omega, rfl, h1, h2, h3⟩, ?_⟩
    intro x H'' hy
    obtain ⟨rfl, rfl⟩ := S.yl i x H' H'' e hi' hy
    refine turn i D H'' hi' hD e ⟨ys, hd⟩ _ _ (fun y H4 ft e4 r => ?_) (fun H4 ff e4 => ?_)
    · refine ⟨ys, e4 _ _ hd, by omega, hi', exD (e.trans e4), ys ++ [y], upd_same, by rw [List.length_append, List.length_singleton]; omega, ?_⟩
      rw [List.range_succ, List.filter_append, List.filter_cons, if_pos ft, List.filter_nil]
      refine F2.snoc ?_ ?_
      · exact cl i D y H4 _ hD r
      · exact f.imp fun j z q => cl j D z H4 _ hD (mo j D z H'' H4 e4 q)
    · refine ⟨hi', e.trans e4, ys, e4 _ _ hd, by omega, ?_⟩
      rw [List.range_succ, List.filter_append, List.filter_cons, if_neg (by rw [ff]; simp), List.filter_nil, List.append_nil]
      exact f.imp fun j z q => mo j D z H'' H4 e4 q
/-- .. at a comprehension -/
theorem lc_at {wi : TI} {H : Hp} {n : Nat} {item : Nat → V} {g : TG} {tt : TT} {te : TE} {vs : List Nat} {σ : L2.St} {Q : VK} (fl : Nat → Bool) (R : Nat → Addr → V → Hp → Prop) (hn : n < sizeLine)
    (hw : ∀ P : It → Hp → Prop, (∀ J H1, Ex H H1 → ItS J H1 n item → P J H1) → wi σ H P)
    (cl : ∀ i D y H' o, H D = none → R i D y H' → R i D y (upd H' D o)) (mo : ∀ i D y H' H'', Ex H' H'' → R i D y H' → R i D y H'')
    (turn : ∀ i D H', i < n → H D = none → Ex H H' → (∃ acc, H' D = some (.lst acc)) → ∀ (Ny : VK) (Nn : Hp → Prop), (∀ y H4, fl i = true → Ex H' H4 → R i D y H4 → Ny y H4) → (∀ H4, fl i = false → Ex H' H4 → Nn H4) →
      g (item i) (wipe σ vs) H' fun σ2 H2 => wipe σ2 vs = wipe σ vs ∧ tt σ2 H2 fun b H3 => if b = true then te σ2 H3 Ny else Nn H3)
    (fin : ∀ D ys H', H D = none → Ex H H' → H' D = some (.lst ys) → F2 (fun i y => R i D y H') ((List.range n).filter fl) ys → Q (.ref D) H') :
    tLc wi g tt te vs σ H Q := by
  refine hw _ fun J H1 e1 S => ?_
  have un : ∀ {D : Addr}, H1 D = none → H D = none := fun {D} h => Evl.fresh_back e1 h
  exact lc_gen S fl R hn (fun i D y H' o h => cl i D y H' o (un h)) mo (fun i D H' hi h e => turn i D H' hi (un h) (e1.trans e)) fun D ys H' h e => fin D ys H' (un h) (e1.trans e)
/-- a comprehension by a word of the whole list -/
theorem lc_inv {wi : TI} {H B : Hp} {n : Nat} {item : Nat → V} {g : TG} {tt : TT} {te : TE} {vs : List Nat} {σ : L2.St} {Q : VK} (hw : ∀ P : It → Hp → Prop, (∀ J H1, Ex H H1 → ItS J B n item → P J H1) → wi σ H P)
    (Pv : Addr → Nat → Hp → Prop) (h0 : ∀ D H1, Ex H H1 → H1 D = none → Pv D 0 (upd H1 D (.lst []))) (he : ∀ D i H', Pv D i H' → Ex B H')
    (turn : ∀ D i H', i < n → Pv D i H' → g (item i) (wipe σ vs) H' fun σ2 H2 => wipe σ2 vs = wipe σ vs ∧ tt σ2 H2 fun b H3 => if b = true then te σ2 H3 fun y H4 => ∃ acc, H4 D = some (.lst acc) ∧ acc.length < sizeLine ∧ Pv D (i + 1) (upd H4 D (.lst (acc ++ [y]))) else Pv D (i + 1) H3)
    (fin : ∀ D H', Pv D n H' → Q (.ref D) H') : tLc wi g tt te vs σ H Q := by
  refine hw _ fun J H1 e1 S D hD => ?_
  refine ⟨fun i m H' => m = n - i ∧ i ≤ n ∧ Pv D i H', ⟨n, by omega, Nat.zero_le _, h0 D H1 e1 hD⟩, ?_⟩
  rintro i m H' ⟨rfl, hi, p⟩
  by_cases c : i = n
  · subst c
    exact .inl ⟨S.st H' (he _ _ _ p), fin D H' p⟩
  · have hi' : i < n := by omega
    refine .inr ⟨S.go i H' (he _ _ _ p) hi', Pv D (i + 1), fun H2 h => ⟨n - (i + 1), by omega, rfl, hi', h⟩, ?_⟩
    intro x H'' hy
    obtain ⟨rfl, rfl⟩ := S.yl i x H' H'' (he _ _ _ p) hi' hy
    exact turn D i H'' hi' p
/-- .. without a test -/
theorem range_all (n : Nat) : (List.range n).filter (fun _ => true) = List.range n := by simp
/-- a loop -/
theorem for_gen {J : It} {B : Hp} {n : Nat} {item : Nat → V} (S : ItS J B n item) {H : Hp} {g : TG} {tb : TS} {D : Ends} {σ : L2.St} (Pv : Nat → L2.St → Hp → Prop) (h0 : Pv 0 σ H) (he : ∀ i σ' H', Pv i σ' H' → Ex B H')
    (hs : ∀ i σ' H', i < n → Pv i σ' H' → g (item i) σ' H' fun σ2 H2 => tb { D with nx := Pv (i + 1), ct := Pv (i + 1), bk := D.nx } σ2 H2) (hd : ∀ σ' H', Pv n σ' H' → D.nx σ' H') :
    ∃ W : Nat → Nat → L2.St → Hp → Prop, (∃ m, W 0 m σ H) ∧ ∀ i m σ H, W i m σ H → (J.stop i H ∧ D.nx σ H) ∨ (J.go i H ∧ ∃ N : L2.St → Hp → Prop, (∀ σ' H', N σ' H' → ∃ m', m' < m ∧ W (i + 1) m' σ' H') ∧
      ∀ x H', J.yld i H x H' → g x σ H' fun σ2 H2 => tb { D with nx := N, ct := N, bk := D.nx } σ2 H2) := by
  refine ⟨fun i m σ' H' => m = n - i ∧ i ≤ n ∧ Pv i σ' H', ⟨n, by omega, Nat.zero_le _, h0⟩, ?_⟩
  rintro i m σ' H' ⟨rfl, hi, p⟩
  by_cases c : i = n
  · subst c
    exact .inl ⟨S.st H' (he _ _ _ p), hd _ _ p⟩
  · have hi' : i < n := by omega
    refine .inr ⟨S.go i H' (he _ _ _ p) hi', Pv (i + 1), fun σ2 H2 h => ⟨n - (i + 1), by omega, rfl, hi', h⟩, ?_⟩
    intro x H'' hy
    obtain ⟨rfl, rfl⟩ := S.yl i x H' H'' (he _ _ _ p) hi' hy
    exact hs i σ' H'' hi' p
/-- a loop at its statement: what is walked stands in B -/
theorem for_at {wi : TI} {H B : Hp} {n : Nat} {item : Nat → V} {g : TG} {tb : TS} {D : Ends} {σ : L2.St} (hw : ∀ P : It → Hp → Prop, (∀ J H1, Ex H H1 → ItS J B n item → P J H1) → wi σ H P) (Pv : Nat → L2.St → Hp → Prop) (h0 : ∀ H1, Ex H H1 → Pv 0 σ H1) (he : ∀ i σ' H', Pv i σ' H' → Ex B H')
    (hs : ∀ i σ' H', i < n → Pv i σ' H' → g (item i) σ' H' fun σ2 H2 => tb { D with nx := Pv (i + 1), ct := Pv (i + 1), bk := D.nx } σ2 H2) (hd : ∀ σ' H', Pv n σ' H' → D.nx σ' H') : tFor wi g tb D σ H :=
  hw _ fun J H1 e1 S => for_gen S Pv (h0 H1 e1) he hs hd
theorem ItS.mono {J : It} {B H : Hp} {n : Nat} {item : Nat → V} (S : ItS J B n item) (e : Ex B H) : ItS J H n item :=
  ⟨fun i H' e' => S.go i H' (e.trans e'), fun i x H' H'' e' => S.yl i x H' H'' (e.trans e'), fun H' e' => S.st H' (e.trans e')⟩
theorem seq_at {t u : TS} {D : Ends} {σ : L2.St} {H : Hp} (h : t { D with nx := u D } σ H) : tSeq t u D σ H := h
theorem asg_at {te : TE} {g : TG} {D : Ends} {σ : L2.St} {H : Hp} (h : te σ H fun v H1 => g v σ H1 D.nx) : tAsg te g D σ H := h
theorem ret_at {te : TE} {D : Ends} {σ : L2.St} {H : Hp} (h : te σ H D.rt) : tRet te D σ H := h
theorem cb_at {r : List V → Hp → VK → Prop} {te : TE} {σ : L2.St} {H : Hp} {Q : VK} (h : te σ H fun v H1 => r [v] H1 Q) : tCB r (tCons te tNil) σ H Q := h
theorem take_snoc' {α : Type} {l : List α} {i : Nat} {x : α} (h : l[i]? = some x) : l.take (i + 1) = l.take i ++ [x] := by
  rw [List.take_add_one, h]; rfl
/-! the walks -/
section
variable {K : PySem.W.Frag} {H B : Hp} {a : Addr} {xs : List V} {σ : L2.St} {i : Nat} {P : It → Hp → Prop}
theorem w_list (hs : σ[i]? = some (some (.ref a))) (h : SqL K B a xs) (h' : SqL K H a xs) (q : ∀ J H1, Ex H H1 → ItS J B xs.length (nth xs) → P J H1) : iList K (tVar i) σ H P := ⟨_, hs, a, rfl, ⟨xs, h'⟩, q _ _ (Evl.Ex.refl _) (its_l h)⟩
theorem w_tup (hs : σ[i]? = some (some (.ref a))) (h : SqT K B a xs) (h' : SqT K H a xs) (q : ∀ J H1, Ex H H1 → ItS J B xs.length (nth xs) → P J H1) : iTup K (tVar i) σ H P := ⟨_, hs, a, rfl, ⟨xs, h'⟩, q _ _ (Evl.Ex.refl _) (its_t h)⟩
theorem w_seq (hs : σ[i]? = some (some (.ref a))) (h : SqL K B a xs ∨ SqT K B a xs) (e : Ex B H) (q : ∀ J H1, Ex H H1 → ItS J B xs.length (nth xs) → P J H1) : iList K (tVar i) σ H P ∨ iTup K (tVar i) σ H P :=
  h.elim (fun h => .inl (w_list hs h (Evl.ex_l e h) q)) fun h => .inr (w_tup hs h (Evl.ex_t e h) q)
/-- .. ahead of a comprehension -/
theorem l_list (hs : σ[i]? = some (some (.ref a))) (h : SqL K H a xs) (q : ∀ J H1, Ex H H1 → ItS J H1 xs.length (nth xs) → P J H1) : iList K (tVar i) σ H P := w_list hs h h fun J H1 e S => q J H1 e (S.mono e)
theorem l_tup (hs : σ[i]? = some (some (.ref a))) (h : SqT K H a xs) (q : ∀ J H1, Ex H H1 → ItS J H1 xs.length (nth xs) → P J H1) : iTup K (tVar i) σ H P := w_tup hs h h fun J H1 e S => q J H1 e (S.mono e)
theorem l_seq (hs : σ[i]? = some (some (.ref a))) (h : SqL K H a xs ∨ SqT K H a xs) (q : ∀ J H1, Ex H H1 → ItS J H1 xs.length (nth xs) → P J H1) : iList K (tVar i) σ H P ∨ iTup K (tVar i) σ H P :=
  w_seq hs h (Evl.Ex.refl _) fun J H1 e S => q J H1 e (S.mono e)
end
/-! rules with the written part told by a letter (a comprehension's block must not show in a reading) -/
section
variable {X : Cx} {K : PySem.W.Frag}
theorem ix_listK (h : X.K = K := by rfl) : IxR X (rIxL K) := h ▸ ix_list
theorem ix_tupK (h : X.K = K := by rfl) : IxR X (rIxT K) := h ▸ ix_tup
theorem ix_seqK (h : X.K = K := by rfl) : IxR X (rIx K) := h ▸ ix_seq
theorem op_inK (h : X.K = K := by rfl) : OpR X (compareOp .In) (rIn K false) := h ▸ op_in_seq
theorem op_ninK (h : X.K = K := by rfl) : OpR X (compareOp .NotIn) (rIn K true) := h ▸ op_notIn_seq
theorem op_eqDK (hu : X.A.units + 64 < cLine) (h : X.K = K := by rfl) : OpR X (compareOp .Eq) (rEqD K) := h ▸ op_eqD hu
theorem op_neDK (hu : X.A.units + 64 < cLine) (h : X.K = K := by rfl) : OpR X (compareOp .NotEq) (rNeD K) := h ▸ op_neD hu
theorem op_ltTK (hu : X.A.units < cLine) (h : X.K = K := by rfl) : OpR X (compareOp .Lt) (rLtT K) := h ▸ op_ltT hu
theorem op_catAK (h : X.K = K := by rfl) : OpR X (binaryOp .Add) (rCatA K) := h ▸ op_catA
theorem sl_listK (h : X.K = K := by rfl) : SlR X (rSlL K) := h ▸ sl_list
theorem sl_tupK (h : X.K = K := by rfl) : SlR X (rSlT K) := h ▸ sl_tup
def rLenQ (K : PySem.W.Frag) : List V → Hp → VK → Prop := fun xs H Q => ∃ p ys, xs = [.ref p] ∧ (SqL K H p ys ∨ SqT K H p ys) ∧ Q (.int ys.length) H
theorem call_lenK (h : X.K = K := by rfl) : CallR X (.builtin "len") (rLenQ K) := by subst h; exact call_len_seq
def rListOf (K : PySem.W.Frag) : List V → Hp → VK → Prop := fun xs H Q => ∃ p ys, xs = [.ref p] ∧ (SqL K H p ys ∨ SqT K H p ys) ∧ ∀ l, H l = none → Q (.ref l) (upd H l (.lst ys))
theorem call_listK (h : X.K = K := by rfl) : CallR X (.type "list") (rListOf K) := by subst h; exact call_list_of
def rTupOf (K : PySem.W.Frag) : List V → Hp → VK → Prop := fun xs H Q => ∃ p ys, xs = [.ref p] ∧ ((SqL K H p ys ∧ ∀ l, H l = none → Q (.ref l) (upd H l (.tup ys))) ∨ (SqT K H p ys ∧ Q (.ref p) H))
theorem call_tupK (h : X.K = K := by rfl) : CallR X (.type "tuple") (rTupOf K) := by subst h; exact call_tuple_of
theorem call_isiK' (h : X.K = K := by rfl) : CallR X (.builtin "isinstance") (rIsi K) := h ▸ call_isi
theorem call_isiTK (h : X.K = K := by rfl) : CallR X (.builtin "isinstance") (rIsiT K) := h ▸ call_isiT
theorem call_reprK (S : Sm X.K) (hg : X.A.guards = some []) (hu : X.A.units + 64 < cLine) (h : X.K = K := by rfl) : CallR X (.builtin "repr") (rRepr K) := h ▸ call_repr S hg hu
theorem cr_sumK (hc : X.calm = true) (h : X.K = K := by rfl) : CallR X (.builtin "sum") (rSum K) := h ▸ cr_sum hc
theorem cr_allK (hc : X.calm = true) (h : X.K = K := by rfl) : CallR X (.builtin "all") (rAll K) := h ▸ cr_all hc
theorem cr_sortedIK (h : X.K = K := by rfl) : CallR X (.builtin "sorted") (rSortedI K) := h ▸ cr_sortedI
theorem cr_sortedPOK (h : X.K = K := by rfl) : CallR X (.builtin "sorted") (rSortedPO K) := h ▸ cr_sortedPO
theorem pa_starK {e : Expr} {es : List Expr} {te : TE} {t : TA} {p : Pos} (he : PE X e te) (hr : PA X es t) (h : X.K = K := by rfl) (hs : starEach (.Starred e p :: es) X.env = (true, eval e X.env) :: starEach es X.env := by rfl) : PA X (.Starred e p :: es) (StX.tStar K te t) := h ▸ StX.pa_star he hr hs
theorem pe_fldK {e : Expr} {te : TE} {f : Str} {pos : Pos} (he : PE X e te) (h : X.K = K := by rfl) (hb : attributeBase e f X.env (eval e X.env) = eval e X.env := by rfl) : PE X (.Attribute e f pos) (tFld K te f) := h ▸ pe_fld he hb
end
/-- all of truth values told by the places -/
theorem all_range_map (n : Nat) (f : Nat → Bool) : ((List.range n).map f).all id = decide (∀ i, i < n → f i = true) := by
  rw [Bool.eq_iff_iff]; simp
end G

namespace G
open L2 PyProof.Rows PySem PySem.Spec
open Evl (Ex)
/-! ### own classes answering in, len, == -/
theorem RG.in1 {k : Nat} {A : Around} (h : RG (k + 1) A) : RG k A.in1 := ⟨h.r.in1, h.g⟩
/-- the class at C answers the name m by the def at f -/
structure Spc (K : PySem.W.Frag) (C : Addr) (m : Str) (f : Addr) : Prop where
  s : PySem.W.findIn K (.ref C) m = some (some (.ref f))
  fn : true = PySem.W.isFn K (.ref f)
section
variable {X : Cx} {CX : CXT} {k : Nat} {f C : Addr} {fd : FuncData} {ps : List Str} {sp : Sp} {E : XK} {m : Str}
/-- run_g, anywhere below the running body -/
theorem run_gA {A : Around} {pins : List (Addr × Obj)} {σ : L2.St} {H : Hp} {s : Shared} {Q : VK} {us : List Value} {vs : List V} (F : FG X.prog X.w X.K X.mg X.base CX k f fd ps sp) (hA : A.frames = X.A.frames) (hr : RG k A) (hb : Binds X.K fd ps []) (hx : Passes CX X E)
    (I : Inv X pins σ H s) (r : Vals vs us) (h : sp vs H Q E) : wpAny (model X.prog X.w) A (call (.ref f) us) (EP X pins σ Q) X.xe s := by
  have nl : us.length = ps.length := r.length.symm.trans (F.few _ _ _ _ h)
  have bt : BindsTo s fd ⟨us, []⟩ (ps.zip us) := by
    have z := hb s us I.kIn (by rw [List.append_nil]; exact nl)
    rwa [List.append_nil] at z
  have e1 := I.env0
  have e0 : Env0 X.prog X.w X.K X.mg X.base A X.stack s H := { e1 with frames := by rw [hA]; exact e1.frames }
  refine wpAny_call (codeAny_mono (F.run A X.stack s H _ us vs Q E hr e0 bt r h) fun q s' hq => ?_)
  have y := ret_of hx I hq
  cases q with
  | error e => exact y
  | ok fl => cases fl <;> exact y
/-- an own instance, with the answer's promise at it -/
def InsAt (C a : Addr) (H : Hp) : Prop := ∃ dx fs, H a = some (.ins C dx fs)
theorem InsAt.mono {a : Addr} {H H' : Hp} (e : Ex H H') (h : InsAt C a H) : InsAt C a H' := let ⟨d, fs, z⟩ := h; ⟨d, fs, e _ _ z⟩
def rInO (C : Addr) (neg : Bool) (sp : Sp) (E : XK) : R2 := fun x y H Q => ∃ a, y = .ref a ∧ InsAt C a H ∧ sp [.ref a, x] H (fun v H' => ∃ b, v = .bl b ∧ Q (.bl (if neg then !b else b)) H') E
theorem op_inO (T : Spc X.K C "__contains__" f) (F : FG X.prog X.w X.K X.mg X.base CX k f fd ps sp) (hr : RG k X.A) (hb : Binds X.K fd ps []) (hx : Passes CX X E) : OpR X (compareOp .In) (rInO C false sp E) := by
  rintro pins s σ H x y v u Q I rx ry ⟨a, rfl, ⟨dx, fs, ha⟩, h⟩
  cases ry
  obtain ⟨_, J, _⟩ := ins_get I.hok ha
  obtain ⟨od, J, _⟩ := J.look
  obtain ⟨m, hF⟩ := I.fr
  refine PySem.W.in_K hF I.ok.mod.kin J T.s T.fn.symm (wpAny_mono (run_gA (us := [.ref a, v]) (vs := [.ref a, x]) F rfl hr hb hx I (.cons rfl (.cons rx .nil)) h) (fun r s' ⟨z, H', J', rz, b, hz, q⟩ => ?_) fun _ _ z => z)
  subst hz
  cases rz
  exact wpAny_truthy_bool ⟨.bl _, H', J', rfl, q⟩
theorem op_ninO (T : Spc X.K C "__contains__" f) (F : FG X.prog X.w X.K X.mg X.base CX k f fd ps sp) (hr : RG k X.A) (hb : Binds X.K fd ps []) (hx : Passes CX X E) : OpR X (compareOp .NotIn) (rInO C true sp E) := by
  rintro pins s σ H x y v u Q I rx ry ⟨a, rfl, ⟨dx, fs, ha⟩, h⟩
  cases ry
  obtain ⟨_, J, _⟩ := ins_get I.hok ha
  obtain ⟨od, J, _⟩ := J.look
  obtain ⟨m, hF⟩ := I.fr
  refine PySem.W.notIn_K hF I.ok.mod.kin J T.s T.fn.symm (wpAny_mono (run_gA (us := [.ref a, v]) (vs := [.ref a, x]) F rfl hr hb hx I (.cons rfl (.cons rx .nil)) h) (fun r s' ⟨z, H', J', rz, b, hz, q⟩ => ?_) fun _ _ z => z)
  subst hz
  cases rz
  exact wpAny_truthy_bool ⟨.bl _, H', J', rfl, q⟩
def rLenO (C : Addr) (sp : Sp) (E : XK) : List V → Hp → VK → Prop := fun xs H Q => ∃ a, xs = [.ref a] ∧ InsAt C a H ∧ sp [.ref a] H (fun v H' => ∃ n : Int, v = .int n ∧ (0 ≤ n ∧ n < 2 ^ 63) ∧ Q (.int n) H') E
theorem call_lenO (T : Spc X.K C "__len__" f) (F : FG X.prog X.w X.K X.mg X.base CX k f fd ps sp) (hr : RG (k + 1) X.A) (hb : Binds X.K fd ps []) (hx : Passes CX X E) : CallR X (.builtin "len") (rLenO C sp E) := by
  rintro pins s σ H xs us Q I r ⟨a, rfl, ⟨dx, fs, ha⟩, h⟩
  obtain ⟨u, only, ru⟩ := vals1 r
  subst only
  cases ru
  obtain ⟨_, J, _⟩ := ins_get I.hok ha
  obtain ⟨od, J, _⟩ := J.look
  obtain ⟨m, hF⟩ := I.fr
  refine PySem.W.len_K hF I.ok.mod.kin J T.s T.fn.symm (wpAny_mono (run_gA (us := [.ref a]) (vs := [.ref a]) F rfl hr.in1 hb hx I (.cons rfl .nil) h) (fun r s' ⟨z, H', J', rz, n, hz, hn, q⟩ => ?_) fun _ _ z => z)
  subst hz
  obtain ⟨t, rfl⟩ := rz
  exact ⟨hn, .int n, H', J'.tok _, ⟨_, rfl⟩, q⟩
end
/-! ### in, index: tuples of data -/
section
variable {X : Cx} {K : PySem.W.Frag}
def rInT (K : PySem.W.Frag) : R2 := fun x y H Q => ∃ d ds, Dp K H x d ∧ Dp K H y (.tuple ds) ∧ SeqAt.shaped d = true ∧ SeqAt.shaped (.tuple ds) = true ∧ Q (.bl (ds.any fun z => PyData.eqv z d)) H
theorem tup_parts {pins : List (Addr × Obj)} {σ : L2.St} {H : Hp} {s : Shared} {a : Addr} {ds : List PyData} (I : Inv X pins σ H s) (h : Dp X.K H (.ref a) (.tuple ds)) (c : SeqAt.shaped (.tuple ds) = true) :
    ∃ its as, s.heap.IsTuple a its.toArray ∧ ReadsAll s.heap its ds as ∧ PyData.canLayAll0 ds = true ∧ its.length ≤ sizeLine := by
  have lay : PyData.canLayAll0 ds = true := by have z := SeqAt.canLay_of_shaped c; simpa [PyData.canLay0] using z
  cases h with
  | tup hs ha =>
    have ⟨its, rv, lies, short⟩ := I.tuple hs
    have ⟨as, q⟩ := Dp.readsAll I ds _ its ha rv
    exact ⟨its, as, lies, q, lay, rv.length ▸ short⟩
theorem op_inT (hu : X.A.units + 65 < cLine) (h : X.K = K := by rfl) : OpR X (compareOp .In) (rInT K) := by
  subst h
  rintro pins s σ H x y v u Q I rx ry ⟨d, ds, hd, he, sd, se, q⟩
  obtain ⟨bs, r1⟩ := Dp.reads I d x v hd rx
  cases y with
  | ref a =>
    cases ry
    obtain ⟨its, as, pl, rs, lay, _⟩ := tup_parts I he se
    refine SeqAt.in_tupleAt (fun z => PyData.eqv (SeqAt.readOf s.heap z) d) pl (SeqAt.items_eqAt (vs := its.toArray) rs r1 lay (SeqAt.canLay_of_shaped sd) (room_in_shaped sd hu)) ⟨.bl _, H, I, rfl, ?_⟩
    rw [SeqAt.any_by_data rs lay]
    exact q
  | _ => cases he
def rIndexT (K : PySem.W.Frag) : V → List V → Hp → VK → Prop := fun x xs H Q => ∃ (a : Addr) (y : V) (d : PyData) (ds : List PyData) (j : Nat) (z : PyData), x = V.ref a ∧ xs = [y] ∧ Dp K H (V.ref a) (.tuple ds) ∧ Dp K H y d ∧
  SeqAt.shaped (.tuple ds) = true ∧ SeqAt.shaped d = true ∧ ds[j]? = some z ∧ PyData.eqv z d = true ∧ (∀ (m : Nat) (z' : PyData), m < j → ds[m]? = some z' → PyData.eqv z' d = false) ∧ Q (.int (j : Nat)) H
theorem mt_indexT (hu : X.A.units + 65 < cLine) (h : X.K = K := by rfl) : MtR X "tuple.index" (rIndexT K) := by
  subst h
  rintro pins s σ H x xs v us Q I rx rxs ⟨a, y, d, ds, j, z, rfl, rfl, hl, hy, sl, sd, hz, hzj, hno, q⟩
  cases rx
  obtain ⟨uy, rfl, ry⟩ := vals1 rxs
  have ⟨bs, r1⟩ := Dp.reads I d _ _ hy ry
  obtain ⟨its, as, ⟨⟨cls, dd, dt, sls⟩, ho, hc, n, hdt⟩, rs, lay, hlen⟩ := tup_parts I hl sl
  simp only at hc hdt
  subst hc hdt
  have mp : its.map (SeqAt.readOf s.heap) = ds := SeqAt.readsAll_map ds its as lay rs
  have le : its.length = ds.length := by rw [← mp, List.length_map]
  have rd : ∀ (m : Nat) (hm : m < its.toArray.size) (z' : PyData), ds[m]? = some z' → SeqAt.readOf s.heap its.toArray[m] = z' := by
    intro m _ z' e
    rw [← mp, List.getElem?_map, Option.map_eq_some_iff] at e
    obtain ⟨v, at_m, is⟩ := e
    rw [← is, List.getElem_toArray, (List.getElem?_eq_some_iff.mp at_m).2]
  have jd := (List.getElem?_eq_some_iff.mp hz).1
  have hj : j < its.toArray.size := by rw [List.size_toArray]; omega
  refine call_meets PySem.F.slot_tuple_index ⟨_, ho, rfl⟩ PySem.F.entry_tuple_index (PySem.F.args_tuple_index_2 _ _)
    (TI.tuple_indexAt a its.toArray n dd sls uy (fun u => PyData.eqv (SeqAt.readOf s.heap u) d) j hj ?_ ?_) ⟨ho, SeqAt.items_eqAt (vs := its.toArray) rs r1 lay (SeqAt.canLay_of_shaped sd) (room_in_shaped sd hu), ⟨.int (j : Nat), H, I.tok _, ⟨_, rfl⟩, q⟩⟩
  · exact (congrArg (PyData.eqv · d) (rd j hj z hz)).trans hzj
  · intro m hm mj
    have e : ds[m]? = some ds[m] := List.getElem?_eq_getElem (by omega)
    exact (congrArg (PyData.eqv · d) (rd m hm _ e)).trans (hno m _ mj e)
end
/-! ### tuple(..) of data; data that lies apart from a list -/
theorem tup_any {K : PySem.W.Frag} {H : Hp} {p : Addr} {ys : List V} {ds : List PyData} {Q : VK} (hx : SqL K H p ys ∨ SqT K H p ys) (hd : Dqs K H ys ds) (k : ∀ v H', Ex H H' → Dq K H' v (.tuple ds) → Q v H') : rTupOf K [.ref p] H Q :=
  ⟨p, ys, rfl, hx.elim (fun h => .inl ⟨h, fun l hl => k _ _ (Evl.Ex.new hl) (.tup (SqT.of upd_same) (hd.mono (Evl.Ex.new hl)))⟩) fun h => .inr ⟨h, k _ _ (Evl.Ex.refl _) (.tup h hd)⟩⟩
mutual
/-- no list and no dict in it -/
def tups : PyData → Bool
  | .list _ => false
  | .dict _ => false
  | .tuple ds => tupsAll ds
  | _ => true
def tupsAll : List PyData → Bool
  | [] => true
  | d :: ds => tups d && tupsAll ds
end
theorem tupsAll_iff : ∀ {ds : List PyData}, tupsAll ds = true ↔ ∀ d ∈ ds, tups d = true
  | [] => by simp [tupsAll]
  | d :: ds => by rw [tupsAll, Bool.and_eq_true, tupsAll_iff]; simp
theorem Ex.del {H H' : Hp} {D : Addr} (e : Ex H H') : Ex (L2.del H D) (L2.del H' D) := fun a o z => by
  unfold L2.del at *
  split at z
  · cases z
  · rename_i c; rw [if_neg c]; exact e _ _ z
theorem Ex.ofDel {H : Hp} {D : Addr} : Ex (L2.del H D) H := fun a o z => by
  unfold L2.del at z
  split at z
  · cases z
  · exact z
theorem del_upd {H : Hp} {D : Addr} {o : HO} : L2.del (upd H D o) D = L2.del H D := by
  funext b
  unfold L2.del
  split
  · rfl
  · rename_i c; exact upd_ne c
theorem SqT.del {K : PySem.W.Frag} {H : Hp} {D a : Addr} {xs acc : List V} (h : SqT K H a xs) (hD : H D = some (.lst acc)) : SqT K (L2.del H D) a xs := by
  refine Or.imp_left (fun here => ?_) h
  have apart : a ≠ D := fun z => by
    subst z
    exact here.elim (fun e => nomatch hD.symm.trans e) fun ⟨o, e⟩ => nomatch hD.symm.trans e
  have same := del_ne (H := H) apart
  exact here.imp same.trans fun ⟨o, e⟩ => ⟨o, same.trans e⟩
mutual
theorem Dq.del {K : PySem.W.Frag} {H : Hp} {D : Addr} {acc : List V} (hD : H D = some (.lst acc)) : ∀ {v : V} {d : PyData}, Dq K H v d → tups d = true → Dq K (L2.del H D) v d
  | _, _, .non, _ => .non
  | _, _, .bl b, _ => .bl b
  | _, _, .int i, _ => .int i
  | _, _, .str x, _ => .str x
  | _, _, .lst h hs, c => by simp [tups] at c
  | _, _, .tup h hs, c => .tup (SqT.del h hD) (Dqs.del hD hs (by simpa [tups] using c))
  | _, _, .dic h, c => by simp [tups] at c
theorem Dqs.del {K : PySem.W.Frag} {H : Hp} {D : Addr} {acc : List V} (hD : H D = some (.lst acc)) : ∀ {v : List V} {d : List PyData}, Dqs K H v d → tupsAll d = true → Dqs K (L2.del H D) v d
  | _, _, .nil, _ => .nil
  | _, _, .cons h hs, c => by
    simp only [tupsAll, Bool.and_eq_true] at c
    exact .cons (h.del hD c.1) (Dqs.del hD hs c.2)
end
theorem f2_choose {α β γ : Type} {A : α → γ → Prop} {B : γ → β → Prop} : ∀ {as : List α} {bs : List β}, F2 (fun a b => ∃ c, A a c ∧ B c b) as bs → ∃ cs, F2 A as cs ∧ F2 B cs bs
  | _, _, .nil => ⟨[], .nil, .nil⟩
  | _, _, .cons ⟨c, h1, h2⟩ hs => let ⟨cs, q1, q2⟩ := f2_choose hs; ⟨c :: cs, .cons h1 q1, .cons h2 q2⟩
theorem f2_dq {K : PySem.W.Frag} {H : Hp} {γ : Type} {f : γ → PyData} : ∀ {cs : List γ} {vs : List V}, F2 (fun c v => Dq K H v (f c)) cs vs → Dqs K H vs (cs.map f)
  | _, _, .nil => .nil
  | _, _, .cons h hs => .cons h (f2_dq hs)
theorem f2_range {γ : Type} {A : Nat → γ → Prop} {n : Nat} {cs : List γ} (h : F2 A (List.range n) cs) : cs.length = n ∧ ∀ i c, cs[i]? = some c → A i c := by
  have l := h.length
  rw [List.length_range] at l
  refine ⟨l.symm, fun i c hc => ?_⟩
  have g : ∀ {as : List Nat} {cs : List γ}, F2 A as cs → ∀ {i : Nat} {c : γ}, cs[i]? = some c → ∃ a, as[i]? = some a ∧ A a c := by
    intro as cs h
    induction h with
    | nil => intro i c hc; simp at hc
    | cons h _ ih =>
      intro i c hc
      cases i with
      | zero => simp at hc; subst hc; exact ⟨_, rfl, h⟩
      | succ i => simpa using ih (by simpa using hc)
  obtain ⟨a, h1, h2⟩ := g h hc
  have hi : i < n := by rw [← List.length_range (n := n)]; exact (List.getElem?_eq_some_iff.mp h1).1
  rw [List.getElem?_range hi] at h1
  cases h1; exact h2
/-! data lies apart from an own instance -/
section
variable {K : PySem.W.Frag} {H : Hp} {D C dx : Addr} {fs : List (Str × V)} {o : HO}
theorem SqT.ins {a : Addr} {xs : List V} (h : SqT K H a xs) (hD : H D = some (.ins C dx fs)) : SqT K (upd H D o) a xs := by
  rcases h with (h | ⟨q, h⟩) | h
  · exact .inl (.inl (by rw [upd_ne (fun z => by rw [z, hD] at h; cases h)]; exact h))
  · exact .inl (.inr ⟨q, by rw [upd_ne (fun z => by rw [z, hD] at h; cases h)]; exact h⟩)
  · exact .inr h
theorem SqL.ins {a : Addr} {xs : List V} (h : SqL K H a xs) (hD : H D = some (.ins C dx fs)) : SqL K (upd H D o) a xs := by
  rcases h with (h | ⟨q, h⟩) | h
  · exact .inl (.inl (by rw [upd_ne (fun z => by rw [z, hD] at h; cases h)]; exact h))
  · exact .inl (.inr ⟨q, by rw [upd_ne (fun z => by rw [z, hD] at h; cases h)]; exact h⟩)
  · exact .inr h
mutual
theorem Dq.ins (hD : H D = some (.ins C dx fs)) : ∀ {v : V} {d : PyData}, Dq K H v d → Dq K (upd H D o) v d
  | _, _, .non => .non
  | _, _, .bl b => .bl b
  | _, _, .int i => .int i
  | _, _, .str x => .str x
  | _, _, .lst h hs => .lst (SqL.ins h hD) (Dqs.ins hD hs)
  | _, _, .tup h hs => .tup (SqT.ins h hD) (Dqs.ins hD hs)
  | _, _, .dic h => .dic (by rw [upd_ne (fun z => by rw [z, hD] at h; cases h)]; exact h)
theorem Dqs.ins (hD : H D = some (.ins C dx fs)) : ∀ {v : List V} {d : List PyData}, Dqs K H v d → Dqs K (upd H D o) v d
  | _, _, .nil => .nil
  | _, _, .cons h hs => .cons (h.ins hD) (Dqs.ins hD hs)
end
end
theorem fld_at {K : PySem.W.Frag} {ta tv : TE} {f : Str} {D : Ends} {σ : L2.St} {H : Hp} (h : tv σ H fun y H1 => ta σ H1 fun x H2 => ∃ a C dx fs, x = .ref a ∧ H2 a = some (.ins C dx fs) ∧ Cls K C ∧ NoAttr K C f ∧ fs.length < 1000 ∧ D.nx σ (upd H2 a (.ins C dx (putF f y fs)))) : sFld K ta tv f D σ H := h
/-! ### a tuple whose methods are called: made by tuple(list), pinned as it lies -/
def FrzT (H : Hp) (v : V) : Prop := ∃ p o xs, v = .ref p ∧ H p = some (.frz o (.tup xs)) ∧ o.dict = none ∧ o.cls = .type "tuple"
theorem FrzT.mono {H H' : Hp} {v : V} (e : Ex H H') (h : FrzT H v) : FrzT H' v := let ⟨p, o, xs, a, b, c⟩ := h; ⟨p, o, xs, a, e _ _ b, c⟩
theorem FrzT.del {H : Hp} {D : Addr} {acc : List V} {v : V} (h : FrzT H v) (hD : H D = some (.lst acc)) : FrzT (L2.del H D) v :=
  let ⟨p, o, xs, a, b, c⟩ := h; ⟨p, o, xs, a, by rw [del_ne (fun z => by rw [z, hD] at b; cases b)]; exact b, c⟩
theorem FrzT.ins {H : Hp} {D C dx : Addr} {fs : List (Str × V)} {u : HO} {v : V} (h : FrzT H v) (hD : H D = some (.ins C dx fs)) : FrzT (upd H D u) v :=
  let ⟨p, o, xs, a, b, c⟩ := h; ⟨p, o, xs, a, by rw [upd_ne (fun z => by rw [z, hD] at b; cases b)]; exact b, c⟩
def rTupF (K : PySem.W.Frag) : List V → Hp → VK → Prop := fun xs H Q => ∃ p ys, xs = [.ref p] ∧ SqL K H p ys ∧ ∀ l o, H l = none → o.dict = none → o.cls = .type "tuple" → Q (.ref l) (upd H l (.frz o (.tup ys)))
section
variable {X : Cx} {K : PySem.W.Frag}
theorem call_tupF (h : X.K = K := by rfl) : CallR X (.type "tuple") (rTupF K) := by
  subst h
  rintro pins s σ H xs us Q I r ⟨p, ys, rfl, hq, q⟩
  obtain ⟨u, only, rx⟩ := vals1 r
  subst only
  cases rx
  have ⟨its, rv, pl, hz⟩ := I.list hq
  have hl := rv.length
  refine call_tuple_list pl.isList (fun h' kp => ?_) (by simp only [List.size_toArray]; omega)
  have J : Inv X pins σ H { s with heap := h' } := I.kept (t' := s.toks) kp
  have ht := IsTup.new h' its.toArray
  refine ⟨.ref h'.objs.size, upd H h'.objs.size (.frz { cls := .type "tuple", data := .seq its.toArray } (.tup ys)), J.laid (t' := s.toks) (fun b o e => Heap.get?_push_of_some _ e) (Nat.le_refl _) ?_, rfl, q _ _ (J.hok.fresh (Nat.le_refl _)) rfl rfl⟩
  exact ⟨Heap.get?_push_size _ rfl, hz, its, rv, ht⟩
def tBMT (r : V → List V → Hp → VK → Prop) (to : TE) (t : TA) : TE := fun σ H Q => to σ H fun x H1 => FrzT H1 x ∧ t σ H1 fun xs H2 => r x xs H2 Q
variable {o e : Expr} {es : List Expr} {to : TE} {t : TA} {name : Str} {apos cpos : Pos} {id : String} {r : V → List V → Hp → VK → Prop}
theorem pe_bmT (pa : PlainAttrs "tuple") (slot : Slot "tuple" name id) (hty : typeOf (.builtin id) = pure (.type "method_descriptor")) (hm : MtR X id r) (ho : PE X o to) (ha : PA X (e :: es) t) (hbase : attributeBase o name X.env (eval o X.env) = eval o X.env := by rfl) (hfew : ((backTo cpos (starEach (e :: es) X.env)).all (fun x => !x.1) && (backToKw cpos (keywordEach [] X.env)).all (fun x => x.1.isSome) && decide ((e :: es).length + ([] : List Keyword).length + (if ([] : List Keyword).isEmpty then 0 else 1) < 30)) = true := by rfl) (hline : (apos.endLine == cpos.line) = true := by rfl) (hs : starEach (e :: es) X.env = (false, eval e X.env) :: starEach es X.env := by rfl) (hplain : (backTo cpos (starEach es X.env)).any (·.1) = false := by rfl) :  PE X (.Call (.Attribute o name apos) (e :: es) [] cpos) (tBMT r to t) := by
  refine ⟨fun pins s σ H Q I h => wpAny_Call_method_late hbase hfew hline rfl (thn (ho.run pins s σ H _ I h) ?_)⟩
  rintro v s1 ⟨x, H1, I1, r1, ⟨p, ob, xs, rfl, hp, hd, hc⟩, q1⟩
  cases r1
  have g := (I1.hok _ _ hp).1
  refine ⟨"tuple", id, pa, slot, hty, ⟨ob, g, hc⟩, fun a z => by cases z; exact ⟨ob, g, hd⟩, ?_⟩
  have args := ha.run cpos pins _ σ H1 _ I1 q1
  rw [hs] at args ⊢; refine Calls.callWith_builtin (by show (false || (backTo cpos (starEach es X.env)).any (·.1)) = false; rw [hplain] <;> rfl) (Calls.evalArgs_plain ?_)
  exact thn args fun us s2 ⟨ys, H2, I2, r2, q2⟩ => hm pins s2 σ H2 (.ref p) ys (.ref p) us Q I2 rfl r2 q2
end
/-! ### own classes: isinstance, != (facts of the head) -/
def ownB (os : List Str) (K : PySem.W.Frag) (x : Str) : Bool :=
  decide (PySem.W.findIn K (.ref (He.ga K x)) "__class__" = some (some (.builtin "object.__class__"))) && (decide (PySem.W.specialIn K (.builtin "object.__class__") "__get__" = some (some (.builtin "getset_descriptor.__get__"))) &&
  (decide (PySem.W.takesIn K (.builtin "object.__class__") = some true) && (decide (PySem.W.mroIn K (He.ga K x) (.type "object") = some true) && (decide (PySem.W.findIn K (.ref (He.ga K x)) "__ne__" = some (some (.builtin "object.__ne__"))) &&
  ((["NoneType", "bool", "int", "str", "list", "tuple", "dict"].all fun T => decide (PySem.W.kitOne K (.type T) (.ref (He.ga K x)) = some false)) && os.all fun y => decide (PySem.W.kitOne K (.ref (He.ga K y)) (.ref (He.ga K x)) = some (decide (y = x))))))))
structure OwnF (os : List Str) (K : PySem.W.Frag) (x : Str) : Prop where
  ha : PySem.W.findIn K (.ref (He.ga K x)) "__class__" = some (some (.builtin "object.__class__"))
  got : some (some (.builtin "getset_descriptor.__get__")) = PySem.W.specialIn K (.builtin "object.__class__") "__get__" ∧ some true = PySem.W.takesIn K (.builtin "object.__class__")
  hm : PySem.W.mroIn K (He.ga K x) (.type "object") = some true
  ne : PySem.W.findIn K (.ref (He.ga K x)) "__ne__" = some (some (.builtin "object.__ne__"))
  ty : ∀ T ∈ ["NoneType", "bool", "int", "str", "list", "tuple", "dict"], PySem.W.kitOne K (.type T) (.ref (He.ga K x)) = some false
  ow : ∀ y ∈ os, PySem.W.kitOne K (.ref (He.ga K y)) (.ref (He.ga K x)) = some (decide (y = x))
theorem ownB_ok {os : List Str} {K : PySem.W.Frag} {x : Str} (h : ownB os K x = true) : OwnF os K x := by
  unfold ownB at h
  simp only [Bool.and_eq_true, decide_eq_true_eq, List.all_eq_true] at h
  obtain ⟨h1, h2, h3, h4, h5, h6, h7⟩ := h
  exact OwnF.mk h1 ⟨h2.symm, h3.symm⟩ h4 h5 h6 h7
theorem tyN_mem (d : PyData) : tyN d ∈ ["NoneType", "bool", "int", "str", "list", "tuple", "dict"] := by cases d <;> simp [tyN]
/-- isinstance(x, C), x data -/
theorem isi_own_d {os : List Str} {K : PySem.W.Frag} {H : Hp} {x : Str} {v : V} {d : PyData} {Q : VK} (F : OwnF os K x) (h : Dq K H v d) (q : Q (.bl false) H) : rIsi K [v, .ref (He.ga K x)] H Q :=
  ⟨v, _, _, _, _, rfl, .own _, h.ty, F.ty _ (tyN_mem d), q⟩
/-- .. x an own instance -/
theorem isi_own_o {os : List Str} {K : PySem.W.Frag} {H : Hp} {x y : Str} {a : Addr} {Q : VK} (F : OwnF os K x) (G : OwnF os K y) (cl : Cls K (He.ga K y)) (hy : y ∈ os) (h : InsAt (He.ga K y) a H) (q : Q (.bl (decide (y = x))) H) : rIsi K [.ref a, .ref (He.ga K x)] H Q :=
  let ⟨_, _, g⟩ := h
  ⟨.ref a, _, _, _, _, rfl, .own _, .base (.ins g cl G.ha G.got.1.symm G.got.2.symm G.hm), F.ow y hy, q⟩
end G

namespace G
open L2 PyProof.Rows PySem PySem.Spec
open Evl (Ex)
/-! ### == and != by an own __eq__ -/
section
variable {prog : Program} {w : World} {A : Around} {E : Value → Shared → Prop} {s : Shared} {K : PySem.W.Frag} {x C L f : Addr} {h₀ : Heap} {m : Str → Option Value} {ox : Obj} {od : Option Obj} {b tb : Value}
theorem by_no {α : Sort _} (a b : α) : (if false = true then a else b) = b := rfl
open PySem.W in
theorem ifBound_ne {Q : Option Value → Shared → Prop} (X : K.In s.heap) (I : InstAt s.heap x ox C od) (hs : findIn K (.ref C) "__ne__" = some (some (.builtin "object.__ne__")))
    (h : wpAny (model prog w) A (call (.builtin "object.__ne__") [.ref x, b]) (fun v => Q (some v)) E s) : wpAny (model prog w) A (callSpecialIfBound? (.ref x) "__ne__" [b]) Q E s := by
  unfold callSpecialIfBound? bindSpecialIfBound?
  refine wpAny_holding (wpAny_bind (wpAny_bind (wpAny_bind (I.type.here ((looks_findIn X hs).here (wpAny_bind (wpAny_askSetting (wpAny_ite ?_))))))))
  have e : bindSpecial (.builtin "object.__ne__") (.ref x) = pure (.builtin "object.__ne__", [.ref x]) := PySem.F.cmp_object.ne.bind _
  have last : wpAny (model prog w) A (call (.builtin "object.__ne__") ([.ref x] ++ [b]) >>= fun v => pure (some v)) Q E s := wpAny_bind (wpAny_mono h (fun v s' q => wpAny_pure q) fun _ _ q => q)
  split
  · refine wpAny_bind (wpAny_of_eq e (wpAny_pure ?_)); exact last
  · refine wpAny_tryCatch (wpAny_bind (wpAny_of_eq e (wpAny_pure ?_))); exact last
open PySem.W in
theorem ne_own {Q : Value → Shared → Prop} (hu : A.units + 1 < cLine) (F : Fr h₀ L s.heap m) (X₀ : K.In h₀) (I : InstAt s.heap x ox C od) (hb : Looks (model prog w) s.heap (typeOf b) tb) (hn : notFirst K C tb = true)
    (hne : findIn K (.ref C) "__ne__" = some (some (.builtin "object.__ne__"))) (hm : mroIn K C (.type "object") = some true) (hs : findIn K (.ref C) "__eq__" = some (some (.ref f))) (hf : isFn K (.ref f) = true)
    (h : wpAny (model prog w) A.in1 (call (.ref f) [.ref x, b]) (fun r s' => ∃ z, r = .bool z ∧ Q (.bool !z) s') E s) : wpAny (model prog w) A (richCompare .NotEq (.ref x) b) Q E s := by
  have X := X₀.keeps F.keep
  have run : wpAny (model prog w) A (call (.builtin "object.__ne__") [.ref x, b]) (fun r s' => ∃ z, r = .bool z ∧ Q (.bool z) s') E s := by
    have sub : Looks (model prog w) s.heap (isInstance (.ref x) (.type "object")) true := (I.type).andThen (looks_mroIn X hm)
    refine wpAny_call (codeAny_call_builtin PySem.F.cmp_object.ne.plain PySem.F.cmpEntry_ne (check_slot PySem.F.cmpKind_ne PySem.F.cmpSplit_ne sub (PySem.F.cmpArgs_ne _ _) ?_))
    rw [Builtin.«object.__ne__»]
    refine wpAny_bind (wpAny_of_eq (show slotArgs "__ne__" 1 ⟨[.ref x, b], []⟩ = pure (.ref x, [b]) from rfl) ?_)
    refine wpAny_bind (wpAny_cRoomFor hu (wpAny_bind (ifBound_K X I hs hf (wpAny_mono h (fun r s' z => ?_) fun _ _ z => z))))
    obtain ⟨z, rfl, q⟩ := z
    exact wpAny_bind (wpAny_truthy_bool (wpAny_pure ⟨_, rfl, q⟩))
  have one : wpAny (model prog w) A (tryCompare (.ref x) "__ne__" b) (fun r s' => ∃ v, r = some v ∧ Q v s') E s := by
    unfold tryCompare
    refine wpAny_bind (ifBound_ne X I hne (wpAny_mono run (fun v s' z => ?_) fun _ _ z => z))
    obtain ⟨z, rfl, q⟩ := z
    exact wpAny_pure ⟨_, rfl, q⟩
  unfold richCompare
  simp only [oneThing_ref]
  refine wpAny_holding (wpAny_bind (wpAny_cRoomFor (by omega) (wpAny_bind (I.type.here (wpAny_bind (hb.here ?_))))))
  split
  · rename_i c
    have apart : some false = subIn K tb (.ref C) := (Bool.or_eq_true_iff.mp hn).elim (fun z => by rw [beq_iff_eq.mp z] at c; simp at c) fun z => (beq_iff_eq.mp z).symm
    refine wpAny_bind ((looks_subIn X apart.symm).here ?_)
    rw [by_no]
    refine wpAny_bind (wpAny_mono one (fun r s' ⟨v, e, q⟩ => ?_) fun _ _ z => z)
    subst e; exact wpAny_pure q
  · refine wpAny_bind (m := pure false) (wpAny_pure ?_)
    rw [by_no]
    refine wpAny_bind (wpAny_mono one (fun r s' ⟨v, e, q⟩ => ?_) fun _ _ z => z)
    subst e; exact wpAny_pure q
end
theorem nf_of {K : PySem.W.Frag} {t : Value} {C : Addr} (h : PySem.W.kitOne K t (.ref C) = some false) : PySem.W.notFirst K C t = true := by
  unfold PySem.W.kitOne at h
  split at h
  · cases h
  · have e : PySem.W.kitCls K t (.ref C) = (if ((PySem.W.clsIn K C).isSome && PySem.W.typeIn K (.ref C) == some (.type "type")) = true then PySem.W.subIn K t (.ref C) else none) := rfl
    rw [e] at h
    by_cases c : ((PySem.W.clsIn K C).isSome && PySem.W.typeIn K (.ref C) == some (.type "type")) = true
    · rw [if_pos c] at h
      unfold PySem.W.notFirst; rw [h]; simp
    · rw [if_neg c] at h; cases h
theorem nf_same {K : PySem.W.Frag} {C : Addr} : PySem.W.notFirst K C (.ref C) = true := by unfold PySem.W.notFirst; simp
section
variable {X : Cx} {K : PySem.W.Frag} {CX : CXT} {k : Nat} {f C : Addr} {fd : FuncData} {ps : List Str} {sp : Sp} {E : XK}
def rCmpO (K : PySem.W.Frag) (C : Addr) (neg : Bool) (sp : Sp) (E : XK) : R2 := fun x y H Q => ∃ a t, x = .ref a ∧ InsAt C a H ∧ TyX K H y t ∧ PySem.W.notFirst K C t = true ∧ sp [.ref a, y] H (fun v H' => ∃ b, v = .bl b ∧ Q (.bl (if neg then !b else b)) H') E
theorem op_eqO (T : Spc X.K C "__eq__" f) (F : FG X.prog X.w X.K X.mg X.base CX k f fd ps sp) (hr : RG k X.A) (hb : Binds X.K fd ps []) (hx : Passes CX X E) : OpR X (compareOp .Eq) (rCmpO X.K C false sp E) := by
  rintro pins s σ H x y v u Q I rx ry ⟨a, t, rfl, ⟨dx, fs, ha⟩, ty, nf, h⟩
  cases rx
  obtain ⟨_, J, _⟩ := ins_get I.hok ha
  obtain ⟨od, J, _⟩ := J.look
  obtain ⟨m, hF⟩ := I.fr
  obtain ⟨R, kx, hR, _⟩ := kit_of I ry ty
  refine PySem.W.cmp_K (op := .Eq) (hu0 hr.r) hF I.ok.mod.kin J (kx.ty _ _ I.kIn hR) nf T.s T.fn.symm (wpAny_mono (run_gA (us := [.ref a, u]) (vs := [.ref a, y]) F rfl hr hb hx I (.cons rfl (.cons ry .nil)) h) (fun r s' ⟨z, H', J', rz, b, hz, q⟩ => ?_) fun _ _ z => z)
  subst hz
  cases rz
  exact ⟨.bl b, H', J', rfl, q⟩
theorem op_neO (T : Spc X.K C "__eq__" f) (hne : PySem.W.findIn X.K (.ref C) "__ne__" = some (some (.builtin "object.__ne__"))) (hm : PySem.W.mroIn X.K C (.type "object") = some true) (F : FG X.prog X.w X.K X.mg X.base CX k f fd ps sp) (hr : RG (k + 1) X.A) (hb : Binds X.K fd ps []) (hx : Passes CX X E) : OpR X (compareOp .NotEq) (rCmpO X.K C true sp E) := by
  rintro pins s σ H x y v u Q I rx ry ⟨a, t, rfl, ⟨dx, fs, ha⟩, ty, nf, h⟩
  cases rx
  obtain ⟨_, J, _⟩ := ins_get I.hok ha
  obtain ⟨od, J, _⟩ := J.look
  obtain ⟨m, hF⟩ := I.fr
  obtain ⟨R, kx, hR, _⟩ := kit_of I ry ty
  have un : X.A.units + 1 < cLine := by have := hr.r.un; omega
  refine ne_own un hF I.ok.mod.kin J (kx.ty _ _ I.kIn hR) nf hne hm T.s T.fn.symm (wpAny_mono (run_gA (us := [.ref a, u]) (vs := [.ref a, y]) F rfl hr.in1 hb hx I (.cons rfl (.cons ry .nil)) h) (fun r s' ⟨z, H', J', rz, b, hz, q⟩ => ?_) fun _ _ z => z)
  subst hz
  cases rz
  exact ⟨b, rfl, .bl _, H', J', rfl, q⟩
end
end G

namespace G
open L2 PyProof.Rows PySem PySem.Spec
open Evl (Ex)
/-! ### enumerate(tuple) -/
section
variable {s : Shared} {w : World} {prog : Program} {E : Value → Shared → Prop} {A : Around}
theorem enum_new {v : Value} {o : Obj} {H : Heap → Prop} (B : Begins v o H) :
    Meets (Builtin.«enumerate.__new__» ⟨[.type "enumerate", v], []⟩) (fun _ R s => H s.heap ∧
      R (.ok (.ret (.ref (s.heap.push o).objs.size))) { s with heap := (s.heap.push o).push { cls := .type "enumerate", data := .fields #[.none, .bool false, .ref s.heap.objs.size, rawInt 0, .none, .none] } }) :=
  .of_wp fun prog w A R ⟨heap, glob, held, toks, out⟩ ⟨ready, made⟩ => by
    have hsub := sub_enumerate
    have begin_ : ∀ {A' : Around} {E : Value → Shared → Prop} {Q : Value → Shared → Prop}, Q (.ref heap.objs.size) ⟨heap.push o, glob, held, toks, out⟩ → wpAny (model prog w) A' (pyIter v) Q E ⟨heap, glob, held, toks, out⟩ :=
      B.iter prog w _ _ _ _ ready
    wp_walk using begin_
    apply wpAny_stack_any
    intro below
    apply wpAny_pure
    split
    · rename_i c _ _ _ _ _
      cases (c == Value.type "enumerate") <;> (wp_walk using begin_; exact ⟨_, rfl, made⟩)
    · wp_walk using begin_; exact ⟨_, rfl, made⟩
theorem enum_call {v : Value} {o : Obj} {H : Heap → Prop} {Q : Value → Shared → Prop} (B : Begins v o H) (h1 : H s.heap)
    (h : ∀ h', IsEnum h' (s.heap.objs.size + 1) s.heap.objs.size 0 .none → h'.get? s.heap.objs.size = some o → h'.objs.size = s.heap.objs.size + 2 → (∀ b u, s.heap.get? b = some u → h'.get? b = some u) → Q (.ref (s.heap.objs.size + 1)) { s with heap := h' }) :
    wpAny (model prog w) A (call (.type "enumerate") [v]) Q E s := by
  refine callType_new F.called_enumerate (by decide) (F.typeCall_enumerate_1 _) (F.newCall_enumerate_1 _) (fun obj => F.args_object_init_2 obj _) F.entry_enumerate_new (enum_new B) ⟨h1, ?_⟩
  have z : (s.heap.push o).objs.size = s.heap.objs.size + 1 := Heap.size_push ..
  show _ ∧ _
  rw [z]
  have e0 : IsEnum ((s.heap.push o).push { cls := .type "enumerate", data := .fields #[.none, .bool false, .ref s.heap.objs.size, rawInt 0, .none, .none] }) (s.heap.objs.size + 1) s.heap.objs.size 0 .none := by
    have q := Heap.get?_push_size (s.heap.push o) (o := { cls := .type "enumerate", data := .fields #[.none, .bool false, .ref s.heap.objs.size, rawInt 0, .none, .none] }) rfl
    rwa [z] at q
  exact ⟨⟨_, e0, rfl⟩, h _ e0 (Heap.get?_push_of_some _ (Heap.get?_push_size _ B.free)) (by rw [Heap.size_push, z]) fun b u x => Heap.get?_push_of_some _ (Heap.get?_push_of_some _ x)⟩
end
/-- the tuple at a, each item in a new pair -/
def Iet (K : PySem.W.Frag) (a : Addr) : It :=
  ⟨fun i H => ∃ (xs : List V) (x : V), SqT K H a xs ∧ xs[i]? = some x, fun i H v H' => ∃ T x, v = .ref T ∧ H T = none ∧ H' = upd H T (.tup [.int (i : Nat), x]) ∧ ∀ xs, SqT K H a xs → xs[i]? = some x, fun i H => ∃ xs : List V, SqT K H a xs ∧ xs.length = i⟩
theorem apart_cls {h : Heap} {a b : Addr} {o : Obj} {c : Value} (h1 : h.get? a = some o) (h2 : ∃ u, h.get? b = some u ∧ u.cls = c) (ne : o.cls ≠ c) : a ≠ b := fun e => by
  obtain ⟨u, q, r⟩ := h2
  rw [← e, h1] at q; cases q; exact ne r
/-- where such a walk stands: e numbers what it draws from the tuple a -/
def AtEn (a e it : Addr) (i : Nat) (h : Heap) : Prop := h.IsTupleIter it a i ∧ e ≠ it ∧ ∃ old, IsEnum h e it (i : Int) old
theorem two_of {e it b : Addr} (m : b ∈ [e, it]) : b = e ∨ b = it := by simpa using m
theorem AtEn.lt {a e it : Addr} {i : Nat} {h : Heap} (z : AtEn a e it i h) {b : Addr} (m : b ∈ [e, it]) : b < h.objs.size := by
  obtain ⟨⟨o, g, _⟩, _, old, q⟩ := z
  rcases two_of m with rfl | rfl
  · exact Heap.lt_size q
  · exact Heap.lt_size g
/-- the tuple lies apart from both -/
theorem AtEn.apart {a e it : Addr} {i : Nat} {h : Heap} {xs : Array Value} (z : AtEn a e it i h) (t : h.IsTuple a xs) : a ≠ it ∧ e ∉ [it, a] := by
  obtain ⟨o, g, c, n, d⟩ := t
  obtain ⟨⟨o2, g2, c2, d2⟩, ne, old, g3⟩ := z
  refine ⟨?_, ?_⟩
  · rintro rfl
    rw [g] at g2; cases g2
    rw [d] at d2; cases d2
  · intro m
    rcases two_of m with q | q
    · exact ne q
    · rw [q] at g3
      have z := g.symm.trans g3
      cases z
      cases d
theorem turn_enumT {P : Program} {w : World} {K : PySem.W.Frag} {elts : List Expr} {kk : Nat} {tpos : Pos} (a e it : Addr) : Turn P w K (.Tuple elts kk tpos) (Iet K a) [e, it] e (AtEn a e it) := by
  have first : e ∈ [e, it] := List.mem_cons_self
  have second : it ∈ [e, it] := by simp
  constructor
  case mem => exact first
  case self => exact fun A i s Q E ⟨_, _, old, g⟩ q => wpAny_pyIter_enum g q
  case keep => exact fun i h h' ⟨z, ne, old, g⟩ k => ⟨z.at (k it second), ne, old, k e first _ g⟩
  case obj =>
    rintro i h ⟨⟨o, g, _, d⟩, _, old, g2⟩ b m
    rcases two_of m with rfl | rfl
    · exact ⟨_, g2, fun _ q => nomatch q⟩
    · exact ⟨o, g, fun _ q => by rw [d] at q; exact nomatch q⟩
  case done =>
    rintro X rfl rfl rfl calm i pins s σ H E I free z ⟨xs, sq, end_⟩
    obtain ⟨its, rel, tup, _⟩ := I.tuple sq
    have size : its.toArray.size = i := by rw [List.size_toArray, ← rel.length, end_]
    obtain ⟨apart, out⟩ := z.apart tup
    obtain ⟨here, _, old, g⟩ := z
    have D := Draws.tuple (prog := X.prog) (w := X.w) (A := X.A.in1) (I.ok.hd calm) it a apart its.toArray
    obtain ⟨f0, f1, _, f3, f4, f5⟩ := free it second
    exact wpAny_pyNext_enum_endD D g (by rw [size]; exact ⟨here, tup⟩) fun h' but => ⟨rfl, I.turned (t' := s.toks) but f0 f1 f3 f4 f5⟩
  case item =>
    rintro X rfl rfl rfl calm i pins s σ H E I free z ⟨xs, x, sq, hx⟩
    obtain ⟨its, rel, tup, _⟩ := I.tuple sq
    obtain ⟨u, hu, ru⟩ := rel.get hx
    have more : i < its.toArray.size := by
      rw [List.size_toArray, ← rel.length]
      exact (List.getElem?_eq_some_iff.mp hx).1
    obtain ⟨apart, out⟩ := z.apart tup
    have old_ : ∀ b ∈ [e, it], b < s.heap.objs.size := fun b => z.lt
    obtain ⟨here, ne, old, g⟩ := z
    have D := Draws.tuple (prog := X.prog) (w := X.w) (A := X.A.in1) (I.ok.hd calm) it a apart its.toArray
    refine wpAny_pyNext_enum_itemD D g ⟨here, tup⟩ more ne out fun y h1 tk hy out1 st1 pair size1 keep1 => ?_
    obtain rfl : y = u := by
      have q : its.toArray[i]? = some u := by simpa using hu
      exact Option.some.inj (hy.symm.trans q)
    refine ⟨_, rfl, wpAny_letOwnedTupleGo_enum (s := { s with heap := h1, toks := tk + 1 }) out1 fun h2 en2 but => ?_⟩
    have far : ∀ b, b ∈ [e, it] → b ≠ s.heap.objs.size := fun b m => Nat.ne_of_lt (old_ b m)
    have pair2 := (but.2 _ (far e first).symm).trans pair
    have whole : ∀ b o, b ∉ [e, it] → s.heap.get? b = some o → h2.get? b = some o := fun b o nm q => by
      have n1 : b ≠ e := fun q => nm (q ▸ first)
      rw [but.2 b n1]
      exact keep1 b o n1 (fun q => nm (q ▸ second)) q
    refine ⟨.ref s.heap.objs.size, upd H s.heap.objs.size (.tup [.int (i : Nat), x]), I.turnedNew (t' := tk + 1) whole free (Nat.le_refl _) ⟨?_, _, Paired.cons ⟨_, rfl⟩ (.cons ru .nil), _, pair2, rfl, _, rfl⟩, rfl, ?_, ⟨?_, ne, y, en2⟩, fun b m => ?_⟩
    · show 2 ≤ sizeLine
      rw [sizeLine_eq]; decide
    · refine ⟨_, x, rfl, I.hok.fresh (Nat.le_refl _), rfl, fun ys sq' => ?_⟩
      rw [I.tuple_inj sq' sq]; exact hx
    · exact st1.1.at fun o q => (but.2 it ne.symm).trans q
    · rw [upd_ne (far b m)]
      exact (free b m).1
def iEnumT (K : PySem.W.Frag) (ta : TA) : TI := fun σ H R => ta σ H fun vs H1 => ∃ a xs, vs = [.ref a] ∧ SqT K H1 a xs ∧ R (Iet K a) H1
theorem pi_enumT {X : Cx} {K : PySem.W.Frag} {e : Expr} {ta : TA} {p pos tpos : Pos} {elts : List Expr} {kk : Nat} (hg : Gl X "enumerate") (hm : X.mg "enumerate" = none) (ha : PA X [e] ta) (h : X.K = K := by rfl) (hs : starEach [e] X.env = [(false, eval e X.env)] := by rfl) : PI X (.Tuple elts kk tpos) (.Call (.Name "enumerate" p) [e] [] pos) (iEnumT K ta) := by
  subst h
  refine ⟨fun pins s σ H R I h => Call_ (ld_blt I hg hm boot_enumerate (PyProof.Rows.callWith_type1 (thn (ha.run pos pins s σ H _ I h) ?_) hs rfl))⟩
  rintro us s1 ⟨vs, H1, I1, r1, a, xs, rfl, hq, q⟩
  have ⟨u, one, ru⟩ := vals1 r1
  subst one
  cases ru
  obtain ⟨its, rv, pl, hz⟩ := I1.tuple hq
  refine enum_call (begins_tuple a its.toArray) pl fun h' he hit hsz hk => wpAny_pyIter_enum he ?_
  have J : Inv X pins σ H1 { s1 with heap := h' } := I1.kept (t' := s1.toks) hk
  refine ⟨s1.heap.objs.size + 1, [s1.heap.objs.size + 1, s1.heap.objs.size], _, _, H1, rfl, J, turn_enumT a (s1.heap.objs.size + 1) s1.heap.objs.size, ⟨⟨_, hit, rfl, rfl⟩, Nat.succ_ne_self _, .none, he⟩, fun b hb => ?_, q⟩
  have le : s1.heap.objs.size ≤ b := by
    have two : b = s1.heap.objs.size + 1 ∨ b = s1.heap.objs.size := by simpa using hb
    exact two.elim (fun z => z ▸ Nat.le_succ _) fun z => Nat.le_of_eq z.symm
  exact I1.fpOk le (I1.hok.fresh le)
/-- what is walked, each item told by Y -/
structure ItY (J : It) (B : Hp) (n : Nat) (Y : Nat → Hp → V → Hp → Prop) : Prop where
  go : ∀ i H', Ex B H' → i < n → J.go i H'
  yl : ∀ i x H' H'', Ex B H' → i < n → J.yld i H' x H'' → Y i H' x H''
  st : ∀ H', Ex B H' → J.stop n H'
theorem lc_invY {wi : TI} {H B : Hp} {n : Nat} {Y : Nat → Hp → V → Hp → Prop} {g : TG} {tt : TT} {te : TE} {vs : List Nat} {σ : L2.St} {Q : VK} (hw : ∀ P : It → Hp → Prop, (∀ J H1, Ex H H1 → ItY J B n Y → P J H1) → wi σ H P)
    (Pv : Addr → Nat → Hp → Prop) (h0 : ∀ D H1, Ex H H1 → H1 D = none → Pv D 0 (upd H1 D (.lst []))) (he : ∀ D i H', Pv D i H' → Ex B H')
    (turn : ∀ D i x H' H'', i < n → Pv D i H' → Y i H' x H'' → g x (wipe σ vs) H'' fun σ2 H2 => wipe σ2 vs = wipe σ vs ∧ tt σ2 H2 fun b H3 => if b = true then te σ2 H3 fun y H4 => ∃ acc, H4 D = some (.lst acc) ∧ acc.length < sizeLine ∧ Pv D (i + 1) (upd H4 D (.lst (acc ++ [y]))) else Pv D (i + 1) H3)
    (fin : ∀ D H', Pv D n H' → Q (.ref D) H') : tLc wi g tt te vs σ H Q := by
  refine hw _ fun J H1 e1 S D hD => ?_
  refine ⟨fun i m H' => m = n - i ∧ i ≤ n ∧ Pv D i H', ⟨n, by omega, Nat.zero_le _, h0 D H1 e1 hD⟩, ?_⟩
  rintro i m H' ⟨rfl, hi, p⟩
  by_cases c : i = n
  · subst c
    exact .inl ⟨S.st H' (he _ _ _ p), fin D H' p⟩
  · have hi' : i < n := by omega
    exact .inr ⟨S.go i H' (he _ _ _ p) hi', Pv D (i + 1), fun H2 h => ⟨n - (i + 1), by omega, rfl, hi', h⟩, fun x H'' hy => turn D i x H' H'' hi' p (S.yl i x H' H'' (he _ _ _ p) hi' hy)⟩
theorem ity_enum {K : PySem.W.Frag} {H : Hp} {a : Addr} {xs : List V} (h : SqT K H a xs) : ItY (Iet K a) H xs.length (fun i H' v H'' => ∃ T, v = .ref T ∧ H' T = none ∧ H'' = upd H' T (.tup [.int (i : Nat), nth xs i])) where
  go := fun i H' e hi => ⟨xs, _, Evl.ex_t e h, nth_at hi⟩
  yl := fun i x H' H'' e hi ⟨T, y, h1, h2, h3, h4⟩ => by
    have z := h4 xs (Evl.ex_t e h)
    rw [nth_at hi] at z; cases z
    exact ⟨T, h1, h2, h3⟩
  st := fun H' e => ⟨xs, Evl.ex_t e h, rfl⟩
theorem filter_nth (l : List Nat) (p : Nat → Bool) : ((List.range l.length).filter fun t => p (l[t]?.getD 0)).map (fun t => l[t]?.getD 0) = l.filter p := by
  have e : (List.range l.length).map (fun t => l[t]?.getD 0) = l := by
    refine List.ext_getElem? fun i => ?_
    rw [List.getElem?_map]
    by_cases c : i < l.length
    · rw [List.getElem?_range c, List.getElem?_eq_getElem c, Option.map_some, List.getElem?_eq_getElem c, Option.getD_some]
    · have out : ¬ i < (List.range l.length).length := by rwa [List.length_range]
      rw [List.getElem?_eq_none (Nat.le_of_not_lt c), List.getElem?_eq_none (Nat.le_of_not_lt out), Option.map_none]
  conv => rhs; rw [← e]
  rw [List.filter_map]; rfl
theorem pg_tupK {X : Cx} {K : PySem.W.Frag} {es : List Expr} {k : Nat} {t : TGs} {n : Nat} {pos : Pos} (hc : X.calm = true) (h : PGs X es t) (e : X.K = K := by rfl) (hn : (assignEach es X.env).length = n := by rfl) (hst : (assignEach es X.env).findIdx? (·.1) = none := by rfl) : PG X (.Tuple es k pos) (gTup K n t) := e ▸ pg_tup hc h hn hst
end G

namespace G
open L2 PyProof.Rows PySem PySem.Spec
open Evl (Ex)
/-! ### {x for a in as for x in xs}: a set of ints, two clauses without tests -/
abbrev sc2 (elt t0 i0 t1 i1 : Expr) (scope : Scope) (pos : Pos) : Expr := .SetComp elt [⟨t0, i0, [], 0⟩, ⟨t1, i1, [], 0⟩] scope pos
section
variable {prog : Program} {w : World} {A : Around} {R : Result → Shared → Prop} {s : Shared} {elt t0 i0 t1 i1 : Expr} {scope : Scope} {pos : Pos} {it acc : Value} {env : Env}
theorem sc2_turn0 : compTurn (sc2 elt t0 i0 t1 i1 scope pos) 0 it acc env = (do
    standAt i0.pos
    match ← pyNext it with
    | none => pure (.done .next)
    | some v => do
      letOwnedTupleGo t0 it v
      assign t0 env v
      let mut ok := true
      for c in ([] : List Expr) do
        if ok then
          ok ← isTrue c env (eval c env)
      if ok then do
        let x ← eval i1 env
        standAt i1.pos; let x ← foldedSetIterable i1 env x; let _ ← runOwn (.compStart (sc2 elt t0 i0 t1 i1 scope pos) 1 (← holding [x] (pyIter x)) acc env) env
      again (.compLoop (sc2 elt t0 i0 t1 i1 scope pos) 0 it acc env)) := by rfl
theorem sc2_turn1 : compTurn (sc2 elt t0 i0 t1 i1 scope pos) 1 it acc env = (do
    standAt i1.pos
    match ← pyNext it with
    | none => pure (.done .next)
    | some v => do
      letOwnedTupleGo t1 it v
      assign t1 env v
      let mut ok := true
      for c in ([] : List Expr) do
        if ok then
          ok ← isTrue c env (eval c env)
      if ok then (do let v ← eval elt env; standAt elt.pos; let _ ← call (.builtin "set.add") [acc, v])
      again (.compLoop (sc2 elt t0 i0 t1 i1 scope pos) 1 it acc env)) := by rfl
/-- one clause's loop: what each turn must show -/
def Clause (prog : Program) (w : World) (A : Around) (tg : Expr) (it : Value) (env : Env) (stop : Shared → Prop) (body : Shared → Prop) (s : Shared) : Prop :=
  wpAny (model prog w) A (pyNext it) (fun r s1 => match r with
    | none => stop s1
    | some v => wpAny (model prog w) A (letOwnedTupleGo tg it v) (fun _ s2 => wpAny (model prog w) A (assign tg env v) (fun _ s3 => body s3) (fun _ _ => False) s2) (fun _ _ => False) s1) (fun _ _ => False) s
theorem sc2_loop1 (I : Nat → Shared → Prop) (turn : ∀ n s, I n s → Clause prog w A t1 it env (fun s1 => R (.ok .next) s1)
      (fun s3 => wpAny (model prog w) A (eval elt env) (fun x s4 => wpAny (model prog w) A (call (.builtin "set.add") [acc, x]) (fun _ s5 => ∃ m, m < n ∧ I m s5) (fun _ _ => False) s4) (fun _ _ => False) s3) s) (n : Nat) (h : I n s) :
    codeAny (model prog w) A (.compLoop (sc2 elt t0 i0 t1 i1 scope pos) 1 it acc env) R s := by
  refine codeAny_loop rfl I (fun m t now => ?_) n h
  show wpAny _ A ((compTurn (sc2 elt t0 i0 t1 i1 scope pos) 1 it acc env).onRaise (fun x => do noteFrame x env; theTreesLotGoes x)) _ _ t
  refine wpAny_noted ?_
  rw [sc2_turn1]
  refine wpAny_bind (wpAny_standAt (wpAny_bind (thnF (turn m t now) fun r s1 h1 => ?_)))
  cases r with
  | none => exact wpAny_pure h1
  | some v =>
    refine wpAny_bind (thnF h1 fun _ s2 h2 => wpAny_bind (thnF h2 fun _ s3 h3 => ?_))
    refine wpAny_bind (m := pure true) (wpAny_pure ?_)
    rw [if_pos rfl]
    exact wpAny_bind (wpAny_bind (thnF h3 fun x s4 h4 => wpAny_bind (wpAny_standAt (wpAny_bind (thnF h4 fun _ s5 h5 => wpAny_pure (wpAny_pure ⟨rfl, h5⟩))))))
theorem sc2_loop0 (hs : ∀ x, foldedSetIterable i1 env x = pure x) (I : Nat → Shared → Prop) (turn : ∀ n s, I n s → Clause prog w A t0 it env (fun s1 => R (.ok .next) s1)
      (fun s3 => wpAny (model prog w) A (eval i1 env) (fun x s4 => wpAny (model prog w) A (pyIter x) (fun it1 s5 =>
        codeAny (model prog w) A (.compStart (sc2 elt t0 i0 t1 i1 scope pos) 1 it1 acc env) (fun r s' => (∃ f, r = .ok f) ∧ ∃ m, m < n ∧ I m s') s5) (fun _ _ => False) s4) (fun _ _ => False) s3) s) (n : Nat) (h : I n s) :
    codeAny (model prog w) A (.compLoop (sc2 elt t0 i0 t1 i1 scope pos) 0 it acc env) R s := by
  refine codeAny_loop rfl I (fun m t now => ?_) n h
  show wpAny _ A ((compTurn (sc2 elt t0 i0 t1 i1 scope pos) 0 it acc env).onRaise (fun x => do noteFrame x env; theTreesLotGoes x)) _ _ t
  refine wpAny_noted ?_
  rw [sc2_turn0]
  refine wpAny_bind (wpAny_standAt (wpAny_bind (thnF (turn m t now) fun r s1 h1 => ?_)))
  cases r with
  | none => exact wpAny_pure h1
  | some v =>
    refine wpAny_bind (thnF h1 fun _ s2 h2 => wpAny_bind (thnF h2 fun _ s3 h3 => ?_))
    refine wpAny_bind (m := pure true) (wpAny_pure ?_)
    rw [if_pos rfl]
    refine wpAny_bind (thnF h3 fun x s4 h4 => ?_)
    refine wpAny_bind (wpAny_standAt (wpAny_bind (wpAny_of_eq (hs x) (wpAny_bind (wpAny_holding (thnF h4 fun it1 s5 h5 => ?_))))))
    refine wpAny_bind (wpAny_runOwn (A.mark_none.symm ▸ codeAny_mono h5 fun r s' ⟨⟨f, hr⟩, hm⟩ => ?_))
    subst hr
    first | exact wpAny_pure (wpAny_pure ⟨rfl, hm⟩) | exact wpAny_pure ⟨rfl, hm⟩ | exact wpAny_bind (wpAny_pure (wpAny_pure ⟨rfl, hm⟩))
theorem sc2_start (h0 : codeAny (model prog w) A (.compLoop (sc2 elt t0 i0 t1 i1 scope pos) 1 it acc env) R s)
    (h : wpAny (model prog w) A (pyIter it) (fun it' s' => codeAny (model prog w) A (.compLoop (sc2 elt t0 i0 t1 i1 scope pos) 1 it' acc env) R s') (fun _ _ => False) s) :
    codeAny (model prog w) A (.compStart (sc2 elt t0 i0 t1 i1 scope pos) 1 it acc env) R s := by
  refine codeAny_of_tree ?_
  show wpAny _ _ ((compStart (sc2 elt t0 i0 t1 i1 scope pos) 1 it acc env).onRaise (fun x => do noteFrame x env; standAt theWindowsPlace)) _ _ s
  refine wpAny_notedAt ?_
  unfold compStart
  refine (show wpAny (model prog w) A (ask >>= _) _ _ s from wpAny_bind (wpAny_askSetting (wpAny_ite ?_)))
  split
  · first | exact wpAny_bind (wpAny_pure (wpAny_pure (And.intro rfl h0))) | exact wpAny_pure (And.intro rfl h0)
  · refine wpAny_bind (wpAny_rule (show wpAny _ _ (standAt i1.pos >>= _) _ _ s from ?_))
    exact wpAny_bind (wpAny_standAt (wpAny_bind (thnF h fun it' s' h' => wpAny_pure (And.intro rfl h'))))
end
/-- the reading: D is the new set -/
def tSc2 (w : World) (wi : TI) (g : TG) (wi1 : TI) (g1 : TG) (te : TE) (vs vs1 : List Nat) : TE := fun σ H Q => wi σ H fun J H1 => ∀ D, H1 D = none → ∃ W : Nat → Nat → Hp → Prop, (∃ m, W 0 m (upd H1 D (SetO w D (fun _ => false) 0))) ∧ ∀ i m H, W i m H →
  (J.stop i H ∧ Q (.ref D) H) ∨ (J.go i H ∧ ∃ Nx : Hp → Prop, (∀ H', Nx H' → ∃ m', m' < m ∧ W (i + 1) m' H') ∧ ∀ x H', J.yld i H x H' → g x (wipe σ vs) H' fun σ2 H2 => wipe σ2 vs = wipe σ vs ∧
    wi1 σ2 H2 fun J1 H4 => ∃ W1 : Nat → Nat → Hp → Prop, (∃ m, W1 0 m H4) ∧ ∀ j k H, W1 j k H →
      (J1.stop j H ∧ Nx H) ∨ (J1.go j H ∧ ∃ Ny : Hp → Prop, (∀ H', Ny H' → ∃ k', k' < k ∧ W1 (j + 1) k' H') ∧ ∀ x H', J1.yld j H x H' → g1 x (wipe σ2 vs1) H' fun σ3 H5 => wipe σ3 vs1 = wipe σ2 vs1 ∧
        te σ3 H5 fun y H7 => ∃ (c : Int) (S : Int → Bool) (n : Nat), y = .int c ∧ H7 D = some (SetO w D S n) ∧ n + 1 < scanBound ∧ Ny (upd H7 D (SetO w D (fun j => S j || decide (j = c)) (if S c = true then n else n + 1)))))
section
variable {X : Cx}
/-- what lay pinned when a turn began lies there still -/
theorem pins_keep {Y : Cx} {fp : List Addr} {pins : List (Addr × Obj)} {σ : L2.St} {H : Hp} {s : Shared} {h : Heap} (I : Inv Y (pins ++ pinsAt fp h) σ H s) {b : Addr} (m : b ∈ fp) {o : Obj} (e : h.get? b = some o) : s.heap.get? b = some o ∧ H b = none :=
  have z := I.pin (b, o) (List.mem_append_right _ (List.mem_append_right _ (mem_pinsAt m e)))
  And.intro z.1 z.2.1
/-- one turn of a clause, in a block that lets nothing out -/
theorem clause_turn {Y : Cx} {J : It} {fp : List Addr} {it : Addr} {tn : Nat → Heap → Prop} {tg : Expr} {g : TG} {i : Nat} {pins : List (Addr × Obj)} {s : Shared} {σ : L2.St} {H : Hp} {R : L2.St → Hp → Prop} {stop body : Shared → Prop}
    (T : Turn Y.prog Y.w Y.K tg J fp it tn) (calm : Y.calm = true) (quiet : ∀ e s', ¬ Y.xe e s') (pg : PG Y tg g) (I : Inv Y pins σ H s) (apart : ∀ b ∈ fp, FpOk Y pins H b) (here : tn i s.heap)
    (way : (J.stop i H ∧ ∀ s1, Inv Y pins σ H s1 → stop s1) ∨ (J.go i H ∧ ∀ x H', J.yld i H x H' → g x σ H' R))
    (next : ∀ (h : Heap) (σ3 : L2.St) (H3 : Hp) (s3 : Shared), Inv Y (pins ++ pinsAt fp h) σ3 H3 s3 → tn (i + 1) h → R σ3 H3 → body s3) :
    Clause Y.prog Y.w Y.A tg (.ref it) Y.env stop body s := by
  unfold Clause
  rcases way with ⟨at_end, q⟩ | ⟨more, q⟩
  · refine thnF (T.done Y rfl rfl rfl calm i pins s σ H (fun _ _ => False) I apart here at_end) ?_
    rintro _ s1 ⟨rfl, I1⟩
    exact q s1 I1
  · refine thnF (T.item Y rfl rfl rfl calm i pins s σ H (fun _ _ => False) I apart here more) ?_
    rintro _ s1 ⟨u, rfl, z⟩
    refine thnF z ?_
    rintro _ s2 ⟨x, H2, I2, rel, y, there, free⟩
    have P := Inv.pinned I2 (fun b m => ⟨free b m, (apart b m).2⟩) (T.obj _ _ there)
    refine wpAny_mono (pg.run _ s2 _ H2 x u R P rel (q x H2 y)) ?_ (fun e s' z => quiet e s' z)
    rintro _ s3 ⟨σ3, H3, I3, r⟩
    exact next s2.heap σ3 H3 s3 I3 there r
theorem wipe_out {σ : L2.St} {i : Nat} : ∀ {vs : List Nat}, i ∉ vs → (wipe σ vs)[i]? = σ[i]?
  | [], _ => rfl
  | v :: vs, h => by
    unfold wipe
    rw [List.getElem?_set_ne (fun e => h (by simp [e])), wipe_out fun m => h (List.mem_cons_of_mem _ m)]
/-- from a block back to the body that holds it -/
theorem block_left {pins : List (Addr × Obj)} {σ σ' : L2.St} {H H' : Hp} {s s' : Shared} {scope : Scope} {cl : List (Str × Addr)} {C : Addr} {fp : List Addr} (I : Inv X pins σ H s) (far : ∀ b ∈ fp, FpOk X pins H b) (new : s.heap.objs.size ≤ C)
    (J : Inv (X.blk s H scope (compEnvC scope cl C X.env) fp) [] σ' H' s') : ∃ m, s'.heap.Ns C m ∧ ∀ h, Heap.SameBut C s'.heap h → Inv X pins σ H' { s' with heap := h } := by
  have back : Inv X pins σ H' s' := by
    refine I.call' (ch := fp) J.os J.base J.hok J.bare fun b m => ?_
    obtain ⟨_, f1, _, f3, f4, f5⟩ := far b m
    exact ⟨f3, f1, f4, f5⟩
  obtain ⟨_, f1, _, f3, f4, f5⟩ := I.fpOk (b := C) (H' := H') new J.free
  obtain ⟨m, names, _⟩ := J.loc
  exact ⟨m, names, fun h but => back.turned (t' := s'.toks) (fun b o n e => (but.2 b n).trans e) J.free f1 f3 f4 f5⟩
theorem pe_sc2 {elt t0 i0 t1 i1 : Expr} {scope : Scope} {own : List (Str × Nat)} {vs1 : List Nat} {pos : Pos} {wi wi1 : TI} {g g1 : TG} {te : TE} (calm : X.calm = true) (nd : X.N.Nodup) (walk0 : PI X t0 i0 wi) (ok : BlkOk X.N X.env.scope scope own) (sub : ∀ i ∈ vs1, i ∈ own.map (·.2))
    (goal0 : ∀ (s : Shared) (H : Hp) (C : Addr) (cl : List (Str × Addr)) (fp : List Addr), PG (X.blk s H scope (compEnvC scope cl C X.env) fp) t0 g)
    (walk1 : ∀ (s : Shared) (H : Hp) (C : Addr) (cl : List (Str × Addr)) (fp : List Addr), PI (X.blk s H scope (compEnvC scope cl C X.env) fp) t1 i1 wi1)
    (goal1 : ∀ (s : Shared) (H : Hp) (C : Addr) (cl : List (Str × Addr)) (fp : List Addr), PG (X.blk s H scope (compEnvC scope cl C X.env) fp) t1 g1)
    (item : ∀ (s : Shared) (H : Hp) (C : Addr) (cl : List (Str × Addr)) (fp : List Addr), PE (X.blk s H scope (compEnvC scope cl C X.env) fp) elt te)
    (plain0 : ∀ x, foldedSetIterable i0 X.env x = pure x := by intro _; rfl) (plain1 : ∀ env x, foldedSetIterable i1 env x = pure x := by intro _ _; rfl) :
    PE X (sc2 elt t0 i0 t1 i1 scope pos) (tSc2 X.w wi g wi1 g1 te (own.map (·.2)) vs1) := by
  constructor
  intro pins s σ H Q I want
  have clo : ∀ y ∈ scope.names, y.2 = .free → ∃ c, X.env.cells.lookup y.1 = some c := by
    intro y m e
    exact I.ok.has _ (ok.free y m e)
  show wpAny _ _ (comprehension _ scope X.env _ _ _ _ none) _ _ s
  refine wpAny_comprehension_free (use := none) rfl plain0 (closure_ok clo) ok.kind (fun y m e => (ok.uniq y m).trans (congrArg some e)) ?_
  refine thn (walk0.run pins s σ H _ I want) ?_
  intro xv s1 z1
  refine thn z1 ?_
  rintro _ s2 ⟨it, fp, tn, J, H2, rfl, I2, T, here, far, want2⟩
  refine PpSet.newSet_ok (newEnv_comp ?_)
  obtain ⟨D, eD⟩ : ∃ D, D = s2.heap.objs.size := ⟨_, rfl⟩
  obtain ⟨h3, e3⟩ : ∃ h3, h3 = s2.heap.push { cls := .type "set", dict := none, data := .set #[] 0 (.fresh 0 0 (!X.w.params.followText "set-order")) } := ⟨_, rfl⟩
  rw [← eD, ← e3]
  have freeD : H2 D = none := I2.hok.fresh (Nat.le_of_eq eD.symm)
  obtain ⟨W, ⟨m0, w0⟩, turns⟩ := want2 D freeD
  have kept : ∀ b o, s2.heap.get? b = some o → h3.get? b = some o := fun b o e => by
    rw [e3]; exact Heap.get?_push_of_some _ e
  have J3 : Inv X pins σ (upd H2 D (SetO X.w D (fun _ => false) 0)) { s2 with heap := h3 } := by
    refine I2.laid (t' := s2.toks) kept (Nat.le_of_eq eD.symm) (setO_new ?_)
    rw [eD, e3]; exact setR_fresh X.w
  have size3 : s2.heap.objs.size < h3.objs.size := by rw [e3, Heap.size_push]; exact Nat.lt_succ_self _
  have older : ∀ b ∈ fp, b < s2.heap.objs.size := fun b m => by
    obtain ⟨o, e, _⟩ := T.obj _ _ here b m
    exact Heap.lt_size e
  have far3 : ∀ b ∈ fp, FpOk X pins (upd H2 D (SetO X.w D (fun _ => false) 0)) b := fun b m => by
    have ne : b ≠ D := by rw [eD]; exact Nat.ne_of_lt (older b m)
    exact ⟨by rw [upd_ne ne]; exact (far b m).1, (far b m).2⟩
  have here3 : tn 0 h3 := T.keep _ _ _ here fun b _ => kept b
  generalize upd H2 D (SetO X.w D (fun _ => false) 0) = H3 at w0 J3 far3
  have B0 := block_start J3 ok nd fun b m => ⟨far3 b m, Nat.lt_trans (older b m) size3⟩
  have here4 : tn 0 (pushCells (h3.push { cls := .type "dict", data := .dict #[] }) scope.names) := T.keep _ _ _ here3 fun b _ o e => pushCells_keeps _ _ _ _ (Heap.get?_push_of_some _ e)
  generalize cellsFrom (h3.objs.size + 1) scope.names (cloFrom X.env.cells scope.names []) = cl at B0 ⊢
  have PG0 := goal0 { s2 with heap := h3 } H3 h3.objs.size cl fp
  have PI1 := walk1 { s2 with heap := h3 } H3 h3.objs.size cl fp
  have PG1 := goal1 { s2 with heap := h3 } H3 h3.objs.size cl fp
  have PE1 := item { s2 with heap := h3 } H3 h3.objs.size cl fp
  have leave : ∀ {σ' H' s'}, Inv (X.blk { s2 with heap := h3 } H3 scope (compEnvC scope cl h3.objs.size X.env) fp) [] σ' H' s' → Q (.ref D) H' → compPost (model X.prog X.w) X.A X.xe none (EP X pins σ Q) (.ref D) h3.objs.size (.ok .next) s' := fun {σ' H' s'} Z q => by
    obtain ⟨m, names, rest⟩ := block_left J3 far3 (Nat.le_refl _) Z
    exact ⟨m, names, fun h but => ⟨.ref D, H', rest h but, rfl, q⟩⟩
  generalize eY : X.blk { s2 with heap := h3 } H3 scope (compEnvC scope cl h3.objs.size X.env) fp = Y at B0 PG0 PI1 PG1 PE1 leave
  have yp : Y.prog = X.prog := by rw [← eY]
  have yw : Y.w = X.w := by rw [← eY]
  have yK : Y.K = X.K := by rw [← eY]
  have yA : Y.A = X.A := by rw [← eY]
  have ye : Y.env = compEnvC scope cl h3.objs.size X.env := by rw [← eY]
  have yc : Y.calm = true := by rw [← eY]; exact calm
  have quiet : ∀ e s', ¬ Y.xe e s' := by rw [← eY]; exact fun _ _ z => z
  have apart : ∀ {σ' H' s'}, Inv Y [] σ' H' s' → (∀ b ∈ fp, H' b = none) → ∀ b ∈ fp, FpOk Y [] H' b := fun {σ' H' s'} Z free b m => by
    subst eY
    exact ⟨free b m, (Z.ok.exf b m).1, Z.ok.exfs b m, .inl m, fun x c e => (Z.ok.exf b m).2 x c e, fun p hp => absurd hp List.not_mem_nil⟩
  clear eY
  show codeAny _ _ (.compStart (sc2 elt t0 i0 t1 i1 scope pos) 0 (.ref it) (.ref D) (compEnvC scope cl h3.objs.size X.env)) _ _
  rw [← yp, ← yw, ← yA] at leave ⊢
  rw [← ye]
  rw [← yp, ← yw, ← yK] at T
  -- the first clause's loop
  have loop0 : codeAny (model Y.prog Y.w) Y.A (.compLoop (sc2 elt t0 i0 t1 i1 scope pos) 0 (.ref it) (.ref D) Y.env) (compPost (model Y.prog Y.w) Y.A X.xe none (EP X pins σ Q) (.ref D) h3.objs.size)
      { s2 with heap := pushCells (h3.push { cls := .type "dict", data := .dict #[] }) scope.names } := by
    refine sc2_loop0 (plain1 _) (fun n s' => ∃ i H', Inv Y [] (wipe σ (own.map (·.2))) H' s' ∧ tn i s'.heap ∧ (∀ b ∈ fp, H' b = none) ∧ W i n H') ?_ m0 ⟨0, H3, B0, here4, fun b m => (far3 b m).1, w0⟩
    rintro n s5 ⟨i, H5, I5, here5, free5, w5⟩
    rcases turns i n H5 w5 with ⟨at_end, q⟩ | ⟨more, Nx, back, step⟩
    · exact clause_turn T yc quiet PG0 (R := fun _ _ => False) I5 (apart I5 free5) here5 (.inl ⟨at_end, fun s6 I6 => leave I6 q⟩) fun _ _ _ _ _ _ z => z.elim
    refine clause_turn T yc quiet PG0 I5 (apart I5 free5) here5 (.inr ⟨more, step⟩) ?_
    rintro h7 σ8 H8 s8 I8 here7 ⟨same, inner⟩
    have long : (wipe σ (own.map (·.2))).length = (wipe σ8 vs1).length := by rw [← same, wipe_length, wipe_length]
    -- the second clause's iterator
    refine wpAny_mono (PI1.run _ s8 σ8 H8 _ I8 inner) ?_ (fun e s' z => quiet e s' z)
    intro xv1 s9 z9
    refine wpAny_mono z9 ?_ (fun e s' z => quiet e s' z)
    rintro _ s10 ⟨it1, fp1, tn1, J1, H10, rfl, I10, T1, here10, far10, W1, ⟨m1, w1⟩, turns1⟩
    have loop1 : codeAny (model Y.prog Y.w) Y.A (.compLoop (sc2 elt t0 i0 t1 i1 scope pos) 1 (.ref it1) (.ref D) Y.env) (fun r s' => (∃ f, r = .ok f) ∧ ∃ m, m < n ∧ ∃ i H', Inv Y [] (wipe σ (own.map (·.2))) H' s' ∧ tn i s'.heap ∧ (∀ b ∈ fp, H' b = none) ∧ W i m H') s10 := by
      refine sc2_loop1 (fun k s' => ∃ j H', Inv Y ([] ++ pinsAt fp h7) (wipe σ8 vs1) H' s' ∧ tn1 j s'.heap ∧ (∀ b ∈ fp1, H' b = none) ∧ W1 j k H') ?_ m1
        ⟨0, H10, I10.weak (wipe_length _ _) (fun j v e => (wipe_some e).1), here10, fun b m => (far10 b m).1, w1⟩
      rintro k s11 ⟨j, H11, I11, here11, free11, w11⟩
      have apart1 : ∀ b ∈ fp1, FpOk Y ([] ++ pinsAt fp h7) H11 b := fun b m => ⟨free11 b m, (far10 b m).2⟩
      rcases turns1 j k H11 w11 with ⟨at_end, nx⟩ | ⟨more1, Ny, back1, step1⟩
      · refine clause_turn T1 yc quiet PG1 (R := fun _ _ => False) I11 apart1 here11 (.inl ⟨at_end, fun s12 I12 => ⟨⟨_, rfl⟩, ?_⟩⟩) fun _ _ _ _ _ _ z => z.elim
        obtain ⟨m', less, w'⟩ := back H11 nx
        refine ⟨m', less, i + 1, H11, (I12.unpinned (pins := [])).weak long fun x v e => ?_, T.keep _ _ _ here7 fun b m o e => (pins_keep I12 m e).1, fun b m => ?_, w'⟩
        · rw [← same] at e
          obtain ⟨e1, out⟩ := wipe_some e
          rw [wipe_out fun m => out (sub x m)]; exact e1
        · obtain ⟨o, e, _⟩ := T.obj _ _ here7 b m
          exact (pins_keep I12 m e).2
      · refine clause_turn T1 yc quiet PG1 I11 apart1 here11 (.inr ⟨more1, step1⟩) ?_
        rintro h13 σ13 H13 s13 I13 here13 ⟨same1, elem⟩
        refine wpAny_mono (PE1.run _ s13 σ13 H13 _ I13 elem) ?_ (fun e s' z => quiet e s' z)
        rintro u s14 ⟨_, H14, I14, rel, c, S, n', rfl, hD, room, ny⟩
        have add := mt_sadd _ s14 σ13 H14 (.ref D) [.int c] (.ref D) [u] (fun _ H' => Ny H') I14 rfl (Paired.cons rel .nil) ⟨D, c, S, n', rfl, rfl, by rw [yw]; exact hD, room, by rw [yw]; exact ny⟩
        refine wpAny_mono add ?_ (fun e s' z => quiet e s' z)
        rintro _ s15 ⟨_, H15, I15, _, ny'⟩
        obtain ⟨k', less, w'⟩ := back1 H15 ny'
        refine ⟨k', less, j + 1, H15, I15.unpinned.weak (by rw [← same1, wipe_length]) fun x v e => ?_, T1.keep _ _ _ here13 fun b m o e => (pins_keep I15 m e).1, fun b m => ?_, w'⟩
        · rw [← same1] at e
          exact (wipe_some e).1
        · obtain ⟨o, e, _⟩ := T1.obj _ _ here13 b m
          exact (pins_keep I15 m e).2
    exact sc2_start loop1 (T1.self Y.A 0 _ _ _ here10 loop1)
  exact PpSet.codeAny_compStart_set loop0 (T.self Y.A 0 _ _ _ here4 loop0)
end
/-- the second clause's loop in such a reading -/
def Inner (w : World) (D : Addr) (J1 : It) (H4 : Hp) (Nx : Hp → Prop) (g1 : TG) (te : TE) (σ2 : L2.St) (vs1 : List Nat) : Prop := ∃ W1 : Nat → Nat → Hp → Prop, (∃ m, W1 0 m H4) ∧ ∀ j k H, W1 j k H →
  (J1.stop j H ∧ Nx H) ∨ (J1.go j H ∧ ∃ Ny : Hp → Prop, (∀ H', Ny H' → ∃ k', k' < k ∧ W1 (j + 1) k' H') ∧ ∀ x H', J1.yld j H x H' → g1 x (wipe σ2 vs1) H' fun σ3 H5 => wipe σ3 vs1 = wipe σ2 vs1 ∧
    te σ3 H5 fun y H7 => ∃ (c : Int) (S : Int → Bool) (n : Nat), y = .int c ∧ H7 D = some (SetO w D S n) ∧ n + 1 < scanBound ∧ Ny (upd H7 D (SetO w D (fun j => S j || decide (j = c)) (if S c = true then n else n + 1))))
theorem inner_of {w : World} {D : Addr} {J1 : It} {H4 B1 : Hp} {Nx : Hp → Prop} {g1 : TG} {te : TE} {σ2 : L2.St} {vs1 : List Nat} {n1 : Nat} {item1 : Nat → V} (S : ItS J1 B1 n1 item1) (Pw : Nat → Hp → Prop) (h0 : Pw 0 H4) (he : ∀ j H', Pw j H' → Ex B1 H') (fin : ∀ H', Pw n1 H' → Nx H')
    (turn : ∀ j H', j < n1 → Pw j H' → g1 (item1 j) (wipe σ2 vs1) H' fun σ3 H5 => wipe σ3 vs1 = wipe σ2 vs1 ∧ te σ3 H5 fun y H7 => ∃ (c : Int) (S : Int → Bool) (k : Nat), y = .int c ∧ H7 D = some (SetO w D S k) ∧ k + 1 < scanBound ∧ Pw (j + 1) (upd H7 D (SetO w D (fun j => S j || decide (j = c)) (if S c = true then k else k + 1)))) : Inner w D J1 H4 Nx g1 te σ2 vs1 := by
  refine ⟨fun i m H' => m = n1 - i ∧ i ≤ n1 ∧ Pw i H', ⟨n1, by omega, Nat.zero_le _, h0⟩, ?_⟩
  rintro i m H' ⟨rfl, hi, p⟩
  by_cases c : i = n1
  · subst c
    exact .inl ⟨S.st H' (he _ _ p), fin H' p⟩
  · have hi' : i < n1 := by omega
    refine .inr ⟨S.go i H' (he _ _ p) hi', Pw (i + 1), fun H2 h => ⟨n1 - (i + 1), by omega, rfl, hi', h⟩, fun x H'' hy => ?_⟩
    obtain ⟨rfl, rfl⟩ := S.yl i x H' H'' (he _ _ p) hi' hy
    exact turn i H'' hi' p
theorem sc2_inv {w : World} {wi : TI} {H B : Hp} {n : Nat} {item : Nat → V} {g : TG} {wi1 : TI} {g1 : TG} {te : TE} {vs vs1 : List Nat} {σ : L2.St} {Q : VK} (hw : ∀ P : It → Hp → Prop, (∀ J H1, Ex H H1 → ItS J B n item → P J H1) → wi σ H P)
    (Pv : Addr → Nat → Hp → Prop) (h0 : ∀ D H1, Ex H H1 → H1 D = none → Pv D 0 (upd H1 D (SetO w D (fun _ => false) 0))) (he : ∀ D i H', Pv D i H' → Ex B H')
    (turn : ∀ D i H', i < n → Pv D i H' → g (item i) (wipe σ vs) H' fun σ2 H2 => wipe σ2 vs = wipe σ vs ∧ wi1 σ2 H2 fun J1 H4 => Inner w D J1 H4 (Pv D (i + 1)) g1 te σ2 vs1)
    (fin : ∀ D H', Pv D n H' → Q (.ref D) H') : tSc2 w wi g wi1 g1 te vs vs1 σ H Q := by
  refine hw _ fun J H1 e1 S D hD => ?_
  refine ⟨fun i m H' => m = n - i ∧ i ≤ n ∧ Pv D i H', ⟨n, by omega, Nat.zero_le _, h0 D H1 e1 hD⟩, ?_⟩
  rintro i m H' ⟨rfl, hi, p⟩
  by_cases c : i = n
  · subst c
    exact .inl ⟨S.st H' (he _ _ _ p), fin D H' p⟩
  · have hi' : i < n := by omega
    refine .inr ⟨S.go i H' (he _ _ _ p) hi', Pv D (i + 1), fun H2 h => ⟨n - (i + 1), by omega, rfl, hi', h⟩, fun x H'' hy => ?_⟩
    obtain ⟨rfl, rfl⟩ := S.yl i x H' H'' (he _ _ _ p) hi' hy
    exact turn D i H'' hi' p
theorem pi_tupK {X : Cx} {K : PySem.W.Frag} {tg l : Expr} {tl : TE} (h : PE X l tl) (e : X.K = K := by rfl) : PI X tg l (iTup K tl) := e ▸ pi_tup h
/-- ints in ascending order, told by what they hold -/
theorem sorted_is {n : Nat} {ns : List Int} {p : Nat → Bool} (h1 : ns.Pairwise (· < ·)) (h2 : ∀ k : Int, k ∈ ns ↔ ∃ x : Nat, k = (x : Int) ∧ x < n ∧ p x = true) : ns = ((List.range n).filter p).map fun x : Nat => (x : Int) := by
  have asc : (((List.range n).filter p).map fun x : Nat => (x : Int)).Pairwise (· < ·) := by
    rw [List.pairwise_map]
    exact (List.pairwise_lt_range.filter _).imp fun h => by omega
  have mem : ∀ k, k ∈ (((List.range n).filter p).map fun x : Nat => (x : Int)) ↔ k ∈ ns := fun k => by
    rw [h2]; simp only [List.mem_map, List.mem_filter, List.mem_range]
    constructor
    · rintro ⟨x, ⟨a, b⟩, rfl⟩; exact ⟨x, rfl, a, b⟩
    · rintro ⟨x, rfl, a, b⟩; exact ⟨x, ⟨a, b⟩, rfl⟩
  have nd : ∀ {l : List Int}, l.Pairwise (· < ·) → l.Nodup := fun h => h.imp fun z => by omega
  have pm := (List.perm_ext_iff_of_nodup (nd h1) (nd asc)).mpr fun k => (mem k).symm
  exact pm.eq_of_pairwise (fun a b _ _ h h' => by omega) h1 asc
end G

namespace G
open L2 PyProof.Rows PySem PySem.Spec
open Evl (Ex)
/-- the list of a range from nought -/
theorem rgV_nat (n : Nat) : rgV 0 (n : Int) = (List.range n).map fun k : Nat => V.int (k : Int) := by
  unfold rgV
  rw [show ((n : Int) - 0).toNat = n by omega]
  exact List.map_congr_left fun k _ => by rw [Int.zero_add]
theorem asg_split {te : TE} {g : TG} {D : Ends} {σ : L2.St} {H : Hp} (S : V → Hp → Prop) (hr : ∀ v H1, S v H1 → g v σ H1 D.nx) (h : ∀ R : VK, (∀ v H1, S v H1 → R v H1) → te σ H R) : tAsg te g D σ H := h _ hr
end G

namespace G
open L2 PyProof.Rows PySem PySem.Spec
open Evl (Ex)
/-! ### try with several named clauses (one name), nothing let out -/
abbrev Hd : Type := Value × (Addr → Value → Option Addr → TS)
/-- behind a clause its name is gone -/
def Ends.gone (D : Ends) (i : Nat) : Ends := { nx := fun σ H => D.nx (σ.set i none) H, rt := D.rt, bk := fun σ H => D.bk (σ.set i none) H, ct := fun σ H => D.ct (σ.set i none) H }
def wNamed (K : PySem.W.Frag) (i : Nat) (D : Ends) : List Hd → WX
  | [] => fun _ _ _ _ => False
  | h :: r => fun cls d σ H => ∃ b, PySem.W.exmOne K cls h.1 = some b ∧ (b = true → ∀ a, H a = none → h.2 a cls d (Ends.gone D i) (σ.set i (some (.ref a))) H) ∧ (b = false → wNamed K i D r cls d σ H)
inductive HdsAs (X : Cx) (n : Str) : List ExceptHandler → List Hd → Prop
  | nil : HdsAs X n [] []
  | cons {x : Str} {c : Value} {ts : Addr → Value → Option Addr → TS} {b₀ : Stmt} {suite : List Stmt} {np pos' : Pos} {hds : List ExceptHandler} {l : List Hd} (hc : Names X x c)
      (hsu : ∀ (a : Addr) (oe : Obj) (cls : Value) (d : Option Addr) (pn : List (Addr × Obj)), Zc cls d oe → (∃ vs, oe.data = .fields vs) → PSs (X.suite a ((a, oe) :: pn)) (b₀ :: suite) (ts a cls d)) (r : HdsAs X n hds l) :
      HdsAs X n (.ExceptHandler (some (.Name x np)) (some n) (b₀ :: suite) pos' :: hds) ((c, ts) :: l)
/-- an error has come down at the try: the state h, in which it still flies -/
structure Caught (X : Cx) (pins : List (Addr × Obj)) (σ : L2.St) (H : Hp) (B : Heap) (a : Addr) (cls : Value) (d : Option Addr) (s : Shared) (h : Heap) : Prop where
  fl : HandSPX.FlyingZ B (X.env :: X.outer) a (Zc cls d) h
  inv : Inv X pins σ H { s with heap := h }
section
variable {X : Cx} {n : Str} {i : Nat} {pins : List (Addr × Obj)} {σ : L2.St} {H : Hp} {B h : Heap} {a : Addr} {cls : Value} {d : Option Addr} {s : Shared}
/-- the suite's context holds there -/
theorem Caught.suite (C : Caught X pins σ H B a cls d s h) (hf : X.env.frame = some X.env.locals) (na : H a = none) :
    ∃ oe, h.get? a = some oe ∧ Zc cls d oe ∧ (∃ vs, oe.data = .fields vs) ∧ Inv (X.suite a ((a, oe) :: (X.pn ++ pins))) [] σ H { s with heap := h } := by
  obtain ⟨oe, vs, at_a, z, rec_⟩ := C.fl.there
  have out : ∀ e ∈ X.env :: X.outer, e.frame ≠ some a := fun e m q => by
    obtain ⟨_, o, g, no⟩ := C.fl.2.2.1.mem (List.mem_filterMap.mpr ⟨e, m, q⟩)
    rw [at_a] at g
    cases g
    exact no vs rec_
  have away : a ∉ X.fs := fun m => by
    obtain ⟨e, m', q⟩ := List.mem_filterMap.mp m
    exact out e (List.mem_cons_of_mem _ m') q
  have mine : a ≠ X.env.locals := by
    rintro rfl
    exact out X.env List.mem_cons_self hf
  exact ⟨oe, at_a, z, ⟨vs, rec_⟩, C.inv.suite at_a rec_ na mine away⟩
/-- behind a suite its name is unbound -/
theorem suite_end {q : Addr × Obj} {D : Ends} {pos : Pos} {fl : Flow} {s' : Shared} (good : X.Ok) (nd : X.N.Nodup) (slot : X.N[i]? = some n) (loc : X.env.kindOf n = some .local)
    (z : SP (X.suite a (q :: (X.pn ++ pins))) [] (Ends.gone D i) fl s') : wpAny (model X.prog X.w) X.A (do bindName X.env n .none; unbindBehindTheSuite X.env n pos) (fun _ s7 => SP X pins D fl s7) X.xe s' := by
  cases fl with
  | ret u => obtain ⟨v, _, _, J, r, t⟩ := z; exact gone_ok (J.unsuite good) nd slot loc fun _ J' => ⟨v, _, _, J', r, t⟩
  | next => obtain ⟨_, _, J, t⟩ := z; exact gone_ok (J.unsuite good) nd slot loc fun _ J' => ⟨_, _, J', t⟩
  | brk => obtain ⟨_, _, J, t⟩ := z; exact gone_ok (J.unsuite good) nd slot loc fun _ J' => ⟨_, _, J', t⟩
  | cont => obtain ⟨_, _, J, t⟩ := z; exact gone_ok (J.unsuite good) nd slot loc fun _ J' => ⟨_, _, J', t⟩
/-- the clauses, one after the other -/
theorem clauses_run {hds : List ExceptHandler} {l : List Hd} {D : Ends} (hf : X.env.frame = some X.env.locals) (nd : X.N.Nodup) (slot : X.N[i]? = some n) (loc : X.env.kindOf n = some .local) (na : H a = none) (C : Caught X pins σ H B a cls d s h)
    (again : ∀ h', HandSPX.FlyingZ B (X.env :: X.outer) a (Zc cls d) h' → h.UpToSlots h' → Caught X pins σ H B a cls d s h') (hh : HdsAs X n hds l) :
    wNamed X.K i D l cls d σ H → wpAny (model X.prog X.w) X.A (handleBy (.ref a) X.env hds) (SP X pins D) X.xe { s with heap := h } := by
  induction hh with
  | nil => exact fun w => w.elim
  | @cons x c ts b₀ suite np pos' hds l names body rest ih =>
    rintro ⟨b, match_, yes, no⟩
    obtain ⟨oe, at_a, z, _, S⟩ := C.suite hf na
    refine wpAny_handleBy_cons (codeAny_handlers_test ?_) nofun
    have type_ : PySem.W.Looks (model X.prog X.w) h (typeOf (.ref a)) cls := fun _ _ _ _ k q => wpAny_typeOf_ref (k _ _ at_a) (by rw [z.1]; exact q)
    have asks := PySem.W.exm_one (M := model X.prog X.w) C.inv.kIn type_ match_
    have cls_ : ∀ {Q : Value → Shared → Prop} {E : Value → Shared → Prop}, Q c { s with heap := h } → wpAny (model X.prog X.w) (X.A.mark (some (.ref a))) (eval (.Name x np) X.env) Q E { s with heap := h } := fun {Q E} q => by
      obtain ⟨gl, dbg, own | ⟨none_, boot, nm⟩⟩ := names
      · exact ld_glob S gl own q dbg
      · exact ld_blt S gl none_ boot q nm dbg
    refine cls_ (asks.here ?_)
    cases b with
    | false => exact ih (no rfl)
    | true =>
      refine codeAny_handlers_suite_as (HandSPX.lands_againZ C.fl fun h' fl' up' => ?_)
      obtain ⟨oe', _, z', rec', S'⟩ := (again h' fl' up').suite hf na
      refine store_ok (X := X.suite a ((a, oe') :: (X.pn ++ pins))) (v := .ref a) S' nd slot (Or.inl loc) rfl (fun s5 S5 => ?_) (.inr loc)
      exact wpAny_mono ((body a oe' cls d (X.pn ++ pins) z' rec').run [] s5 _ H _ S5 (yes rfl a na)) (fun fl s6 t => suite_end C.inv.ok nd slot loc t) fun _ _ t => False.elim t
end
section
variable {X : Cx} {n : Str} {i : Nat} {body : List Stmt} {h₀ : ExceptHandler} {hds : List ExceptHandler} {l : List Hd} {pos : Pos} {tb : WX → TS}
theorem ps_tryAs (hs : X.stack = X.env :: X.outer) (hf : X.env.frame = some X.env.locals) (nd : X.N.Nodup) (slot : X.N[i]? = some n) (loc : X.env.kindOf n = some .local)
    (run : ∀ (W : WX) (pn : List (Addr × Obj)) (xe : Value → Shared → Prop), Takes (X.tr pn xe) W → PassesOwn (model X.prog X.w) X.A X.env xe → PSs (X.tr pn xe) body (tb W))
    (hh : HdsAs X n (h₀ :: hds) l) : PS X (.Try body (h₀ :: hds) [] [] pos) (fun D σ H => tb (wNamed X.K i D l) D σ H) := by
  constructor
  intro pins s σ H D I want
  have good := I.ok
  have frames : X.A.frames = some (X.env :: X.outer) := good.frames.trans (congrArg some hs)
  have catches : Takes (X.tr (X.pn ++ pins) fun e s1 => wpAny (model X.prog X.w) X.A (noteFrame e X.env) (fun _ s2 => wpAny (model X.prog X.w) X.A (setFlight e none) (fun _ s3 =>
      wpAny (model X.prog X.w) X.A (handleBy e X.env (h₀ :: hds)) (SP X pins D) X.xe s3) X.xe s2) X.xe s1) (wNamed X.K i D l) := by
    rintro _ s' ⟨a, B, s0, pins', σ', H', cls, d, rfl, J, ground, up, sky, na, os, bare, w⟩
    have J' : Inv X pins σ' H' s0 := J.ofTry good
    have sky' : Sky B (X.env :: X.outer) a (Zc cls d) X.env.locals s'.heap := hs ▸ sky
    refine Sky.land Zc.steady frames hf sky' fun h3 fl3 up3 => ?_
    have made : ∀ h, HandSPX.FlyingZ B (X.env :: X.outer) a (Zc cls d) h → s'.heap.UpToSlots h → Caught X pins σ' H' B a cls d s' h := fun h fl up' => ⟨fl, J'.landed ground fl.1 (up.trans up') os bare⟩
    exact clauses_run hf nd slot loc na (made h3 fl3 up3) (fun h fl up' => made h fl (up3.trans up')) hh w
  refine wpAny_Try_except (wpAny_mono ((run _ _ _ catches PassesOwn.looking).run [] s σ H D (I.toTry _) want) (fun fl s1 z => ?_) fun _ _ z => z)
  cases fl with
  | ret u => obtain ⟨v, _, _, J, r⟩ := z; exact ⟨v, _, _, J.ofTry good, r⟩
  | next => obtain ⟨_, _, J, r⟩ := z; exact wpAny_execs_nil ⟨_, _, J.ofTry good, r⟩
  | brk => obtain ⟨_, _, J, r⟩ := z; exact ⟨_, _, J.ofTry good, r⟩
  | cont => obtain ⟨_, _, J, r⟩ := z; exact ⟨_, _, J.ofTry good, r⟩
end
/-! ### calls in a try's body: what is let out is told where the call stands -/
section
variable {X : Cx} {W : WX} {k : Nat} {f C : Addr} {fd : FuncData} {ps ks : List Str} {sp : Sp} {x : Str} {p pos : Pos} {e : Expr} {es : List Expr} {kws : List Keyword} {t tk : TA}
/-- what W wishes, at the slots σ -/
def atS (W : WX) (σ : L2.St) : XK := fun cls d H => W cls d σ H
theorem run_gS {pins : List (Addr × Obj)} {σ : L2.St} {H : Hp} {s : Shared} {Q : VK} {us : List Value} {vs : List V} (F : FG X.prog X.w X.K X.mg X.base (L2.CX X.prog X.w) k f fd ps sp) (hr : RG k X.A) (hb : Binds X.K fd ps []) (hx : Takes X W)
    (I : Inv X pins σ H s) (r : Vals vs us) (h : sp vs H Q (atS W σ)) : wpAny (model X.prog X.w) X.A (call (.ref f) us) (EP X pins σ Q) X.xe s := by
  have nl : us.length = ps.length := r.length.symm.trans (F.few _ _ _ _ h)
  have bt : BindsTo s fd ⟨us, []⟩ (ps.zip us) := by
    have z := hb s us I.kIn (by rw [List.append_nil]; exact nl)
    rwa [List.append_nil] at z
  refine wpAny_call (codeAny_mono (F.run X.A X.stack s H _ us vs Q _ hr I.env0 bt r h) fun q s' hq => ?_)
  cases q with
  | error e => exact hx e s' (XE.of_call I (fun cls d H' h => h) hq)
  | ok fl => cases fl with
    | ret u => exact I.after hq
    | next => exact hq
    | brk => exact hq
    | cont => exact hq
theorem run_gkS {n : Nat} {g : List Value → List Value → List Value} {gV : List V → List V → List V} {pins : List (Addr × Obj)} {σ : L2.St} {H : Hp} {s : Shared} {Q : VK} {us ws : List Value} {vs zs : List V} (F : FG X.prog X.w X.K X.mg X.base (L2.CX X.prog X.w) k f fd ps sp) (hr : RG k X.A)
    (hb : KBn X.K fd ps n ks g gV) (hx : Takes X W) (I : Inv X pins σ H s) (r : Vals vs us) (rz : Vals zs ws) (l1 : vs.length = n) (l2 : zs.length = ks.length) (h : sp (gV vs zs) H Q (atS W σ)) :
    wpAny (model X.prog X.w) X.A (call (.ref f) us (ks.zip ws)) (EP X pins σ Q) X.xe s := by
  refine wpAny_call (codeAny_mono (F.run X.A X.stack s H _ (g us ws) _ Q _ hr I.env0 (hb.to s us ws I.kIn (r.length.symm.trans l1) (rz.length.symm.trans l2)) (hb.rel r rz) h) fun q s' hq => ?_)
  cases q with
  | error e => exact hx e s' (XE.of_call I (fun cls d H' h => h) hq)
  | ok fl => cases fl with
    | ret u => exact I.after hq
    | next => exact hq
    | brk => exact hq
    | cont => exact hq
theorem run_gmkS {n : Nat} {g : List Value → List Value → List Value} {gV : List V → List V → List V} {pins : List (Addr × Obj)} {σ : L2.St} {H : Hp} {s : Shared} {Q : VK} {us ws : List Value} {vs zs : List V} (M : Mk X.K C f) (F : FG X.prog X.w X.K X.mg X.base (L2.CX X.prog X.w) k f fd ps sp) (hr : RG (k + 1) X.A)
    (hb : KBn X.K fd ps (n + 1) ks g gV) (hx : Takes X W) (I : Inv X pins σ H s) (r : Vals vs us) (rz : Vals zs ws) (l1 : vs.length = n) (l2 : zs.length = ks.length)
    (want : ∀ a d : Addr, H a = none → H d = none → d ≠ a → sp (gV (.ref a :: vs) zs) (upd (upd H d (.own a)) a (.ins C d [])) (fun v H' => v = .non ∧ Q (.ref a) H') (atS W σ)) :
    wpAny (model X.prog X.w) X.A (call (.ref C) us (ks.zip ws)) (EP X pins σ Q) X.xe s :=
  run_new M F hr hb (fun _ _ s2 e J z => hx e s2 (XE.of_call J (fun _ _ _ w => w) z)) I r rz l1 l2 want
def tCallW (sp : Sp) (W : WX) (t : TA) : TE := fun σ H Q => t σ H fun vs H1 => sp vs H1 Q (atS W σ)
def tGKW (n m : Nat) (sp : Sp) (gV : List V → List V → List V) (W : WX) (t tk : TA) : TE := fun σ H Q => t σ H fun vs H1 => tk σ H1 fun zs H2 => vs.length = n ∧ zs.length = m ∧ sp (gV vs zs) H2 Q (atS W σ)
def tGMW (C : Addr) (n m : Nat) (sp : Sp) (gV : List V → List V → List V) (W : WX) (t tk : TA) : TE := fun σ H Q => t σ H fun vs H1 => tk σ H1 fun zs H2 => vs.length = n ∧ zs.length = m ∧ ∀ x dx, H2 x = none → H2 dx = none → dx ≠ x →
  sp (gV (.ref x :: vs) zs) (upd (upd H2 dx (.own x)) x (.ins C dx [])) (fun v H3 => v = .non ∧ Q (.ref x) H3) (atS W σ)
theorem pe_cW (F : Cal X.prog X.w X.K X.mg X.base (L2.CX X.prog X.w) k x ps sp) (hr : RG k X.A) (hg : Gl X x) (hx : Takes X W) (ha : PA X (e :: es) t) (hdb : (x == ("__debug__" : Str)) = false := by decide)
    (one : OneByOne X e es pos := by exact ⟨rfl, rfl⟩) : PE X (.Call (.Name x p) (e :: es) [] pos) (tCallW sp W t) := by
  obtain ⟨fd, G, b, _⟩ := F.ex
  exact ⟨fun pins s σ H Q I h => wpAny_Call_Name_kw (ld_glob I hg F.g (PySem.W.callWith_K (h₀ := X.base) I.ok.mod.kin F.kp (thn (ha.run pos pins s σ H _ I h) fun us s1 ⟨vs, H1, I1, r, q⟩ => ⟨I1.kIn, run_gS G hr b hx I1 r q⟩) one.next one.none) hdb)⟩
theorem pe_gkW {g : List Value → List Value → List Value} {gV : List V → List V → List V} (F : FG X.prog X.w X.K X.mg X.base (L2.CX X.prog X.w) k f fd ps sp) (hr : RG k X.A) (hg : Gl X x) (hm : X.mg x = some (.ref f)) (hk : PySem.W.keepIn X.K (.ref f) = true) (hb : KBn X.K fd ps 0 ks g gV) (hx : Takes X W)
    (hkw : PK X kws tk) (nk : NamedOnly X kws pos ks := by exact ⟨rfl, rfl, rfl⟩)
    (hdb : (x == ("__debug__" : Str)) = false := by decide) :
    PE X (.Call (.Name x p) [] kws pos) (tGKW 0 ks.length sp gV W tNil tk) := by
  refine ⟨fun pins s σ H Q I h => wpAny_Call_Name_kw (ld_glob I hg hm (PySem.W.callWith_KW0 (h₀ := X.base) I.ok.mod.kin hk nk.each (thn (hkw.run pos pins s σ H _ I h) ?_) nk.flat) hdb)⟩
  rintro ws s2 ⟨zs, H2, I2, rz, l1, l2, q2⟩
  refine ⟨I2.kIn, ?_⟩
  rw [nk.keys]
  exact run_gkS (us := []) (vs := []) F hr hb hx I2 .nil rz rfl l2 q2
theorem pe_gmk0W {g : List Value → List Value → List Value} {gV : List V → List V → List V} (M : Mk X.K C f) (F : FG X.prog X.w X.K X.mg X.base (L2.CX X.prog X.w) k f fd ps sp) (hr : RG (k + 1) X.A) (hg : Gl X x) (hm : X.mg x = some (.ref C)) (hb : KBn X.K fd ps 1 ks g gV) (hx : Takes X W) (hkw : PK X kws tk)
    (nk : NamedOnly X kws pos ks := by exact ⟨rfl, rfl, rfl⟩) (hdb : (x == ("__debug__" : Str)) = false := by decide) :
    PE X (.Call (.Name x p) [] kws pos) (tGMW C 0 ks.length sp gV W tNil tk) := by
  refine ⟨fun pins s σ H Q I h => wpAny_Call_Name_kw (ld_glob I hg hm (PySem.W.callWith_KW0 (h₀ := X.base) I.ok.mod.kin M.kp nk.each (thn (hkw.run pos pins s σ H _ I h) ?_) nk.flat) hdb)⟩
  rintro ws s2 ⟨zs, H2, I2, rz, l1, l2, q2⟩
  refine ⟨I2.kIn, ?_⟩
  rw [nk.keys]
  exact run_gmkS (us := []) (vs := []) M F hr hb hx I2 .nil rz rfl l2 q2
theorem pe_gmkW (M : Mk X.K C f) (F : FG X.prog X.w X.K X.mg X.base (L2.CX X.prog X.w) k f fd ps sp) (hr : RG (k + 1) X.A) (hg : Gl X x) (hm : X.mg x = some (.ref C)) {n : Nat} {g : List Value → List Value → List Value} {gV : List V → List V → List V} (hb : KBn X.K fd ps (n + 1) [] g gV) (hx : Takes X W) (ha : PA X (e :: es) t)
    (hdb : (x == ("__debug__" : Str)) = false := by decide) (one : OneByOne X e es pos := by exact ⟨rfl, rfl⟩) :
    PE X (.Call (.Name x p) (e :: es) [] pos) (tGMW C n 0 sp gV W t tNil) := by
  refine ⟨fun pins s σ H Q I h => wpAny_Call_Name_kw (ld_glob I hg hm (PySem.W.callWith_K (h₀ := X.base) I.ok.mod.kin M.kp (thn (ha.run pos pins s σ H _ I h) ?_) one.next one.none) hdb)⟩
  rintro us s1 ⟨vs, H1, I1, r, l1, l2, q⟩
  refine ⟨I1.kIn, ?_⟩
  exact run_gmkS (ks := []) (ws := []) (zs := []) M F hr hb hx I1 r .nil l1 rfl q
/-- the items at given places -/
def sel {α : Type} (is : List Nat) (ws : List α) : List α := is.filterMap fun i => ws[i]?
theorem vals_sel {zs : List V} {ws : List Value} (r : Vals zs ws) : ∀ is : List Nat, Vals (sel is zs) (sel is ws)
  | [] => .nil
  | i :: is => by
    have ih := vals_sel r is
    unfold sel at ih ⊢
    rw [List.filterMap_cons, List.filterMap_cons]
    cases e : zs[i]? with
    | none =>
      have l := r.length
      have : ws[i]? = none := by
        rw [List.getElem?_eq_none_iff] at e ⊢; omega
      rw [this]; exact ih
    | some z =>
      obtain ⟨u, hu, rv⟩ := r.get e
      rw [hu]; exact .cons rv ih
theorem vals_nil_app {us : List Value} {vs zs : List V} {ws : List Value} (r : Vals vs us) (r2 : Vals zs ws) : Vals (vs ++ zs) (us ++ ws) := by
  induction r with
  | nil => exact r2
  | cons h _ ih => exact .cons h ih
theorem kb_sel {K : PySem.W.Frag} {x : Str} {params : Arguments} {body : List Stmt} {scope : Scope} {f : Addr} {fd : FuncData} {ps : List Str} (F : FunD K x x params body scope [] [] f fd) (ks : List Str) (is : List Nat)
    (hb : ∀ (kV doc pm : Value) (an : Option Addr) (cdv ct : Value) (us ws : List Value), us.length = 0 → ws.length = ks.length → bindArgs (PySem.W.fnOf x x params body scope .none kV doc pm an cdv ct) ⟨us, ks.zip ws⟩ = pure (ps.zip (us ++ sel is ws))) :
    KBn K fd ps 0 ks (fun us ws => us ++ sel is ws) (fun vs zs => vs ++ sel is zs) := kb_of F 0 ks (fun us ws => us ++ sel is ws) (fun r r' => vals_nil_app r (vals_sel r' is)) hb
/-- f(k = v, ..) of a named def, in a try's body -/
theorem pe_ckW {params : Arguments} {body : List Stmt} {scope : Scope} (is : List Nat) (F : Cal X.prog X.w X.K X.mg X.base (L2.CX X.prog X.w) k x ps sp) (D : ∃ fd, FunD X.K x x params body scope [] [] (He.ga X.K x) fd)
    (hb : ∀ (kV doc pm : Value) (an : Option Addr) (cdv ct : Value) (us ws : List Value), us.length = 0 → ws.length = ks.length → bindArgs (PySem.W.fnOf x x params body scope .none kV doc pm an cdv ct) ⟨us, ks.zip ws⟩ = pure (ps.zip (us ++ sel is ws))) (hr : RG k X.A) (hg : Gl X x) (hx : Takes X W) (hkw : PK X kws tk)
    (nk : NamedOnly X kws pos ks := by exact ⟨rfl, rfl, rfl⟩)
    (hdb : (x == ("__debug__" : Str)) = false := by decide) :
    PE X (.Call (.Name x p) [] kws pos) (tGKW 0 ks.length sp (fun us ws => us ++ sel is ws) W tNil tk) := by
  obtain ⟨fd, D, G⟩ := cal_fg F D
  exact pe_gkW G hr hg F.g F.kp (kb_sel D ks is hb) hx hkw nk hdb
/-- the same, of a def that lets nothing out -/
theorem pe_ck {CX : CXT} {E : XK} {params : Arguments} {body : List Stmt} {scope : Scope} (is : List Nat) (F : Cal X.prog X.w X.K X.mg X.base CX k x ps sp) (D : ∃ fd, FunD X.K x x params body scope [] [] (He.ga X.K x) fd)
    (hb : ∀ (kV doc pm : Value) (an : Option Addr) (cdv ct : Value) (us ws : List Value), us.length = 0 → ws.length = ks.length → bindArgs (PySem.W.fnOf x x params body scope .none kV doc pm an cdv ct) ⟨us, ks.zip ws⟩ = pure (ps.zip (us ++ sel is ws))) (hr : RG k X.A) (hg : Gl X x) (hx : Passes CX X E) (hkw : PK X kws tk)
    (nk : NamedOnly X kws pos ks := by exact ⟨rfl, rfl, rfl⟩)
    (hdb : (x == ("__debug__" : Str)) = false := by decide) :
    PE X (.Call (.Name x p) [] kws pos) (tGK 0 ks.length sp (fun us ws => us ++ sel is ws) E tNil tk) := by
  obtain ⟨fd, D, G⟩ := cal_fg F D
  exact pe_gk0 G hr hg F.g F.kp (kb_sel D ks is hb) hx hkw nk hdb
end
end G

namespace G
open L2 PyProof.Rows PySem PySem.Spec

/-! ### (x,) * 0 -/
theorem tuple_mul0 (l : Addr) (items : Array Value) (n : Nat) (dd : Option Addr) (sl : Array (Option Value)) (u : Tok) (c1 : items.isEmpty = false) :
    Meets (Builtin.«tuple.__mul__» ⟨[.ref l, .int 0 u], []⟩) (fun _ R s => s.heap.get? l = some { cls := .type "tuple", dict := dd, data := .seq items n, slots := sl } ∧
      R (.ok (.ret (Value.ref s.heap.objs.size))) { s with heap := s.heap.push { cls := Value.type "tuple", data := Data.seq #[] }, toks := s.toks }) :=
  .of_wp fun _ _ _ R ⟨heap, glob, held, toks, out⟩ ⟨lies, done⟩ => by
    have f1 := AutoSeq1.idx_int
    wp_walk using AutoSeq1.wpAny_loadPart' lies
    exact ⟨_, rfl, done⟩
def rRep0 (K : PySem.W.Frag) : R2 := fun x y H Q => ∃ l xs, x = .ref l ∧ y = .int 0 ∧ SqT K H l xs ∧ xs ≠ [] ∧ ∀ p, H p = none → Q (.ref p) (upd H p (.tup []))
theorem op_rep0 {X : Cx} {K : PySem.W.Frag} (h : X.K = K := by rfl) : OpR X (binaryOp .Mult) (rRep0 K) := by
  subst h
  rintro pins s σ H x y v u Q I rx ry ⟨l, xs, rfl, rfl, hT, ne, q⟩
  cases rx
  obtain ⟨t, rfl⟩ := ry
  obtain ⟨its, r, ⟨⟨cls, dd, dt, sl⟩, ho, hc, n, hd⟩, hs⟩ := I.tuple hT
  simp only at hc hd
  subst hc hd
  have some_ : its.toArray.isEmpty = false := by
    cases its with
    | nil => exact absurd (List.eq_nil_of_length_eq_zero r.length) ne
    | cons a b => rfl
  refine wpAny_binaryOp_repeat_ref (T := "tuple") (U := "int") (by decide) ⟨_, ho, rfl⟩ (fun s' => typeIs_int s' 0 t) noFill_tuple_mul F.fills_int_mul F.slot_int_rmul repeat_tuple F.slot_int_index.lookup
    (call_meets F.slot_int_rmul (typeIs_int s 0 t) F.entry_int_rmul (F.args_int_rmul_2 _ _) (int_rmul_tuple 0 t l its.toArray n dd sl) ⟨ho, rfl, ⟨_, ho, rfl⟩, call_meets F.slot_tuple_mul ⟨_, ho, rfl⟩ F.entry_tuple_mul (F.args_tuple_mul_2 _ _) (tuple_mul0 l its.toArray n dd sl t some_) ⟨ho, ?_⟩⟩)
  exact ⟨.ref s.heap.objs.size, _, I.laid (t' := s.toks) (o := .tup []) (fun b ob q => Heap.get?_push_of_some _ q) (Nat.le_refl _) ⟨Nat.zero_le _, [], .nil, IsTup.new _ _⟩, rfl, q _ (I.hok.fresh (Nat.le_refl _))⟩
end G

namespace G
open L2 PyProof.Rows PySem PySem.Spec
open Evl (Ex)
/-! ### data that has a short text -/
/-- d's leaves are short, its weight is w at most, its depth p at most -/
structure Small (w p : Nat) (d : PyData) : Prop where
  lf : d.leavesShort 32 = true
  sh : d.showable = true
  dp : d.depth ≤ p
  wt : d.weight ≤ w
theorem Small.mono {w p w' p' : Nat} {d : PyData} (h : Small w p d) (hw : w ≤ w') (hp : p ≤ p') : Small w' p' d := ⟨h.lf, h.sh, Nat.le_trans h.dp hp, Nat.le_trans h.wt hw⟩
theorem Small.shown {w p : Nat} {d : PyData} (h : Small w p d) (hw : w ≤ 400000) : d.shown.length ≤ sizeLine := by
  have z := PyData.shown_le 32 (by decide) d h.lf
  have := h.wt
  rw [sizeLine_eq]; omega
def SmallAll (w p : Nat) (ds : List PyData) : Prop := ∀ d ∈ ds, Small w p d
theorem small_all {w p : Nat} : ∀ {ds : List PyData}, SmallAll w p ds → PyData.leavesShortAll 32 ds = true ∧ PyData.showableAll ds = true ∧ PyData.depthAll ds ≤ p ∧ PyData.weightAll ds ≤ ds.length * (w + 1)
  | [], _ => ⟨rfl, rfl, by simp [PyData.depthAll], by simp [PyData.weightAll]⟩
  | d :: ds, h => by
    obtain ⟨h1, h2, h3, h4⟩ := small_all (ds := ds) fun x m => h x (List.mem_cons_of_mem _ m)
    have s := h d List.mem_cons_self
    refine ⟨?_, ?_, ?_, ?_⟩
    · simp only [PyData.leavesShortAll, s.lf, h1, Bool.and_self]
    · simp only [PyData.showableAll, s.sh, h2, Bool.and_self]
    · have := s.dp; simp only [PyData.depthAll]; omega
    · have := s.wt
      simp only [PyData.weightAll, List.length_cons, Nat.add_mul]; omega
theorem Small.list {w p : Nat} {ds : List PyData} (h : SmallAll w p ds) : Small (ds.length * (w + 1)) (p + 1) (.list ds) := by
  obtain ⟨h1, h2, h3, h4⟩ := small_all h
  exact ⟨by simpa [PyData.leavesShort] using h1, by simpa [PyData.showable] using h2, by simp only [PyData.depth]; omega, by simpa [PyData.weight] using h4⟩
theorem Small.tuple {w p : Nat} {ds : List PyData} (h : SmallAll w p ds) : Small (ds.length * (w + 1)) (p + 1) (.tuple ds) := by
  obtain ⟨h1, h2, h3, h4⟩ := small_all h
  exact ⟨by simpa [PyData.leavesShort] using h1, by simpa [PyData.showable] using h2, by simp only [PyData.depth]; omega, by simpa [PyData.weight] using h4⟩
def smallB (w p : Nat) (d : PyData) : Bool := d.leavesShort 32 && (d.showable && (decide (d.depth ≤ p) && decide (d.weight ≤ w)))
theorem smallB_ok {w p : Nat} {d : PyData} (h : smallB w p d = true) : Small w p d := by
  unfold smallB at h
  simp only [decide_eq_true_eq, Bool.and_eq_true] at h
  exact ⟨h.1, h.2.1, h.2.2.1, h.2.2.2⟩
theorem small_nats : (List.range 128).all (fun k => smallB 8 1 (.int (k : Int))) = true := by decide +kernel
theorem Small.nat {k : Nat} (h : k < 128) : Small 8 1 (.int (k : Int)) := smallB_ok (List.all_eq_true.mp small_nats k (List.mem_range.mpr h))
theorem rRepr_of {K : PySem.W.Frag} {H : Hp} {x : V} {d : PyData} {Q : VK} {w p : Nat} (h : Dq K H x d) (s : Small w p d) (hw : w ≤ 400000) (hp : p ≤ 60) (q : Q (.str d.shown) H) : rRepr K [x] H Q :=
  ⟨x, d, rfl, h, s.sh, s.shown hw, Nat.le_trans s.dp hp, q⟩
end G

namespace G
open L2 PyProof.Rows PySem PySem.Spec
open Evl (Ex)
/-! ### lists of anything: == [], != [], a list against itself -/
section
variable {X : Cx} {K : PySem.W.Frag}
def rNil (K : PySem.W.Frag) (f : Bool → Bool) : R2 := fun x y H Q => ∃ a xs b, x = .ref a ∧ y = .ref b ∧ SqL K H a xs ∧ SqL K H b [] ∧ Q (.bl (f xs.isEmpty)) H
theorem nil_parts {pins : List (Addr × Obj)} {σ : L2.St} {H : Hp} {s : Shared} {a b : Addr} {xs : List V} (I : Inv X pins σ H s) (h1 : SqL X.K H a xs) (h2 : SqL X.K H b []) :
    ∃ us, s.heap.IsList a us ∧ s.heap.IsList b #[] ∧ us.size = xs.length := by
  obtain ⟨us, r, p, _⟩ := I.list h1
  obtain ⟨ws, r2, p2, _⟩ := I.list h2
  cases r2
  exact ⟨us.toArray, p.isList, p2.isList, by rw [List.size_toArray, ← r.length]⟩
theorem op_eqNil (room : X.A.units < cLine) (h : X.K = K := by rfl) : OpR X (compareOp .Eq) (rNil K fun z => z) := by
  subst h
  rintro pins s σ H _ _ v u Q I rx ry ⟨a, xs, b, rfl, rfl, h1, h2, q⟩
  cases rx
  cases ry
  obtain ⟨us, p1, p2, sz⟩ := nil_parts I h1 h2
  cases xs with
  | nil =>
    refine SeqAt.eq_listAt (e := fun _ => true) p1 p2 (by rw [sz]; rfl) room (fun j z1 z2 => absurd z2 (Nat.not_lt_zero _)) ⟨.bl true, H, I, ?_, q⟩
    rw [sz]; rfl
  | cons x xs => exact SeqAt.eq_list_lengthsAt p1 p2 (by rw [bne_iff_ne, sz]; exact Nat.succ_ne_zero _) room ⟨.bl false, H, I, rfl, q⟩
theorem op_neNil (room : X.A.units < cLine) (h : X.K = K := by rfl) : OpR X (compareOp .NotEq) (rNil K fun z => !z) := by
  subst h
  rintro pins s σ H _ _ v u Q I rx ry ⟨a, xs, b, rfl, rfl, h1, h2, q⟩
  cases rx
  cases ry
  obtain ⟨us, p1, p2, sz⟩ := nil_parts I h1 h2
  cases xs with
  | nil =>
    refine SeqAt.RcNeAt.lists (e := fun _ => true) p1 p2 (by rw [sz]; rfl) room (fun j z1 z2 => absurd z2 (Nat.not_lt_zero _)) _ _ _ _ ⟨.bl false, H, I, ?_, q⟩
    rw [sz]; rfl
  | cons x xs => exact SeqAt.RcNeAt.lists_lengths p1 p2 (by rw [bne_iff_ne, sz]; exact Nat.succ_ne_zero _) room _ _ _ _ ⟨.bl true, H, I, rfl, q⟩
def rSelf (K : PySem.W.Frag) : R2 := fun x y H Q => ∃ a xs, x = .ref a ∧ y = .ref a ∧ SqL K H a xs ∧ Q (.bl false) H
theorem op_neSelf (room : X.A.units < cLine) (h : X.K = K := by rfl) : OpR X (compareOp .NotEq) (rSelf K) := by
  subst h
  rintro pins s σ H _ _ v u Q I rx ry ⟨a, xs, rfl, rfl, h1, q⟩
  cases rx
  cases ry
  obtain ⟨us, _, p, _⟩ := I.list h1
  refine SeqAt.RcNeAt.lists (e := fun _ => true) p.isList p.isList rfl room (fun j z1 z2 => SeqAt.EqAt.same _) _ _ _ _ ⟨.bl false, H, I, ?_, q⟩
  have z : (List.range us.toArray.size).all (fun _ => true) = true := by simp
  rw [z]; rfl
end
theorem f2_get {α β : Type} {R : α → β → Prop} : ∀ {as : List α} {bs : List β} {i : Nat} {a : α}, F2 R as bs → as[i]? = some a → ∃ b, bs[i]? = some b ∧ R a b
  | _, _, _, _, .nil, seen => by simp at seen
  | _, _, 0, _, .cons h _, e => by simp at e; subst e; exact ⟨_, rfl, h⟩
  | _, _, i + 1, _, .cons _ hs, e => by
    obtain ⟨b, h1, h2⟩ := f2_get (i := i) hs (by simpa using e)
    exact ⟨b, by simpa using h1, h2⟩
end G

namespace HT
open PyProof.Rows PySem.Spec PySem
section
variable {s : Shared} {w : World} {prog : Program} {E : Value → Shared → Prop} {A : Around}
/-- t[lo:hi] that is all of t: t itself -/
theorem slice_whole {t sl : Addr} {items : Array Value} {vl vu : Value} {lo hi : Option Int} {Q : Value → Shared → Prop} (tup : IsTup s.heap t items) (cut : s.heap.IsSliceOf sl vl vu .none) (pl : IsPart vl lo) (pu : IsPart vu hi) (from_ : sIx items.size 0 lo = 0) (to_ : sIx items.size items.size hi = items.size)
    (q : Q (.ref t) s) : wpAny (model prog w) A (getItem (.ref t) (.ref sl)) Q E s := by
  have kind : s.TypeIs (.ref sl) "slice" := by
    obtain ⟨o, ho, hc, _⟩ := cut
    exact ⟨o, ho, hc⟩
  unfold getItem
  have kind_t := tup.typeIs
  refine wpAny_holding (wpAny_bind (wpAny_sequenceKey kind_t (by decide) (wpAny_bind (wpAny_callSpecial?_slot (name := Str.ofString "__getitem__") kind_t slot_tuple_getitem (wpAny_call_entry slot_tuple_getitem kind_t entry_tuple_getitem ?_ (args_tuple_getitem _ _))))))
  show wpAny (model prog w) _ (Builtin.Tuple.tupleItemsOf (.ref t) >>= _) _ _ s
  refine wpAny_bind (tupleItemsOf_ tup (wpAny_bind (wpAny_typeOf kind ?_)))
  rw [if_pos (show (Value.type "slice" == Value.type "slice") = true by decide)]
  refine wpAny_bind (sliceApplied_gen cut pl pu ?_)
  rw [from_, to_]
  have yes : ((((0 : Nat) : Int) == 0 && (1 : Int) == 1 && (items.size - 0) == items.size) = true) := by simp
  show wpAny _ _ (if ((((0 : Nat) : Int) == 0 && (1 : Int) == 1 && (items.size - 0) == items.size) = true) then _ else _) _ _ s
  rw [if_pos yes]
  unfold Builtin.Tuple.tupleIsExact
  refine wpAny_bind (wpAny_bind (wpAny_typeOf tup.typeIs (wpAny_pure ?_)))
  rw [if_pos (show (Value.type "tuple" == Value.type "tuple") = true by decide)]
  exact wpAny_bind (wpAny_rule (by
    first
    | exact wpAny_pure ⟨_, rfl, wpAny_pure q⟩
    | exact wpAny_bind (wpAny_pure (wpAny_pure ⟨_, rfl, wpAny_pure q⟩))
    | exact wpAny_pure (wpAny_pure ⟨_, rfl, wpAny_pure q⟩)))
end
end HT
namespace G
open L2 PyProof.Rows PySem PySem.Spec
open Evl (Ex)
section
variable {X : Cx} {K : PySem.W.Frag}
/-- a[lo:hi] of a list or a tuple: its items from then on -/
def rSlAny (K : PySem.W.Frag) : V → Option Int → Option Int → Hp → VK → Prop := fun x lo hi H Q => ∃ a xs, x = .ref a ∧ ((SqL K H a xs ∧ ∀ p H', Ex H H' → SqL K H' p (cutV xs lo hi) → Q (.ref p) H') ∨ (SqT K H a xs ∧ ∀ p H', Ex H H' → SqT K H' p (cutV xs lo hi) → Q (.ref p) H'))
theorem sl_any (h : X.K = K := by rfl) : SlR X (rSlAny K) := by
  subst h
  rintro pins s σ H _ v vl vu lo hi sl Q I rx hs pl pu ⟨a, xs, rfl, ⟨sq, q⟩ | ⟨sq, q⟩⟩
  · exact sl_list pins s σ H _ v vl vu lo hi sl Q I rx hs pl pu ⟨a, xs, rfl, sq, fun p hp => q p _ (Evl.Ex.new hp) (SqL.of upd_same)⟩
  by_cases c : HT.sIx xs.length 0 lo = 0 ∧ HT.sIx xs.length xs.length hi = xs.length
  · cases rx
    obtain ⟨its, r, tup, _⟩ := I.tuple sq
    have len : its.toArray.size = xs.length := by rw [List.size_toArray, r.length]
    have all : cutV xs lo hi = xs := by
      unfold cutV
      rw [c.1, c.2, List.drop_zero, Nat.sub_zero, List.take_length]
    refine ⟨"tuple", _, PyProof.Rows.slot_tuple_getitem.lookup, tup.typeIs, HT.slice_whole tup hs pl pu (by rw [len]; exact c.1) (by rw [len]; exact c.2) ⟨.ref a, H, I, rfl, q a H (Evl.Ex.refl _) (by rw [all]; exact sq)⟩⟩
  · exact sl_tup pins s σ H _ v vl vu lo hi sl Q I rx hs pl pu ⟨a, xs, rfl, sq, c, fun p hp => q p _ (Evl.Ex.new hp) (SqT.of upd_same)⟩
theorem pi_listK {tg l : Expr} {tl : TE} (h : PE X l tl) (e : X.K = K := by rfl) : PI X tg l (iList K tl) := e ▸ pi_list h
end
end G

/-! Searching a graph of neighbours: plain Lean. -/
namespace M
abbrev Rows := List (List Nat)
def at_ (F : Rows) (v : Nat) : List Nat := F[v]?.getD []
theorem at_set (F : Rows) (v w : Nat) (p : List Nat) : at_ (F.set v p) w = if v = w ∧ v < F.length then p else at_ F w := by
  unfold at_
  rw [List.getElem?_set]
  by_cases h : v = w
  · subst h
    by_cases h2 : v < F.length
    · simp [h2]
    · rw [if_pos rfl, if_neg h2, if_neg (by omega), List.getElem?_eq_none (by omega)]
  · rw [if_neg h]
    exact (if_neg (by omega)).symm
/-- a way from h to v: no house twice, neighbours in a row -/
structure Path (ls : Rows) (h v : Nat) (p : List Nat) : Prop where
  hd : p.head? = some h
  la : p.getLast? = some v
  nd : p.Nodup
  ch : ∀ i a b, p[i]? = some a → p[i + 1]? = some b → b ∈ at_ ls a
theorem Path.one (ls : Rows) (h : Nat) : Path ls h h [h] := ⟨rfl, rfl, by simp, fun i a b h1 h2 => by simp at h2⟩
theorem Path.ne {ls : Rows} {h v : Nat} {p : List Nat} (P : Path ls h v p) : p ≠ [] := fun e => by have := P.hd; rw [e] at this; cases this
theorem Path.last_mem {ls : Rows} {h v : Nat} {p : List Nat} (P : Path ls h v p) : v ∈ p := List.mem_of_getLast? P.la
theorem Path.snoc {ls : Rows} {h v w : Nat} {p : List Nat} (P : Path ls h v p) (hw : w ∈ at_ ls v) (hn : w ∉ p) : Path ls h w (p ++ [w]) := by
  have ne := P.ne
  refine ⟨?_, by simp, ?_, fun i a b h1 h2 => ?_⟩
  · rw [List.head?_append, P.hd]; rfl
  · rw [List.nodup_append]; exact ⟨P.nd, by simp, fun a ha b hb e => hn (by rw [← List.mem_singleton.mp hb, ← e]; exact ha)⟩
  · by_cases c : i + 1 < p.length
    · rw [List.getElem?_append_left c] at h2
      rw [List.getElem?_append_left (by omega)] at h1
      exact P.ch i a b h1 h2
    · have hl : i + 1 < (p ++ [w]).length := (List.getElem?_eq_some_iff.mp h2).1
      have e : i + 1 = p.length := by simp at hl; omega
      rw [List.getElem?_append_right (by omega), e] at h2
      simp at h2; subst h2
      rw [List.getElem?_append_left (by omega)] at h1
      have z := P.la
      rw [List.getLast?_eq_getElem?] at z
      rw [show p.length - 1 = i by omega, h1] at z
      cases z; exact hw
/-- all ways from h, [] where there is none -/
structure Ways (ls : Rows) (h : Nat) (F : Rows) : Prop where
  len : F.length = ls.length
  st : at_ F h = [h]
  pa : ∀ v, at_ F v ≠ [] → Path ls h v (at_ F v)
  cl : ∀ v, at_ F v ≠ [] → ∀ w ∈ at_ ls v, at_ F w ≠ []
/-- while it is searched: S the houses from which it goes on -/
structure PI (ls : Rows) (h : Nat) (F : Rows) (S : List Nat) : Prop where
  len : F.length = ls.length
  st : at_ F h = [h]
  pa : ∀ v, at_ F v ≠ [] → Path ls h v (at_ F v)
  on : ∀ v, ∀ x ∈ at_ F v, at_ F x ≠ []
  sf : ∀ x ∈ S, x < ls.length ∧ at_ F x ≠ []
  sn : S.Nodup
  cl : ∀ v, at_ F v ≠ [] → v ∉ S → ∀ w ∈ at_ ls v, at_ F w ≠ []
/-- .. at the house a, whose first k neighbours are found -/
structure PJ (ls : Rows) (h a k : Nat) (F : Rows) (S : List Nat) : Prop where
  len : F.length = ls.length
  st : at_ F h = [h]
  pa : ∀ v, at_ F v ≠ [] → Path ls h v (at_ F v)
  on : ∀ v, ∀ x ∈ at_ F v, at_ F x ≠ []
  sf : ∀ x ∈ S, x < ls.length ∧ at_ F x ≠ []
  sn : S.Nodup
  al : a < ls.length
  af : at_ F a ≠ []
  cl : ∀ v, at_ F v ≠ [] → v ∉ S → v ≠ a → ∀ w ∈ at_ ls v, at_ F w ≠ []
  ak : ∀ w ∈ (at_ ls a).take k, at_ F w ≠ []
def un (F : Rows) : Nat := (F.filter (·.isEmpty)).length
theorem un_set : ∀ (F : Rows) (v : Nat) (p : List Nat), v < F.length → at_ F v = [] → p ≠ [] → un (F.set v p) + 1 = un F
  | [], v, p, h, _, _ => by simp at h
  | q :: F, 0, p, _, e, hp => by
    have e' : q = [] := by simpa [at_] using e
    subst e'
    have : p.isEmpty = false := by simpa using hp
    simp [un, this]
  | q :: F, v + 1, p, h, e, hp => by
    have ih := un_set F v p (by simpa using h) (by simpa [at_] using e) hp
    unfold un at ih ⊢
    rw [List.set_cons_succ, List.filter_cons, List.filter_cons]
    split
    · rw [List.length_cons, List.length_cons]; omega
    · omega
section
variable {ls : Rows} {h : Nat} {F : Rows} {S : List Nat}
theorem pi_start (hh : h < ls.length) : PI ls h ((List.replicate ls.length []).set h [h]) [h] := by
  have e : ∀ v, at_ ((List.replicate ls.length []).set h [h]) v = if h = v then [h] else [] := fun v => by
    rw [at_set]
    by_cases c : h = v
    · rw [if_pos ⟨c, by simpa using hh⟩, if_pos c]
    · rw [if_neg (by omega), if_neg c]
      unfold at_
      rw [List.getElem?_replicate]; split <;> rfl
  refine ⟨by simp, by rw [e, if_pos rfl], fun v hv => ?_, fun v x hx => ?_, fun x hx => ?_, by simp, fun v hv hs => ?_⟩
  · rw [e] at hv ⊢
    by_cases c : h = v
    · subst c; rw [if_pos rfl]; exact .one ls h
    · rw [if_neg c] at hv; exact absurd rfl hv
  · rw [e] at hx
    by_cases c : h = v
    · rw [if_pos c] at hx; rw [List.mem_singleton.mp hx, e, if_pos rfl]; simp
    · rw [if_neg c] at hx; cases hx
  · rw [List.mem_singleton.mp hx, e, if_pos rfl]; exact ⟨hh, by simp⟩
  · rw [e] at hv
    by_cases c : h = v
    · exact absurd (by simp [c]) hs
    · rw [if_neg c] at hv; exact absurd rfl hv
theorem pj_start {a : Nat} (p : PI ls h F (S ++ [a])) : PJ ls h a 0 F S := by
  have hn := p.sn
  rw [List.nodup_append] at hn
  obtain ⟨h1, h2⟩ := p.sf a (by simp)
  exact ⟨p.len, p.st, p.pa, p.on, fun x hx => p.sf x (by simp [hx]), hn.1, h1, h2, fun v hv hs ha => p.cl v hv (by simp [hs, ha]), by simp⟩
theorem pj_skip {a k w : Nat} (p : PJ ls h a k F S) (hw : (at_ ls a)[k]? = some w) (hf : at_ F w ≠ []) : PJ ls h a (k + 1) F S :=
  ⟨p.len, p.st, p.pa, p.on, p.sf, p.sn, p.al, p.af, p.cl, fun x hx => by
    rw [G.take_snoc' hw] at hx
    rcases List.mem_append.mp hx with z | z
    · exact p.ak x z
    · rw [List.mem_singleton.mp z]; exact hf⟩
theorem pj_add {a k w : Nat} (p : PJ ls h a k F S) (hw : (at_ ls a)[k]? = some w) (hl : w < ls.length) (hf : at_ F w = []) :
    PJ ls h a (k + 1) (F.set w (at_ F a ++ [w])) (S ++ [w]) ∧ un (F.set w (at_ F a ++ [w])) + (S ++ [w]).length = un F + S.length := by
  have wl : w < F.length := by rw [p.len]; exact hl
  have e : ∀ v, at_ (F.set w (at_ F a ++ [w])) v = if w = v then at_ F a ++ [w] else at_ F v := fun v => by
    rw [at_set]
    by_cases c : w = v
    · rw [if_pos ⟨c, wl⟩, if_pos c]
    · rw [if_neg (by omega), if_neg c]
  have old : ∀ {v}, at_ F v ≠ [] → w ≠ v := fun {v} hv c => hv (c ▸ hf)
  have up : ∀ {v}, at_ F v ≠ [] → at_ (F.set w (at_ F a ++ [w])) v ≠ [] := fun {v} hv => by rw [e, if_neg (old hv)]; exact hv
  have wn : at_ (F.set w (at_ F a ++ [w])) w ≠ [] := by rw [e, if_pos rfl]; simp
  have wp : w ∉ at_ F a := fun z => p.on a w z hf
  have wS : w ∉ S := fun z => (p.sf w z).2 hf
  have mem_a : w ∈ at_ ls a := List.mem_of_getElem? hw
  refine ⟨⟨by rw [List.length_set]; exact p.len, ?_, fun v hv => ?_, fun v x hx => ?_, fun x hx => ?_, ?_, p.al, up p.af, fun v hv hs ha => ?_, fun x hx => ?_⟩, ?_⟩
  · have : at_ F h ≠ [] := by rw [p.st]; simp
    rw [e, if_neg (old this)]; exact p.st
  · by_cases c : w = v
    · subst c; rw [e, if_pos rfl]; exact (p.pa a p.af).snoc mem_a wp
    · rw [e, if_neg c] at hv ⊢; exact p.pa v hv
  · by_cases c : w = v
    · rw [e, if_pos c] at hx
      rcases List.mem_append.mp hx with z | z
      · exact up (p.on a x z)
      · rw [List.mem_singleton.mp z]; exact wn
    · rw [e, if_neg c] at hx; exact up (p.on v x hx)
  · rcases List.mem_append.mp hx with z | z
    · exact ⟨(p.sf x z).1, up (p.sf x z).2⟩
    · rw [List.mem_singleton.mp z]; exact ⟨hl, wn⟩
  · rw [List.nodup_append]
    exact ⟨p.sn, by simp, fun a ha b hb z => wS (by rw [← List.mem_singleton.mp hb, ← z]; exact ha)⟩
  · have c : w ≠ v := fun c => hs (by simp [c])
    rw [e, if_neg c] at hv
    intro x hx
    exact up (p.cl v hv (fun z => hs (by simp [z])) ha x hx)
  · rw [G.take_snoc' hw] at hx
    rcases List.mem_append.mp hx with z | z
    · exact up (p.ak x z)
    · rw [List.mem_singleton.mp z]; exact wn
  · have := un_set F w (at_ F a ++ [w]) wl hf (by simp)
    simp only [List.length_append, List.length_cons, List.length_nil]; omega
theorem pj_end {a : Nat} (p : PJ ls h a (at_ ls a).length F S) : PI ls h F S :=
  ⟨p.len, p.st, p.pa, p.on, p.sf, p.sn, fun v hv hs => by
    by_cases c : v = a
    · subst c; intro w hw; exact p.ak w (by rw [List.take_length]; exact hw)
    · exact p.cl v hv hs c⟩
theorem pi_end (p : PI ls h F []) : Ways ls h F := ⟨p.len, p.st, p.pa, fun v hv => p.cl v hv (by simp)⟩
end
end M

/-! Ways of a graph: plain Lean. -/
namespace M
theorem Ways.along {ls F : Rows} {h v : Nat} {p : List Nat} (W : Ways ls h F) (P : Path ls h v p) : ∀ (i x : Nat), p[i]? = some x → at_ F x ≠ []
  | 0, x, e => by
    have z := P.hd
    rw [List.head?_eq_getElem?, e] at z
    cases z
    rw [W.st]; simp
  | i + 1, x, e => by
    have hi : i < p.length := by have := (List.getElem?_eq_some_iff.mp e).1; omega
    have ea : p[i]? = some p[i] := List.getElem?_eq_getElem hi
    exact W.cl _ (W.along P i _ ea) x (P.ch i _ x ea e)
/-- a way is found exactly where a path leads -/
theorem Ways.reach {ls F : Rows} {h v : Nat} {p : List Nat} (W : Ways ls h F) (P : Path ls h v p) : at_ F v ≠ [] := by
  obtain ⟨i, hi, e⟩ := List.getElem_of_mem P.last_mem
  exact W.along P i v (by rw [List.getElem?_eq_getElem hi, e])
theorem Ways.same {ls F G : Rows} {h : Nat} (W : Ways ls h F) (W' : Ways ls h G) (v : Nat) : at_ F v = [] ↔ at_ G v = [] := by
  constructor
  · intro e
    by_cases c : at_ G v = []
    · exact c
    · exact absurd e (W.reach (W'.pa v c))
  · intro e
    by_cases c : at_ F v = []
    · exact c
    · exact absurd e (W'.reach (W.pa v c))
/-- one simple path between two houses at most -/
def OneWay (ls : Rows) : Prop := ∀ h v p q, Path ls h v p → Path ls h v q → p = q
theorem Ways.eq {ls F G : Rows} {h : Nat} (u : OneWay ls) (W : Ways ls h F) (W' : Ways ls h G) : F = G := by
  refine List.ext_getElem (by rw [W.len, W'.len]) fun v h1 h2 => ?_
  have eF : at_ F v = F[v] := by unfold at_; rw [List.getElem?_eq_getElem h1]; rfl
  have eG : at_ G v = G[v] := by unfold at_; rw [List.getElem?_eq_getElem h2]; rfl
  rw [← eF, ← eG]
  by_cases c : at_ F v = []
  · rw [c, (W.same W' v).mp c]
  · exact u h v _ _ (W.pa v c) (W'.pa v fun e => c ((W.same W' v).mpr e))
end M

/-! Trees grown house by house: one way between two houses, what lies on it. Plain Lean. -/
namespace M
theorem Path.uncons {ls : Rows} {h v : Nat} {p : List Nat} (P : Path ls h v p) : (p = [h] ∧ h = v) ∨ ∃ b q, p = h :: q ∧ Path ls b v q ∧ b ∈ at_ ls h ∧ h ∉ q := by
  obtain ⟨hd, la, nd, ch⟩ := P
  match p, hd with
  | [x], e =>
    cases e
    cases la
    exact .inl ⟨rfl, rfl⟩
  | x :: b :: q, e =>
    cases e
    refine .inr ⟨b, b :: q, rfl, ⟨rfl, by simpa using la, (List.nodup_cons.mp nd).2, fun i a c h1 h2 => ?_⟩, ch 0 _ _ rfl rfl, (List.nodup_cons.mp nd).1⟩
    exact ch (i + 1) a c (by simpa using h1) (by simpa using h2)
theorem Path.cons {ls : Rows} {h b v : Nat} {q : List Nat} (P : Path ls b v q) (e : b ∈ at_ ls h) (n : h ∉ q) : Path ls h v (h :: q) := by
  have ne := P.ne
  have qd := P.hd
  match q, ne, qd with
  | x :: q, _, qd =>
    cases qd
    refine ⟨rfl, by simpa using P.la, List.nodup_cons.mpr ⟨n, P.nd⟩, fun i a c h1 h2 => ?_⟩
    cases i with
    | zero => cases h1; cases h2; exact e
    | succ i => exact P.ch i a c (by simpa using h1) (by simpa using h2)
/-- the way back -/
theorem Path.rev {ls : Rows} (sym : ∀ a b, b ∈ at_ ls a → a ∈ at_ ls b) {h v : Nat} {p : List Nat} (P : Path ls h v p) : Path ls v h p.reverse := by
  refine ⟨by rw [List.head?_reverse, P.la], by rw [List.getLast?_reverse, P.hd], List.pairwise_reverse.mpr (P.nd.imp fun z => z.symm), fun i a b h1 h2 => ?_⟩
  have l2 := (List.getElem?_eq_some_iff.mp h2).1
  rw [List.length_reverse] at l2
  rw [List.getElem?_reverse (by omega)] at h1 h2
  refine sym _ _ (P.ch (p.length - 1 - (i + 1)) b a h2 ?_)
  rw [← h1]; congr 1; omega
/-- each house but the first hangs at one of lower rank -/
structure Ranked (ls : Rows) (r : Nat → Nat) : Prop where
  sym : ∀ a b, b ∈ at_ ls a → a ∈ at_ ls b
  ne : ∀ a b, b ∈ at_ ls a → r a ≠ r b
  one : ∀ a b c, b ∈ at_ ls a → c ∈ at_ ls a → r b < r a → r c < r a → b = c
theorem Ranked.rise {ls : Rows} {r : Nat → Nat} (R : Ranked ls r) : ∀ (q : List Nat) (h b v : Nat), Path ls b v q → b ∈ at_ ls h → h ∉ q → r h < r b → r b ≤ r v
  | [], _, _, _, P, _, _, _ => absurd rfl P.ne
  | x :: q, h, b, v, P, e, n, lt => by
    rcases P.uncons with ⟨_, rfl⟩ | ⟨c, q', eq, P', e', n'⟩
    · exact Nat.le_refl _
    · cases eq
      have hc : h ≠ c := by
        rintro rfl
        exact n (List.mem_cons_of_mem _ (List.mem_of_mem_head? P'.hd))
      have up : r x < r c := by
        rcases Nat.lt_trichotomy (r x) (r c) with z | z | z
        · exact z
        · exact absurd z (R.ne _ _ e')
        · exact absurd (R.one x h c (R.sym _ _ e) e' lt z) hc
      exact Nat.le_of_lt (Nat.lt_of_lt_of_le up (R.rise q x c v P' e' n' up))
theorem Ranked.down {ls : Rows} {r : Nat → Nat} (R : Ranked ls r) {q : List Nat} {h b v : Nat} (P : Path ls b v q) (e : b ∈ at_ ls h) (n : h ∉ q) (le : r v ≤ r h) : r b < r h := by
  rcases Nat.lt_trichotomy (r b) (r h) with z | z | z
  · exact z
  · exact absurd z.symm (R.ne _ _ e)
  · have := R.rise q h b v P e n z
    omega
theorem Ranked.oneWay {ls : Rows} {r : Nat → Nat} (R : Ranked ls r) : OneWay ls := by
  have main : ∀ (N h v : Nat) (p q : List Nat), r h + r v ≤ N → r v ≤ r h → Path ls h v p → Path ls h v q → p = q := by
    intro N
    induction N with
    | zero =>
      intro h v p q hN le P Q
      rcases P.uncons with ⟨rfl, rfl⟩ | ⟨b, p', rfl, P', e, n⟩
      · rcases Q.uncons with ⟨rfl, _⟩ | ⟨c, q', rfl, Q', e', n'⟩
        · rfl
        · exact absurd Q'.last_mem n'
      · have := R.down P' e n le; omega
    | succ N ih =>
      intro h v p q hN le P Q
      rcases P.uncons with ⟨rfl, rfl⟩ | ⟨b, p', rfl, P', e, n⟩
      · rcases Q.uncons with ⟨rfl, _⟩ | ⟨c, q', rfl, Q', e', n'⟩
        · rfl
        · exact absurd Q'.last_mem n'
      rcases Q.uncons with ⟨rfl, rfl⟩ | ⟨c, q', rfl, Q', e', n'⟩
      · exact absurd P'.last_mem n
      have d1 := R.down P' e n le
      have d2 := R.down Q' e' n' le
      obtain rfl := R.one h b c e e' d1 d2
      congr 1
      by_cases c2 : r v ≤ r b
      · exact ih b v p' q' (by omega) c2 P' Q'
      · have z := ih v b p'.reverse q'.reverse (by omega) (by omega) (P'.rev R.sym) (Q'.rev R.sym)
        simpa using congrArg List.reverse z
  intro h v p q P Q
  by_cases c : r v ≤ r h
  · exact main _ h v p q (Nat.le_refl _) c P Q
  · have z := main _ v h p.reverse q.reverse (Nat.le_refl _) (by omega) (P.rev R.sym) (Q.rev R.sym)
    simpa using congrArg List.reverse z
/-! ### walks -/
inductive Walk (ls : Rows) : Nat → Nat → List Nat → Prop
  | one (h : Nat) : Walk ls h h [h]
  | cons {h b v : Nat} {q : List Nat} (e : b ∈ at_ ls h) (w : Walk ls b v q) : Walk ls h v (h :: q)
theorem Path.walk {ls : Rows} : ∀ {p : List Nat} {h v : Nat}, Path ls h v p → Walk ls h v p
  | [], _, _, P => absurd rfl P.ne
  | x :: p, h, v, P => by
    rcases P.uncons with ⟨e, rfl⟩ | ⟨b, q, e, P', e', _⟩
    · rw [e]; exact .one h
    · cases e; exact .cons e' P'.walk
/-- the rest of a path from a house on it -/
theorem Path.from_ {ls : Rows} : ∀ {p : List Nat} {h v x : Nat}, Path ls h v p → x ∈ p → ∃ p1 p2, p = p1 ++ x :: p2 ∧ Path ls x v (x :: p2)
  | [], _, _, _, P, _ => absurd rfl P.ne
  | y :: p, h, v, x, P, hx => by
    have ey : y = h := by have z := P.hd; cases z; rfl
    subst ey
    by_cases c : x = y
    · subst c; exact ⟨[], p, rfl, P⟩
    · rcases P.uncons with ⟨e, _⟩ | ⟨b, q, e, P', _, _⟩
      · cases e; simp [c] at hx
      · cases e
        obtain ⟨p1, p2, e2, P2⟩ := P'.from_ (x := x) (by simpa [c] using hx)
        exact ⟨y :: p1, p2, by rw [e2]; rfl, P2⟩
theorem Walk.path {ls : Rows} {h v : Nat} {q : List Nat} (w : Walk ls h v q) : ∃ p, Path ls h v p ∧ ∀ x ∈ p, x ∈ q := by
  induction w with
  | one h => exact ⟨[h], Path.one ls h, fun _ m => m⟩
  | @cons h b v q e w ih =>
    obtain ⟨p, P, sub⟩ := ih
    by_cases c : h ∈ p
    · obtain ⟨p1, p2, e2, P2⟩ := P.from_ c
      refine ⟨_, P2, fun x m => ?_⟩
      rcases List.mem_cons.mp m with rfl | m
      · exact List.mem_cons_self
      · exact List.mem_cons_of_mem _ (sub x (by rw [e2]; simp [m]))
    · refine ⟨_, P.cons e c, fun x m => ?_⟩
      rcases List.mem_cons.mp m with rfl | m
      · exact List.mem_cons_self
      · exact List.mem_cons_of_mem _ (sub x m)
theorem Walk.join {ls : Rows} {h v u : Nat} {p q : List Nat} (w : Walk ls h v p) (w' : Walk ls v u q) : ∃ z, Walk ls h u z ∧ ∀ x ∈ z, x ∈ p ∨ x ∈ q := by
  induction w with
  | one h => exact ⟨q, w', fun x m => .inr m⟩
  | @cons h b v p e w ih =>
    obtain ⟨z, wz, sub⟩ := ih w'
    refine ⟨h :: z, .cons e wz, fun x m => ?_⟩
    rcases List.mem_cons.mp m with rfl | m
    · exact .inl List.mem_cons_self
    · exact (sub x m).imp (List.mem_cons_of_mem _) id
/-- a house on the way from i to j lies on the way from h to i or on that from h to j -/
theorem OneWay.between {ls : Rows} (u : OneWay ls) (sym : ∀ a b, b ∈ at_ ls a → a ∈ at_ ls b) {h i j : Nat} {p q r : List Nat} (P : Path ls h i p) (Q : Path ls h j q) (R : Path ls i j r) : ∀ x ∈ r, x ∈ p ∨ x ∈ q := by
  obtain ⟨z, wz, sub⟩ := (P.rev sym).walk.join Q.walk
  obtain ⟨r', R', sub'⟩ := wz.path
  obtain rfl := u _ _ _ _ R R'
  intro x m
  exact (sub x (sub' x m)).imp List.mem_reverse.mp id
/-- the last item with a property -/
theorem last_with (f : Nat → Prop) [DecidablePred f] : ∀ (l : List Nat), (∃ x ∈ l, f x) → ∃ l1 x l2, l = l1 ++ x :: l2 ∧ f x ∧ ∀ y ∈ l2, ¬ f y
  | [], ⟨_, m, _⟩ => absurd m List.not_mem_nil
  | a :: l, h => by
    by_cases c : ∃ x ∈ l, f x
    · obtain ⟨l1, x, l2, e, fx, n⟩ := last_with f l c
      exact ⟨a :: l1, x, l2, by rw [e]; rfl, fx, n⟩
    · obtain ⟨x, m, fx⟩ := h
      rcases List.mem_cons.mp m with rfl | m
      · exact ⟨[], x, l, rfl, fx, fun y m fy => c ⟨y, m, fy⟩⟩
      · exact absurd ⟨x, m, fx⟩ c
theorem Path.glue {ls : Rows} {x k : Nat} {r : List Nat} (R : Path ls x k (x :: r)) : ∀ {s : List Nat} {j : Nat}, Path ls j x (s ++ [x]) → (∀ y ∈ s, y ∉ x :: r) → Path ls j k (s ++ x :: r)
  | [], j, P, _ => by
    have z := P.hd
    cases z
    exact R
  | y :: s, j, P, n => by
    have z := P.hd
    cases z
    rcases P.uncons with ⟨e, _⟩ | ⟨b, q, e, P', e', n'⟩
    · have := congrArg List.length e
      simp at this
    · have eq : s ++ [x] = q := (List.cons.inj e).2
      subst eq
      refine (Path.glue R P' fun w m => n w (List.mem_cons_of_mem _ m)).cons e' fun m => ?_
      rcases List.mem_append.mp m with m | m
      · exact n' (List.mem_append_left _ m)
      · exact n y List.mem_cons_self m
/-- three ways between three houses have a house in common -/
theorem OneWay.median {ls : Rows} (u : OneWay ls) (sym : ∀ a b, b ∈ at_ ls a → a ∈ at_ ls b) {i j k : Nat} {p q r : List Nat} (P : Path ls i j p) (Q : Path ls j k q) (R : Path ls i k r) : ∃ x ∈ p, x ∈ q ∧ x ∈ r := by
  have hi : i ∈ p := List.mem_of_mem_head? P.hd
  have hr : i ∈ r := List.mem_of_mem_head? R.hd
  obtain ⟨p1, x, p2, ep, hx, no⟩ := last_with (· ∈ r) p ⟨i, hi, hr⟩
  have mx : x ∈ p := by rw [ep]; simp
  obtain ⟨a1, a2, ea, A⟩ := P.from_ mx
  obtain ⟨b1, b2, eb, B⟩ := R.from_ hx
  -- the rest of p behind x
  have e2 : a2 = p2 := by
    have nd := P.nd
    have h : a1 ++ x :: a2 = p1 ++ x :: p2 := ea.symm.trans ep
    have n1 : x ∉ a1 := by
      rw [ea, List.nodup_append] at nd
      exact fun m => nd.2.2 x m x List.mem_cons_self rfl
    have nd' := P.nd
    have n2 : x ∉ p1 := by
      rw [ep, List.nodup_append] at nd'
      exact fun m => nd'.2.2 x m x List.mem_cons_self rfl
    have cut : ∀ (l m : List Nat), x ∉ l → (l ++ x :: m).dropWhile (fun y => y != x) = x :: m := by
      intro l m nl
      induction l with
      | nil => simp
      | cons c l ih =>
        have : c ≠ x := fun e => nl (by simp [e])
        simp only [List.cons_append, List.dropWhile_cons, bne_iff_ne, ne_eq, this, not_false_eq_true, if_true]
        exact ih fun m => nl (List.mem_cons_of_mem _ m)
    have z := congrArg (List.dropWhile (fun y => y != x)) h
    rw [cut _ _ n1, cut _ _ n2] at z
    exact (List.cons.inj z).2
  subst e2
  have A' : Path ls j x (a2.reverse ++ [x]) := by simpa using A.rev sym
  have G := Path.glue B A' fun y m m' => by
    refine no y (List.mem_reverse.mp m) ?_
    rw [eb]; exact List.mem_append_right _ m'
  refine ⟨x, mx, ?_, hx⟩
  rw [u _ _ _ _ Q G]
  simp
end M

namespace T1
open PySem PySem.Spec PyProof.Rows L2 G
def top (i : Nat) : Stmt := PySem.Challenge.pw_looksleft_k01_trees.main.body.getD i (.Pass ⟨0, 0, 0, 0⟩)
abbrev st__wall : Stmt := top 0
abbrev st_InvalidHouses___init__ : Stmt := inClass (top 3) 0
abbrev st_InvalidRoads___init__ : Stmt := inClass (top 4) 0
abbrev st_InvalidHouse___init__ : Stmt := inClass (top 5) 0
abbrev st_InvalidHouseList___init__ : Stmt := inClass (top 6) 0
abbrev st_InvalidHomes___init__ : Stmt := inClass (top 7) 0
abbrev st_InvalidCells___init__ : Stmt := inClass (top 8) 0
abbrev st_NotJoined___init__ : Stmt := inClass (top 9) 0
abbrev st_NotARoad___init__ : Stmt := inClass (top 10) 0
abbrev st_is_integer : Stmt := top 12
abbrev st_is_index : Stmt := top 13
abbrev st_is_list : Stmt := top 14
abbrev st_are_indices : Stmt := top 15
abbrev st_is_road : Stmt := top 18
abbrev st_are_roads : Stmt := top 19
abbrev st_joined_by : Stmt := top 20
abbrev st_ways_from : Stmt := top 21
abbrev st_Tree___init__ : Stmt := inClass (top 22) 0
abbrev st_Tree___eq__ : Stmt := inClass (top 22) 1
abbrev st_Tree___len__ : Stmt := inClass (top 22) 2
abbrev st_Tree___contains__ : Stmt := inClass (top 22) 3
abbrev st_Tree_line : Stmt := inClass (top 22) 4
abbrev st_check_house : Stmt := top 23
abbrev st_check_road : Stmt := top 24
abbrev st_neighbours : Stmt := top 25
abbrev st_ends : Stmt := top 26
abbrev st_way : Stmt := top 27
abbrev st_distance : Stmt := top 28
abbrev st_middle : Stmt := top 29
abbrev st_on_way : Stmt := top 30
abbrev st_side : Stmt := top 31
abbrev st_span : Stmt := top 32
abbrev st_Store___init__ : Stmt := inClass (top 36) 0
abbrev st_Store___eq__ : Stmt := inClass (top 36) 1
abbrev st_Store___len__ : Stmt := inClass (top 36) 2
abbrev st_Store_line : Stmt := inClass (top 36) 3
abbrev st__law_cell : Stmt := top 38
abbrev st__law_box : Stmt := top 39
abbrev st__law_take : Stmt := top 40
abbrev st__law_mixed : Stmt := top 41
abbrev st__law_world : Stmt := top 42
abbrev st__law_from : Stmt := top 43
abbrev st__law_index : Stmt := top 44
abbrev st__law_is_pair : Stmt := top 45
abbrev st__law_are_pairs : Stmt := top 46
abbrev st__law_made : Stmt := top 47
abbrev st__law_made_due : Stmt := top 48
abbrev st__law_odd_pair : Stmt := top 49
abbrev st__law_odd_pairs : Stmt := top 50
abbrev st__law_made_right : Stmt := top 51
abbrev st__law_two_wrongs_right : Stmt := top 52
abbrev st__law_asked : Stmt := top 53
abbrev st__law_span : Stmt := top 54
abbrev st__law_due : Stmt := top 55
abbrev st__law_pick : Stmt := top 56
abbrev st__law_things : Stmt := top 57
abbrev st__law_questions_right : Stmt := top 58
abbrev st__law_all_right : Stmt := top 59
abbrev st__law_other : Stmt := top 60
abbrev st__law_equal_right : Stmt := top 61
abbrev st__law_fields_right : Stmt := top 62
abbrev st_law : Stmt := top 63
def dfn_0 : List He.DefD := [
  ⟨("_wall", none), "_wall", "_wall", defArgs st__wall, defBody st__wall, defScope st__wall, [], []⟩,
  ⟨("InvalidHouses", some "__init__"), "__init__", "InvalidHouses.__init__", defArgs st_InvalidHouses___init__, defBody st_InvalidHouses___init__, defScope st_InvalidHouses___init__, [], []⟩,
  ⟨("InvalidRoads", some "__init__"), "__init__", "InvalidRoads.__init__", defArgs st_InvalidRoads___init__, defBody st_InvalidRoads___init__, defScope st_InvalidRoads___init__, [], []⟩,
  ⟨("InvalidHouse", some "__init__"), "__init__", "InvalidHouse.__init__", defArgs st_InvalidHouse___init__, defBody st_InvalidHouse___init__, defScope st_InvalidHouse___init__, [], []⟩,
  ⟨("InvalidHouseList", some "__init__"), "__init__", "InvalidHouseList.__init__", defArgs st_InvalidHouseList___init__, defBody st_InvalidHouseList___init__, defScope st_InvalidHouseList___init__, [], []⟩,
  ⟨("InvalidHomes", some "__init__"), "__init__", "InvalidHomes.__init__", defArgs st_InvalidHomes___init__, defBody st_InvalidHomes___init__, defScope st_InvalidHomes___init__, [], []⟩,
  ⟨("InvalidCells", some "__init__"), "__init__", "InvalidCells.__init__", defArgs st_InvalidCells___init__, defBody st_InvalidCells___init__, defScope st_InvalidCells___init__, [], []⟩,
  ⟨("NotJoined", some "__init__"), "__init__", "NotJoined.__init__", defArgs st_NotJoined___init__, defBody st_NotJoined___init__, defScope st_NotJoined___init__, [], []⟩,
  ⟨("NotARoad", some "__init__"), "__init__", "NotARoad.__init__", defArgs st_NotARoad___init__, defBody st_NotARoad___init__, defScope st_NotARoad___init__, [], []⟩,
  ⟨("is_integer", none), "is_integer", "is_integer", defArgs st_is_integer, defBody st_is_integer, defScope st_is_integer, [], []⟩,
  ⟨("is_index", none), "is_index", "is_index", defArgs st_is_index, defBody st_is_index, defScope st_is_index, [], []⟩,
  ⟨("is_list", none), "is_list", "is_list", defArgs st_is_list, defBody st_is_list, defScope st_is_list, [], []⟩,
  ⟨("are_indices", none), "are_indices", "are_indices", defArgs st_are_indices, defBody st_are_indices, defScope st_are_indices, [], []⟩,
  ⟨("is_road", none), "is_road", "is_road", defArgs st_is_road, defBody st_is_road, defScope st_is_road, [], []⟩,
  ⟨("are_roads", none), "are_roads", "are_roads", defArgs st_are_roads, defBody st_are_roads, defScope st_are_roads, [], []⟩,
  ⟨("joined_by", none), "joined_by", "joined_by", defArgs st_joined_by, defBody st_joined_by, defScope st_joined_by, [], []⟩,
  ⟨("ways_from", none), "ways_from", "ways_from", defArgs st_ways_from, defBody st_ways_from, defScope st_ways_from, [], []⟩,
  ⟨("Tree", some "__init__"), "__init__", "Tree.__init__", defArgs st_Tree___init__, defBody st_Tree___init__, defScope st_Tree___init__, [], []⟩,
  ⟨("Tree", some "__eq__"), "__eq__", "Tree.__eq__", defArgs st_Tree___eq__, defBody st_Tree___eq__, defScope st_Tree___eq__, [], []⟩,
  ⟨("Tree", some "__len__"), "__len__", "Tree.__len__", defArgs st_Tree___len__, defBody st_Tree___len__, defScope st_Tree___len__, [], []⟩,
  ⟨("Tree", some "__contains__"), "__contains__", "Tree.__contains__", defArgs st_Tree___contains__, defBody st_Tree___contains__, defScope st_Tree___contains__, [], []⟩,
  ⟨("Tree", some "line"), "line", "Tree.line", defArgs st_Tree_line, defBody st_Tree_line, defScope st_Tree_line, [], []⟩,
  ⟨("check_house", none), "check_house", "check_house", defArgs st_check_house, defBody st_check_house, defScope st_check_house, [], []⟩,
  ⟨("check_road", none), "check_road", "check_road", defArgs st_check_road, defBody st_check_road, defScope st_check_road, [], []⟩,
  ⟨("neighbours", none), "neighbours", "neighbours", defArgs st_neighbours, defBody st_neighbours, defScope st_neighbours, [], []⟩]
def dfn_1 : List He.DefD := [
  ⟨("ends", none), "ends", "ends", defArgs st_ends, defBody st_ends, defScope st_ends, [], []⟩,
  ⟨("way", none), "way", "way", defArgs st_way, defBody st_way, defScope st_way, [], []⟩,
  ⟨("distance", none), "distance", "distance", defArgs st_distance, defBody st_distance, defScope st_distance, [], []⟩,
  ⟨("middle", none), "middle", "middle", defArgs st_middle, defBody st_middle, defScope st_middle, [], []⟩,
  ⟨("on_way", none), "on_way", "on_way", defArgs st_on_way, defBody st_on_way, defScope st_on_way, [], []⟩,
  ⟨("side", none), "side", "side", defArgs st_side, defBody st_side, defScope st_side, [], []⟩,
  ⟨("span", none), "span", "span", defArgs st_span, defBody st_span, defScope st_span, [], []⟩,
  ⟨("Store", some "__init__"), "__init__", "Store.__init__", defArgs st_Store___init__, defBody st_Store___init__, defScope st_Store___init__, [], [("cells", .non)]⟩,
  ⟨("Store", some "__eq__"), "__eq__", "Store.__eq__", defArgs st_Store___eq__, defBody st_Store___eq__, defScope st_Store___eq__, [], []⟩,
  ⟨("Store", some "__len__"), "__len__", "Store.__len__", defArgs st_Store___len__, defBody st_Store___len__, defScope st_Store___len__, [], []⟩,
  ⟨("Store", some "line"), "line", "Store.line", defArgs st_Store_line, defBody st_Store_line, defScope st_Store_line, [], []⟩,
  ⟨("_law_cell", none), "_law_cell", "_law_cell", defArgs st__law_cell, defBody st__law_cell, defScope st__law_cell, [], []⟩,
  ⟨("_law_box", none), "_law_box", "_law_box", defArgs st__law_box, defBody st__law_box, defScope st__law_box, [], []⟩,
  ⟨("_law_take", none), "_law_take", "_law_take", defArgs st__law_take, defBody st__law_take, defScope st__law_take, [], []⟩,
  ⟨("_law_mixed", none), "_law_mixed", "_law_mixed", defArgs st__law_mixed, defBody st__law_mixed, defScope st__law_mixed, [], []⟩,
  ⟨("_law_world", none), "_law_world", "_law_world", defArgs st__law_world, defBody st__law_world, defScope st__law_world, [], []⟩,
  ⟨("_law_from", none), "_law_from", "_law_from", defArgs st__law_from, defBody st__law_from, defScope st__law_from, [], []⟩,
  ⟨("_law_index", none), "_law_index", "_law_index", defArgs st__law_index, defBody st__law_index, defScope st__law_index, [], []⟩,
  ⟨("_law_is_pair", none), "_law_is_pair", "_law_is_pair", defArgs st__law_is_pair, defBody st__law_is_pair, defScope st__law_is_pair, [], []⟩,
  ⟨("_law_are_pairs", none), "_law_are_pairs", "_law_are_pairs", defArgs st__law_are_pairs, defBody st__law_are_pairs, defScope st__law_are_pairs, [], []⟩,
  ⟨("_law_made", none), "_law_made", "_law_made", defArgs st__law_made, defBody st__law_made, defScope st__law_made, [], []⟩,
  ⟨("_law_made_due", none), "_law_made_due", "_law_made_due", defArgs st__law_made_due, defBody st__law_made_due, defScope st__law_made_due, [], []⟩,
  ⟨("_law_odd_pair", none), "_law_odd_pair", "_law_odd_pair", defArgs st__law_odd_pair, defBody st__law_odd_pair, defScope st__law_odd_pair, [], []⟩,
  ⟨("_law_odd_pairs", none), "_law_odd_pairs", "_law_odd_pairs", defArgs st__law_odd_pairs, defBody st__law_odd_pairs, defScope st__law_odd_pairs, [], []⟩,
  ⟨("_law_made_right", none), "_law_made_right", "_law_made_right", defArgs st__law_made_right, defBody st__law_made_right, defScope st__law_made_right, [], []⟩]
def dfn_2 : List He.DefD := [
  ⟨("_law_two_wrongs_right", none), "_law_two_wrongs_right", "_law_two_wrongs_right", defArgs st__law_two_wrongs_right, defBody st__law_two_wrongs_right, defScope st__law_two_wrongs_right, [], []⟩,
  ⟨("_law_asked", none), "_law_asked", "_law_asked", defArgs st__law_asked, defBody st__law_asked, defScope st__law_asked, [], []⟩,
  ⟨("_law_span", none), "_law_span", "_law_span", defArgs st__law_span, defBody st__law_span, defScope st__law_span, [], []⟩,
  ⟨("_law_due", none), "_law_due", "_law_due", defArgs st__law_due, defBody st__law_due, defScope st__law_due, [], []⟩,
  ⟨("_law_pick", none), "_law_pick", "_law_pick", defArgs st__law_pick, defBody st__law_pick, defScope st__law_pick, [], []⟩,
  ⟨("_law_things", none), "_law_things", "_law_things", defArgs st__law_things, defBody st__law_things, defScope st__law_things, [], []⟩,
  ⟨("_law_questions_right", none), "_law_questions_right", "_law_questions_right", defArgs st__law_questions_right, defBody st__law_questions_right, defScope st__law_questions_right, [], []⟩,
  ⟨("_law_all_right", none), "_law_all_right", "_law_all_right", defArgs st__law_all_right, defBody st__law_all_right, defScope st__law_all_right, [], []⟩,
  ⟨("_law_other", none), "_law_other", "_law_other", defArgs st__law_other, defBody st__law_other, defScope st__law_other, [], []⟩,
  ⟨("_law_equal_right", none), "_law_equal_right", "_law_equal_right", defArgs st__law_equal_right, defBody st__law_equal_right, defScope st__law_equal_right, [], []⟩,
  ⟨("_law_fields_right", none), "_law_fields_right", "_law_fields_right", defArgs st__law_fields_right, defBody st__law_fields_right, defScope st__law_fields_right, [], []⟩,
  ⟨("law", none), "law", "law", defArgs st_law, defBody st_law, defScope st_law, [], []⟩]
def dfn : List He.DefD := dfn_0 ++ dfn_1 ++ dfn_2
def dfa_0 : List He.Fa := [
  .glo "LeftError",
  .glo "InvalidHouses",
  .glo "InvalidRoads",
  .glo "InvalidHouse",
  .glo "InvalidHouseList",
  .glo "InvalidHomes",
  .glo "InvalidCells",
  .glo "NotJoined",
  .glo "NotARoad",
  .glo "Tree",
  .glo "Store",
  .glo "_wall",
  .glo "is_integer",
  .glo "is_index",
  .glo "is_list",
  .glo "are_indices",
  .glo "is_road",
  .glo "are_roads",
  .glo "joined_by",
  .glo "ways_from",
  .glo "check_house",
  .glo "check_road",
  .glo "neighbours",
  .glo "ends",
  .glo "way",
  .glo "distance",
  .glo "middle",
  .glo "on_way",
  .glo "side",
  .glo "span"]
def dfa_1 : List He.Fa := [
  .glo "_law_cell",
  .glo "_law_box",
  .glo "_law_take",
  .glo "_law_mixed",
  .glo "_law_world",
  .glo "_law_from",
  .glo "_law_index",
  .glo "_law_is_pair",
  .glo "_law_are_pairs",
  .glo "_law_made",
  .glo "_law_made_due",
  .glo "_law_odd_pair",
  .glo "_law_odd_pairs",
  .glo "_law_made_right",
  .glo "_law_two_wrongs_right",
  .glo "_law_asked",
  .glo "_law_span",
  .glo "_law_due",
  .glo "_law_pick",
  .glo "_law_things",
  .glo "_law_questions_right",
  .glo "_law_all_right",
  .glo "_law_other",
  .glo "_law_equal_right",
  .glo "_law_fields_right",
  .glo "law",
  .free "ValueError",
  .free "abs",
  .free "all",
  .free "bool"]
def dfa_2 : List He.Fa := [
  .free "enumerate",
  .free "int",
  .free "isinstance",
  .free "len",
  .free "list",
  .free "max",
  .free "min",
  .free "range",
  .free "repr",
  .free "sorted",
  .free "sum",
  .free "tuple",
  .int "MOST_HOUSES" 16,
  .int "MOST_WRITES" 12,
  .int "CELLS" 6,
  .cls "Tree",
  .mkr "Tree",
  .meth "Tree" "__eq__",
  .meth "Tree" "__len__",
  .meth "Tree" "__contains__",
  .meth "Tree" "line",
  .noat "Tree" "houses",
  .noat "Tree" "near",
  .noat "Tree" "roads",
  .noat "Tree" "ways",
  .cls "Store",
  .mkr "Store",
  .meth "Store" "__eq__",
  .meth "Store" "__len__",
  .meth "Store" "line"]
def dfa_3 : List He.Fa := [
  .noat "Store" "cells",
  .noat "Store" "homes",
  .noat "Store" "tree"]
def dfa : List He.Fa := dfa_0 ++ dfa_1 ++ dfa_2 ++ dfa_3
def errs : List (Str × List Str) := [("InvalidHouses", ["given"]), ("InvalidRoads", ["given"]), ("InvalidHouse", ["given"]), ("InvalidHouseList", ["given"]), ("InvalidHomes", ["given"]), ("InvalidCells", ["given"]), ("NotJoined", ["house"]), ("NotARoad", ["u", "v"])]
def excs : List Str := ["InvalidHouses", "InvalidRoads", "InvalidHouse", "InvalidHouseList", "InvalidHomes", "InvalidCells", "NotJoined", "NotARoad", "LeftError"]
/-- which error an except clause takes -/
def exmB (K : PySem.W.Frag) : Bool := errs.all fun p => excs.all fun y => decide (PySem.W.exmOne K (.ref (He.ga K p.1)) (.ref (He.ga K y)) = some (decide (p.1 = y) || decide (y = "LeftError")))
def owns : List Str := ["Tree", "Store"]
def more (K : PySem.W.Frag) : Bool := smB K && (parB K && (errs.all (errB K) && (exmB K && owns.all (ownB owns K))))
abbrev Says (K : PySem.W.Frag) : Prop := SaysM dfa dfn more K
abbrev R : PySem.W.OpenRow := PySem.W.OpenLaw.row PySem.Challenge.rw_looksleft_k01_trees
abbrev hk : PySem.W.Hook := hookM 6 dfa dfn more
def ob (s : PySem.W.SharedT) : AlM := obM 6 dfa dfn more s
theorem ob_eq (s : PySem.W.SharedT) : ob s = hk.obs s.abs := obM_eq 6 dfa dfn more s
def names0 : List Str := ["_wall", "LeftError", "InvalidHouses", "InvalidRoads", "InvalidHouse", "InvalidHouseList", "InvalidHomes", "InvalidCells", "NotJoined", "NotARoad", "is_integer", "is_index", "is_list", "are_indices", "MOST_HOUSES", "is_road", "are_roads", "joined_by", "ways_from", "Tree", "check_house", "check_road", "neighbours", "ends", "way", "distance", "middle", "on_way", "side", "span"]
def names1 : List Str := ["MOST_WRITES", "CELLS", "Store", "_law_cell", "_law_box", "_law_take", "_law_mixed", "_law_world", "_law_from", "_law_index", "_law_is_pair", "_law_are_pairs", "_law_made", "_law_made_due", "_law_odd_pair", "_law_odd_pairs", "_law_made_right", "_law_two_wrongs_right", "_law_asked", "_law_span", "_law_due", "_law_pick", "_law_things", "_law_questions_right", "_law_all_right", "_law_other", "_law_equal_right", "_law_fields_right"]
def names : List Str := names0 ++ names1
theorem run (w : World) : HandSHeadRun.RunEq R (PySem.W.view R.prog [63]) hk ob 30000 names w := by
  intro os
  kernel_rfl
def globs_0 : List Str := ["LeftError", "InvalidHouses", "InvalidRoads", "InvalidHouse", "InvalidHouseList", "InvalidHomes", "InvalidCells", "NotJoined", "NotARoad", "Tree", "Store", "_wall", "is_integer", "is_index", "is_list", "are_indices", "is_road", "are_roads", "joined_by", "ways_from", "check_house", "check_road", "neighbours", "ends", "way", "distance", "middle", "on_way", "side", "span"]
def globs_1 : List Str := ["_law_cell", "_law_box", "_law_take", "_law_mixed", "_law_world", "_law_from", "_law_index", "_law_is_pair", "_law_are_pairs", "_law_made", "_law_made_due", "_law_odd_pair", "_law_odd_pairs", "_law_made_right", "_law_two_wrongs_right", "_law_asked", "_law_span", "_law_due", "_law_pick", "_law_things", "_law_questions_right", "_law_all_right", "_law_other", "_law_equal_right", "_law_fields_right", "law"]
def globs : List Str := globs_0 ++ globs_1
def frees_0 : List Str := ["ValueError", "abs", "all", "bool", "enumerate", "int", "isinstance", "len", "list", "max", "min", "range", "repr", "sorted", "sum", "tuple"]
def frees : List Str := frees_0
structure Tx (K : PySem.W.Frag) (mg : Str → Option Value) : Prop where
  s : Says K
  glo : ∀ (i : Nat) {x : Str}, globs[i]? = some x → mg x = some (.ref (He.ga K x))
  free : ∀ (i : Nat) {x : Str}, frees[i]? = some x → mg x = none
  con_MOST_HOUSES : ∃ t, mg "MOST_HOUSES" = some (.int 16 t)
  con_MOST_WRITES : ∃ t, mg "MOST_WRITES" = some (.int 12 t)
  con_CELLS : ∃ t, mg "CELLS" = some (.int 6 t)
section
variable {h : Heap} {mg : Str → Option Value} {K : PySem.W.Frag}
theorem glo_at (X : K.In h) (G : h.Ns mainGlobals mg) : ∀ (l : List Str), (l.map He.Fa.glo).all (fun f => f.ok K) = true → ∀ (i : Nat) {x : Str}, l[i]? = some x → mg x = some (.ref (He.ga K x))
  | [], _, i, x, e => by simp at e
  | a :: l, c, 0, x, e => by
    simp at e; subst e
    simp only [List.map_cons, List.all_cons, Bool.and_eq_true] at c
    exact He.glo_ok X G c.1
  | a :: l, c, i + 1, x, e => by
    simp only [List.map_cons, List.all_cons, Bool.and_eq_true] at c
    exact glo_at X G l c.2 i (by simpa using e)
theorem free_at (X : K.In h) (G : h.Ns mainGlobals mg) : ∀ (l : List Str), (l.map He.Fa.free).all (fun f => f.ok K) = true → ∀ (i : Nat) {x : Str}, l[i]? = some x → mg x = none
  | [], _, i, x, e => by simp at e
  | a :: l, c, 0, x, e => by
    simp at e; subst e
    simp only [List.map_cons, List.all_cons, Bool.and_eq_true] at c
    exact He.free_ok X G c.1
  | a :: l, c, i + 1, x, e => by
    simp only [List.map_cons, List.all_cons, Bool.and_eq_true] at c
    exact free_at X G l c.2 i (by simpa using e)
theorem all_dfa (c : Says K) : dfa.all (fun f => f.ok K) = true := by
  have z := (Prod.mk.inj (SaysM.d c)).1
  exact (He.ba (show (dfa.all (fun f => f.ok K) && dfn.all (fun d => d.ok K)) = true from z)).1
theorem all_sub {l : List He.Fa} (c : Says K) (n m : Nat) (e : (dfa.drop n).take m = l) : l.all (fun f => f.ok K) = true := by
  have z := all_dfa c
  rw [List.all_eq_true] at z ⊢
  intro f hf
  rw [← e] at hf
  exact z f (List.mem_of_mem_drop (List.mem_of_mem_take hf))
theorem tx_of (X : K.In h) (G : h.Ns mainGlobals mg) (c : Says K) : Tx K mg :=
  ⟨c, glo_at X G globs (all_sub c 0 56 rfl), free_at X G frees (all_sub c 56 16 rfl), (let ⟨t, z⟩ := He.int_ok X G (SaysM.d c |>.fact 72 (f := .int "MOST_HOUSES" 16) rfl); ⟨t, z⟩), (let ⟨t, z⟩ := He.int_ok X G (SaysM.d c |>.fact 73 (f := .int "MOST_WRITES" 12) rfl); ⟨t, z⟩), (let ⟨t, z⟩ := He.int_ok X G (SaysM.d c |>.fact 74 (f := .int "CELLS" 6) rfl); ⟨t, z⟩)⟩
variable (T : Tx K mg)
include T
theorem Tx.sm : Sm K := smB_ok (He.ba T.s.m).1
theorem Tx.par : ParC K mg (He.ga K "LeftError") := parB_ok (He.ba (He.ba T.s.m).2).1 (T.glo 0 rfl)
theorem Tx.err (i : Nat) {x : Str} {fs : List Str} (e : errs[i]? = some (x, fs)) : ErrF K x fs :=
  errB_ok (List.all_eq_true.mp (He.ba (He.ba (He.ba T.s.m).2).2).1 _ (List.mem_of_getElem? e))
theorem Tx.exm {x y : Str} {fs : List Str} {b : Bool} (i j : Nat) (e : errs[i]? = some (x, fs)) (e' : excs[j]? = some y) (hb : (decide (x = y) || decide (y = "LeftError")) = b) : PySem.W.exmOne K (.ref (He.ga K x)) (.ref (He.ga K y)) = some b := by
  have z := List.all_eq_true.mp (List.all_eq_true.mp (He.ba (He.ba (He.ba (He.ba T.s.m).2).2).2).1 _ (List.mem_of_getElem? e)) _ (List.mem_of_getElem? e')
  rw [of_decide_eq_true z, hb]
theorem Tx.own (i : Nat) {x : Str} (e : owns[i]? = some x) : OwnF owns K x :=
  ownB_ok (List.all_eq_true.mp (He.ba (He.ba (He.ba (He.ba T.s.m).2).2).2).2 _ (List.mem_of_getElem? e))
theorem Tx.fd (i : Nat) {d : He.DefD} (e : dfn[i]? = some d) : ∃ fd, FunD K d.name d.qual d.params d.body d.scope (d.dvs K) (d.kws K) (He.fAd K d.at_) fd := (SaysM.d T.s).def_ i e
theorem Tx.fa (i : Nat) {f : He.Fa} (e : dfa[i]? = some f) : f.ok K = true := (SaysM.d T.s).fact i e
theorem fD__wall : ∃ fd, FunD K "_wall" "_wall" (defArgs st__wall) (defBody st__wall) (defScope st__wall) [] [] (He.ga K "_wall") fd := T.fd 0 rfl
theorem fD_InvalidHouses___init__ : ∃ fd, FunD K "__init__" "InvalidHouses.__init__" (defArgs st_InvalidHouses___init__) (defBody st_InvalidHouses___init__) (defScope st_InvalidHouses___init__) [] [] (He.ma K (He.ga K "InvalidHouses") "__init__") fd := T.fd 1 rfl
theorem fD_InvalidRoads___init__ : ∃ fd, FunD K "__init__" "InvalidRoads.__init__" (defArgs st_InvalidRoads___init__) (defBody st_InvalidRoads___init__) (defScope st_InvalidRoads___init__) [] [] (He.ma K (He.ga K "InvalidRoads") "__init__") fd := T.fd 2 rfl
theorem fD_InvalidHouse___init__ : ∃ fd, FunD K "__init__" "InvalidHouse.__init__" (defArgs st_InvalidHouse___init__) (defBody st_InvalidHouse___init__) (defScope st_InvalidHouse___init__) [] [] (He.ma K (He.ga K "InvalidHouse") "__init__") fd := T.fd 3 rfl
theorem fD_InvalidHouseList___init__ : ∃ fd, FunD K "__init__" "InvalidHouseList.__init__" (defArgs st_InvalidHouseList___init__) (defBody st_InvalidHouseList___init__) (defScope st_InvalidHouseList___init__) [] [] (He.ma K (He.ga K "InvalidHouseList") "__init__") fd := T.fd 4 rfl
theorem fD_InvalidHomes___init__ : ∃ fd, FunD K "__init__" "InvalidHomes.__init__" (defArgs st_InvalidHomes___init__) (defBody st_InvalidHomes___init__) (defScope st_InvalidHomes___init__) [] [] (He.ma K (He.ga K "InvalidHomes") "__init__") fd := T.fd 5 rfl
theorem fD_InvalidCells___init__ : ∃ fd, FunD K "__init__" "InvalidCells.__init__" (defArgs st_InvalidCells___init__) (defBody st_InvalidCells___init__) (defScope st_InvalidCells___init__) [] [] (He.ma K (He.ga K "InvalidCells") "__init__") fd := T.fd 6 rfl
theorem fD_NotJoined___init__ : ∃ fd, FunD K "__init__" "NotJoined.__init__" (defArgs st_NotJoined___init__) (defBody st_NotJoined___init__) (defScope st_NotJoined___init__) [] [] (He.ma K (He.ga K "NotJoined") "__init__") fd := T.fd 7 rfl
theorem fD_NotARoad___init__ : ∃ fd, FunD K "__init__" "NotARoad.__init__" (defArgs st_NotARoad___init__) (defBody st_NotARoad___init__) (defScope st_NotARoad___init__) [] [] (He.ma K (He.ga K "NotARoad") "__init__") fd := T.fd 8 rfl
theorem fD_is_integer : ∃ fd, FunD K "is_integer" "is_integer" (defArgs st_is_integer) (defBody st_is_integer) (defScope st_is_integer) [] [] (He.ga K "is_integer") fd := T.fd 9 rfl
theorem fD_is_index : ∃ fd, FunD K "is_index" "is_index" (defArgs st_is_index) (defBody st_is_index) (defScope st_is_index) [] [] (He.ga K "is_index") fd := T.fd 10 rfl
theorem fD_is_list : ∃ fd, FunD K "is_list" "is_list" (defArgs st_is_list) (defBody st_is_list) (defScope st_is_list) [] [] (He.ga K "is_list") fd := T.fd 11 rfl
theorem fD_are_indices : ∃ fd, FunD K "are_indices" "are_indices" (defArgs st_are_indices) (defBody st_are_indices) (defScope st_are_indices) [] [] (He.ga K "are_indices") fd := T.fd 12 rfl
theorem fD_is_road : ∃ fd, FunD K "is_road" "is_road" (defArgs st_is_road) (defBody st_is_road) (defScope st_is_road) [] [] (He.ga K "is_road") fd := T.fd 13 rfl
theorem fD_are_roads : ∃ fd, FunD K "are_roads" "are_roads" (defArgs st_are_roads) (defBody st_are_roads) (defScope st_are_roads) [] [] (He.ga K "are_roads") fd := T.fd 14 rfl
theorem fD_joined_by : ∃ fd, FunD K "joined_by" "joined_by" (defArgs st_joined_by) (defBody st_joined_by) (defScope st_joined_by) [] [] (He.ga K "joined_by") fd := T.fd 15 rfl
theorem fD_ways_from : ∃ fd, FunD K "ways_from" "ways_from" (defArgs st_ways_from) (defBody st_ways_from) (defScope st_ways_from) [] [] (He.ga K "ways_from") fd := T.fd 16 rfl
theorem fD_Tree___init__ : ∃ fd, FunD K "__init__" "Tree.__init__" (defArgs st_Tree___init__) (defBody st_Tree___init__) (defScope st_Tree___init__) [] [] (He.ma K (He.ga K "Tree") "__init__") fd := T.fd 17 rfl
theorem fD_Tree___eq__ : ∃ fd, FunD K "__eq__" "Tree.__eq__" (defArgs st_Tree___eq__) (defBody st_Tree___eq__) (defScope st_Tree___eq__) [] [] (He.ma K (He.ga K "Tree") "__eq__") fd := T.fd 18 rfl
theorem fD_Tree___len__ : ∃ fd, FunD K "__len__" "Tree.__len__" (defArgs st_Tree___len__) (defBody st_Tree___len__) (defScope st_Tree___len__) [] [] (He.ma K (He.ga K "Tree") "__len__") fd := T.fd 19 rfl
theorem fD_Tree___contains__ : ∃ fd, FunD K "__contains__" "Tree.__contains__" (defArgs st_Tree___contains__) (defBody st_Tree___contains__) (defScope st_Tree___contains__) [] [] (He.ma K (He.ga K "Tree") "__contains__") fd := T.fd 20 rfl
theorem fD_Tree_line : ∃ fd, FunD K "line" "Tree.line" (defArgs st_Tree_line) (defBody st_Tree_line) (defScope st_Tree_line) [] [] (He.ma K (He.ga K "Tree") "line") fd := T.fd 21 rfl
theorem fD_check_house : ∃ fd, FunD K "check_house" "check_house" (defArgs st_check_house) (defBody st_check_house) (defScope st_check_house) [] [] (He.ga K "check_house") fd := T.fd 22 rfl
theorem fD_check_road : ∃ fd, FunD K "check_road" "check_road" (defArgs st_check_road) (defBody st_check_road) (defScope st_check_road) [] [] (He.ga K "check_road") fd := T.fd 23 rfl
theorem fD_neighbours : ∃ fd, FunD K "neighbours" "neighbours" (defArgs st_neighbours) (defBody st_neighbours) (defScope st_neighbours) [] [] (He.ga K "neighbours") fd := T.fd 24 rfl
theorem fD_ends : ∃ fd, FunD K "ends" "ends" (defArgs st_ends) (defBody st_ends) (defScope st_ends) [] [] (He.ga K "ends") fd := T.fd 25 rfl
theorem fD_way : ∃ fd, FunD K "way" "way" (defArgs st_way) (defBody st_way) (defScope st_way) [] [] (He.ga K "way") fd := T.fd 26 rfl
theorem fD_distance : ∃ fd, FunD K "distance" "distance" (defArgs st_distance) (defBody st_distance) (defScope st_distance) [] [] (He.ga K "distance") fd := T.fd 27 rfl
theorem fD_middle : ∃ fd, FunD K "middle" "middle" (defArgs st_middle) (defBody st_middle) (defScope st_middle) [] [] (He.ga K "middle") fd := T.fd 28 rfl
theorem fD_on_way : ∃ fd, FunD K "on_way" "on_way" (defArgs st_on_way) (defBody st_on_way) (defScope st_on_way) [] [] (He.ga K "on_way") fd := T.fd 29 rfl
theorem fD_side : ∃ fd, FunD K "side" "side" (defArgs st_side) (defBody st_side) (defScope st_side) [] [] (He.ga K "side") fd := T.fd 30 rfl
theorem fD_span : ∃ fd, FunD K "span" "span" (defArgs st_span) (defBody st_span) (defScope st_span) [] [] (He.ga K "span") fd := T.fd 31 rfl
theorem fD_Store___init__ : ∃ fd, FunD K "__init__" "Store.__init__" (defArgs st_Store___init__) (defBody st_Store___init__) (defScope st_Store___init__) [] [("cells", .non)] (He.ma K (He.ga K "Store") "__init__") fd := T.fd 32 rfl
theorem fD_Store___eq__ : ∃ fd, FunD K "__eq__" "Store.__eq__" (defArgs st_Store___eq__) (defBody st_Store___eq__) (defScope st_Store___eq__) [] [] (He.ma K (He.ga K "Store") "__eq__") fd := T.fd 33 rfl
theorem fD_Store___len__ : ∃ fd, FunD K "__len__" "Store.__len__" (defArgs st_Store___len__) (defBody st_Store___len__) (defScope st_Store___len__) [] [] (He.ma K (He.ga K "Store") "__len__") fd := T.fd 34 rfl
theorem fD_Store_line : ∃ fd, FunD K "line" "Store.line" (defArgs st_Store_line) (defBody st_Store_line) (defScope st_Store_line) [] [] (He.ma K (He.ga K "Store") "line") fd := T.fd 35 rfl
theorem fD__law_cell : ∃ fd, FunD K "_law_cell" "_law_cell" (defArgs st__law_cell) (defBody st__law_cell) (defScope st__law_cell) [] [] (He.ga K "_law_cell") fd := T.fd 36 rfl
theorem fD__law_box : ∃ fd, FunD K "_law_box" "_law_box" (defArgs st__law_box) (defBody st__law_box) (defScope st__law_box) [] [] (He.ga K "_law_box") fd := T.fd 37 rfl
theorem fD__law_take : ∃ fd, FunD K "_law_take" "_law_take" (defArgs st__law_take) (defBody st__law_take) (defScope st__law_take) [] [] (He.ga K "_law_take") fd := T.fd 38 rfl
theorem fD__law_mixed : ∃ fd, FunD K "_law_mixed" "_law_mixed" (defArgs st__law_mixed) (defBody st__law_mixed) (defScope st__law_mixed) [] [] (He.ga K "_law_mixed") fd := T.fd 39 rfl
theorem fD__law_world : ∃ fd, FunD K "_law_world" "_law_world" (defArgs st__law_world) (defBody st__law_world) (defScope st__law_world) [] [] (He.ga K "_law_world") fd := T.fd 40 rfl
theorem fD__law_from : ∃ fd, FunD K "_law_from" "_law_from" (defArgs st__law_from) (defBody st__law_from) (defScope st__law_from) [] [] (He.ga K "_law_from") fd := T.fd 41 rfl
theorem fD__law_index : ∃ fd, FunD K "_law_index" "_law_index" (defArgs st__law_index) (defBody st__law_index) (defScope st__law_index) [] [] (He.ga K "_law_index") fd := T.fd 42 rfl
theorem fD__law_is_pair : ∃ fd, FunD K "_law_is_pair" "_law_is_pair" (defArgs st__law_is_pair) (defBody st__law_is_pair) (defScope st__law_is_pair) [] [] (He.ga K "_law_is_pair") fd := T.fd 43 rfl
theorem fD__law_are_pairs : ∃ fd, FunD K "_law_are_pairs" "_law_are_pairs" (defArgs st__law_are_pairs) (defBody st__law_are_pairs) (defScope st__law_are_pairs) [] [] (He.ga K "_law_are_pairs") fd := T.fd 44 rfl
theorem fD__law_made : ∃ fd, FunD K "_law_made" "_law_made" (defArgs st__law_made) (defBody st__law_made) (defScope st__law_made) [] [] (He.ga K "_law_made") fd := T.fd 45 rfl
theorem fD__law_made_due : ∃ fd, FunD K "_law_made_due" "_law_made_due" (defArgs st__law_made_due) (defBody st__law_made_due) (defScope st__law_made_due) [] [] (He.ga K "_law_made_due") fd := T.fd 46 rfl
theorem fD__law_odd_pair : ∃ fd, FunD K "_law_odd_pair" "_law_odd_pair" (defArgs st__law_odd_pair) (defBody st__law_odd_pair) (defScope st__law_odd_pair) [] [] (He.ga K "_law_odd_pair") fd := T.fd 47 rfl
theorem fD__law_odd_pairs : ∃ fd, FunD K "_law_odd_pairs" "_law_odd_pairs" (defArgs st__law_odd_pairs) (defBody st__law_odd_pairs) (defScope st__law_odd_pairs) [] [] (He.ga K "_law_odd_pairs") fd := T.fd 48 rfl
theorem fD__law_made_right : ∃ fd, FunD K "_law_made_right" "_law_made_right" (defArgs st__law_made_right) (defBody st__law_made_right) (defScope st__law_made_right) [] [] (He.ga K "_law_made_right") fd := T.fd 49 rfl
theorem fD__law_two_wrongs_right : ∃ fd, FunD K "_law_two_wrongs_right" "_law_two_wrongs_right" (defArgs st__law_two_wrongs_right) (defBody st__law_two_wrongs_right) (defScope st__law_two_wrongs_right) [] [] (He.ga K "_law_two_wrongs_right") fd := T.fd 50 rfl
theorem fD__law_asked : ∃ fd, FunD K "_law_asked" "_law_asked" (defArgs st__law_asked) (defBody st__law_asked) (defScope st__law_asked) [] [] (He.ga K "_law_asked") fd := T.fd 51 rfl
theorem fD__law_span : ∃ fd, FunD K "_law_span" "_law_span" (defArgs st__law_span) (defBody st__law_span) (defScope st__law_span) [] [] (He.ga K "_law_span") fd := T.fd 52 rfl
theorem fD__law_due : ∃ fd, FunD K "_law_due" "_law_due" (defArgs st__law_due) (defBody st__law_due) (defScope st__law_due) [] [] (He.ga K "_law_due") fd := T.fd 53 rfl
theorem fD__law_pick : ∃ fd, FunD K "_law_pick" "_law_pick" (defArgs st__law_pick) (defBody st__law_pick) (defScope st__law_pick) [] [] (He.ga K "_law_pick") fd := T.fd 54 rfl
theorem fD__law_things : ∃ fd, FunD K "_law_things" "_law_things" (defArgs st__law_things) (defBody st__law_things) (defScope st__law_things) [] [] (He.ga K "_law_things") fd := T.fd 55 rfl
theorem fD__law_questions_right : ∃ fd, FunD K "_law_questions_right" "_law_questions_right" (defArgs st__law_questions_right) (defBody st__law_questions_right) (defScope st__law_questions_right) [] [] (He.ga K "_law_questions_right") fd := T.fd 56 rfl
theorem fD__law_all_right : ∃ fd, FunD K "_law_all_right" "_law_all_right" (defArgs st__law_all_right) (defBody st__law_all_right) (defScope st__law_all_right) [] [] (He.ga K "_law_all_right") fd := T.fd 57 rfl
theorem fD__law_other : ∃ fd, FunD K "_law_other" "_law_other" (defArgs st__law_other) (defBody st__law_other) (defScope st__law_other) [] [] (He.ga K "_law_other") fd := T.fd 58 rfl
theorem fD__law_equal_right : ∃ fd, FunD K "_law_equal_right" "_law_equal_right" (defArgs st__law_equal_right) (defBody st__law_equal_right) (defScope st__law_equal_right) [] [] (He.ga K "_law_equal_right") fd := T.fd 59 rfl
theorem fD__law_fields_right : ∃ fd, FunD K "_law_fields_right" "_law_fields_right" (defArgs st__law_fields_right) (defBody st__law_fields_right) (defScope st__law_fields_right) [] [] (He.ga K "_law_fields_right") fd := T.fd 60 rfl
theorem fD_law : ∃ fd, FunD K "law" "law" (defArgs st_law) (defBody st_law) (defScope st_law) [] [] (He.ga K "law") fd := T.fd 61 rfl
theorem cl_Tree : Cls K (He.ga K "Tree") := He.cls_ok (T.fa 75 rfl)
theorem mk_Tree : Mk K (He.ga K "Tree") (He.ma K (He.ga K "Tree") "__init__") := He.mkr_ok (T.fa 76 rfl)
theorem me_Tree___eq__ : Meth K (He.ga K "Tree") "__eq__" (He.ma K (He.ga K "Tree") "__eq__") := He.meth_ok (T.fa 77 rfl)
theorem me_Tree___len__ : Meth K (He.ga K "Tree") "__len__" (He.ma K (He.ga K "Tree") "__len__") := He.meth_ok (T.fa 78 rfl)
theorem me_Tree___contains__ : Meth K (He.ga K "Tree") "__contains__" (He.ma K (He.ga K "Tree") "__contains__") := He.meth_ok (T.fa 79 rfl)
theorem me_Tree_line : Meth K (He.ga K "Tree") "line" (He.ma K (He.ga K "Tree") "line") := He.meth_ok (T.fa 80 rfl)
theorem no_Tree_houses : NoAttr K (He.ga K "Tree") "houses" := He.noat_ok (T.fa 81 rfl)
theorem no_Tree_near : NoAttr K (He.ga K "Tree") "near" := He.noat_ok (T.fa 82 rfl)
theorem no_Tree_roads : NoAttr K (He.ga K "Tree") "roads" := He.noat_ok (T.fa 83 rfl)
theorem no_Tree_ways : NoAttr K (He.ga K "Tree") "ways" := He.noat_ok (T.fa 84 rfl)
theorem cl_Store : Cls K (He.ga K "Store") := He.cls_ok (T.fa 85 rfl)
theorem mk_Store : Mk K (He.ga K "Store") (He.ma K (He.ga K "Store") "__init__") := He.mkr_ok (T.fa 86 rfl)
theorem me_Store___eq__ : Meth K (He.ga K "Store") "__eq__" (He.ma K (He.ga K "Store") "__eq__") := He.meth_ok (T.fa 87 rfl)
theorem me_Store___len__ : Meth K (He.ga K "Store") "__len__" (He.ma K (He.ga K "Store") "__len__") := He.meth_ok (T.fa 88 rfl)
theorem me_Store_line : Meth K (He.ga K "Store") "line" (He.ma K (He.ga K "Store") "line") := He.meth_ok (T.fa 89 rfl)
theorem no_Store_cells : NoAttr K (He.ga K "Store") "cells" := He.noat_ok (T.fa 90 rfl)
theorem no_Store_homes : NoAttr K (He.ga K "Store") "homes" := He.noat_ok (T.fa 91 rfl)
theorem no_Store_tree : NoAttr K (He.ga K "Store") "tree" := He.noat_ok (T.fa 92 rfl)
end
theorem sc_InvalidHouses___init__ : FnScope ["self", "given"] ["self", "given"] (defScope st_InvalidHouses___init__) := ⟨rfl, rfl, rfl, by decide +kernel, rfl, by decide +kernel, by decide +kernel⟩
theorem sc_InvalidRoads___init__ : FnScope ["self", "given"] ["self", "given"] (defScope st_InvalidRoads___init__) := ⟨rfl, rfl, rfl, by decide +kernel, rfl, by decide +kernel, by decide +kernel⟩
theorem sc_InvalidHouse___init__ : FnScope ["self", "given"] ["self", "given"] (defScope st_InvalidHouse___init__) := ⟨rfl, rfl, rfl, by decide +kernel, rfl, by decide +kernel, by decide +kernel⟩
theorem sc_InvalidHouseList___init__ : FnScope ["self", "given"] ["self", "given"] (defScope st_InvalidHouseList___init__) := ⟨rfl, rfl, rfl, by decide +kernel, rfl, by decide +kernel, by decide +kernel⟩
theorem sc_InvalidHomes___init__ : FnScope ["self", "given"] ["self", "given"] (defScope st_InvalidHomes___init__) := ⟨rfl, rfl, rfl, by decide +kernel, rfl, by decide +kernel, by decide +kernel⟩
theorem sc_InvalidCells___init__ : FnScope ["self", "given"] ["self", "given"] (defScope st_InvalidCells___init__) := ⟨rfl, rfl, rfl, by decide +kernel, rfl, by decide +kernel, by decide +kernel⟩
theorem sc_NotJoined___init__ : FnScope ["self", "house"] ["self", "house"] (defScope st_NotJoined___init__) := ⟨rfl, rfl, rfl, by decide +kernel, rfl, by decide +kernel, by decide +kernel⟩
theorem sc_NotARoad___init__ : FnScope ["self", "u", "v"] ["self", "u", "v"] (defScope st_NotARoad___init__) := ⟨rfl, rfl, rfl, by decide +kernel, rfl, by decide +kernel, by decide +kernel⟩
theorem sc_is_integer : FnScope ["value"] ["value"] (defScope st_is_integer) := ⟨rfl, rfl, rfl, by decide +kernel, rfl, by decide +kernel, by decide +kernel⟩
theorem sc_is_index : FnScope ["value", "many"] ["value", "many"] (defScope st_is_index) := ⟨rfl, rfl, rfl, by decide +kernel, rfl, by decide +kernel, by decide +kernel⟩
theorem sc_is_list : FnScope ["value"] ["value"] (defScope st_is_list) := ⟨rfl, rfl, rfl, by decide +kernel, rfl, by decide +kernel, by decide +kernel⟩
theorem sc_are_indices : FnScope ["value", "many", "item"] ["value", "many"] (defScope st_are_indices) := ⟨rfl, rfl, rfl, by decide +kernel, rfl, by decide +kernel, by decide +kernel⟩
theorem sc_is_road : FnScope ["value", "houses", "u", "v"] ["value", "houses"] (defScope st_is_road) := ⟨rfl, rfl, rfl, by decide +kernel, rfl, by decide +kernel, by decide +kernel⟩
theorem sc_are_roads : FnScope ["value", "houses", "at", "road"] ["value", "houses"] (defScope st_are_roads) := ⟨rfl, rfl, rfl, by decide +kernel, rfl, by decide +kernel, by decide +kernel⟩
theorem sc_joined_by : FnScope ["houses", "roads", "found", "u", "v", "_", "others"] ["houses", "roads"] (defScope st_joined_by) := ⟨rfl, rfl, rfl, by decide +kernel, rfl, by decide +kernel, by decide +kernel⟩
theorem sc_ways_from : FnScope ["near", "house", "found", "front", "at", "other", "_"] ["near", "house"] (defScope st_ways_from) := ⟨rfl, rfl, rfl, by decide +kernel, rfl, by decide +kernel, by decide +kernel⟩
theorem sc_Tree___init__ : FnScope ["self", "houses", "roads", "house"] ["self", "houses", "roads"] (defScope st_Tree___init__) := ⟨rfl, rfl, rfl, by decide +kernel, rfl, by decide +kernel, by decide +kernel⟩
theorem sc_Tree___eq__ : FnScope ["self", "other"] ["self", "other"] (defScope st_Tree___eq__) := ⟨rfl, rfl, rfl, by decide +kernel, rfl, by decide +kernel, by decide +kernel⟩
theorem sc_Tree___len__ : FnScope ["self"] ["self"] (defScope st_Tree___len__) := ⟨rfl, rfl, rfl, by decide +kernel, rfl, by decide +kernel, by decide +kernel⟩
theorem sc_Tree___contains__ : FnScope ["self", "value"] ["self", "value"] (defScope st_Tree___contains__) := ⟨rfl, rfl, rfl, by decide +kernel, rfl, by decide +kernel, by decide +kernel⟩
theorem sc_Tree_line : FnScope ["self"] ["self"] (defScope st_Tree_line) := ⟨rfl, rfl, rfl, by decide +kernel, rfl, by decide +kernel, by decide +kernel⟩
theorem sc_check_house : FnScope ["tree", "house"] ["tree", "house"] (defScope st_check_house) := ⟨rfl, rfl, rfl, by decide +kernel, rfl, by decide +kernel, by decide +kernel⟩
theorem sc_check_road : FnScope ["tree", "u", "v"] ["tree", "u", "v"] (defScope st_check_road) := ⟨rfl, rfl, rfl, by decide +kernel, rfl, by decide +kernel, by decide +kernel⟩
theorem sc_neighbours : FnScope ["tree", "house"] ["tree", "house"] (defScope st_neighbours) := ⟨rfl, rfl, rfl, by decide +kernel, rfl, by decide +kernel, by decide +kernel⟩
theorem sc_ends : FnScope ["tree", "house", "others"] ["tree"] (defScope st_ends) := ⟨rfl, rfl, rfl, by decide +kernel, rfl, by decide +kernel, by decide +kernel⟩
theorem sc_way : FnScope ["tree", "a", "b"] ["tree", "a", "b"] (defScope st_way) := ⟨rfl, rfl, rfl, by decide +kernel, rfl, by decide +kernel, by decide +kernel⟩
theorem sc_distance : FnScope ["tree", "a", "b"] ["tree", "a", "b"] (defScope st_distance) := ⟨rfl, rfl, rfl, by decide +kernel, rfl, by decide +kernel, by decide +kernel⟩
theorem sc_middle : FnScope ["tree", "a", "b", "c", "house"] ["tree", "a", "b", "c"] (defScope st_middle) := ⟨rfl, rfl, rfl, by decide +kernel, rfl, by decide +kernel, by decide +kernel⟩
theorem sc_on_way : FnScope ["tree", "a", "b", "house"] ["tree", "a", "b", "house"] (defScope st_on_way) := ⟨rfl, rfl, rfl, by decide +kernel, rfl, by decide +kernel, by decide +kernel⟩
theorem sc_side : FnScope ["tree", "u", "v", "house"] ["tree", "u", "v"] (defScope st_side) := ⟨rfl, rfl, rfl, by decide +kernel, rfl, by decide +kernel, by decide +kernel⟩
theorem sc_span : FnScope ["tree", "houses", "other", "house"] ["tree", "houses"] (defScope st_span) := ⟨rfl, rfl, rfl, by decide +kernel, rfl, by decide +kernel, by decide +kernel⟩
theorem sc_Store___init__ : FnScope ["self", "tree", "homes", "cells"] ["self", "tree", "homes", "cells"] (defScope st_Store___init__) := ⟨rfl, rfl, rfl, by decide +kernel, rfl, by decide +kernel, by decide +kernel⟩
theorem sc_Store___eq__ : FnScope ["self", "other"] ["self", "other"] (defScope st_Store___eq__) := ⟨rfl, rfl, rfl, by decide +kernel, rfl, by decide +kernel, by decide +kernel⟩
theorem sc_Store___len__ : FnScope ["self"] ["self"] (defScope st_Store___len__) := ⟨rfl, rfl, rfl, by decide +kernel, rfl, by decide +kernel, by decide +kernel⟩
theorem sc_Store_line : FnScope ["self"] ["self"] (defScope st_Store_line) := ⟨rfl, rfl, rfl, by decide +kernel, rfl, by decide +kernel, by decide +kernel⟩
theorem sc__law_cell : FnScope ["_law_script", "_law_k"] ["_law_script", "_law_k"] (defScope st__law_cell) := ⟨rfl, rfl, rfl, by decide +kernel, rfl, by decide +kernel, by decide +kernel⟩
theorem sc__law_box : FnScope ["_law_great"] ["_law_great"] (defScope st__law_box) := ⟨rfl, rfl, rfl, by decide +kernel, rfl, by decide +kernel, by decide +kernel⟩
theorem sc__law_take : FnScope ["_law_box_here", "_law_many", "_law_digit", "_law_mixed_here"] ["_law_box_here", "_law_many"] (defScope st__law_take) := ⟨rfl, rfl, rfl, by decide +kernel, rfl, by decide +kernel, by decide +kernel⟩
theorem sc__law_mixed : FnScope ["_law_box_here", "_law_items", "_law_left", "_law_found"] ["_law_box_here", "_law_items"] (defScope st__law_mixed) := ⟨rfl, rfl, rfl, by decide +kernel, rfl, by decide +kernel, by decide +kernel⟩
theorem sc__law_world : FnScope ["_law_box_here", "_law_which", "_law_kind", "_law_many", "_law_names", "_law_pairs", "_law_k", "_law_back"] ["_law_box_here"] (defScope st__law_world) := ⟨rfl, rfl, rfl, by decide +kernel, rfl, by decide +kernel, by decide +kernel⟩
theorem sc__law_from : FnScope ["_law_world_here", "_law_start", "_law_found", "_law_front", "_law_turn", "_law_spot", "_law_pair", "_law_near", "_law_far"] ["_law_world_here", "_law_start"] (defScope st__law_from) := ⟨rfl, rfl, rfl, by decide +kernel, rfl, by decide +kernel, by decide +kernel⟩
theorem sc__law_index : FnScope ["_law_value", "_law_many"] ["_law_value", "_law_many"] (defScope st__law_index) := ⟨rfl, rfl, rfl, by decide +kernel, rfl, by decide +kernel, by decide +kernel⟩
theorem sc__law_is_pair : FnScope ["_law_value", "_law_many"] ["_law_value", "_law_many"] (defScope st__law_is_pair) := ⟨rfl, rfl, rfl, by decide +kernel, rfl, by decide +kernel, by decide +kernel⟩
theorem sc__law_are_pairs : FnScope ["_law_value", "_law_many", "_law_k"] ["_law_value", "_law_many"] (defScope st__law_are_pairs) := ⟨rfl, rfl, rfl, by decide +kernel, rfl, by decide +kernel, by decide +kernel⟩
theorem sc__law_made : FnScope ["_law_many", "_law_pairs", "_law_kind", "e"] ["_law_many", "_law_pairs", "_law_kind"] (defScope st__law_made) := ⟨rfl, rfl, rfl, by decide +kernel, rfl, by decide +kernel, by decide +kernel⟩
theorem sc__law_made_due : FnScope ["_law_many", "_law_pairs", "_law_found"] ["_law_many", "_law_pairs"] (defScope st__law_made_due) := ⟨rfl, rfl, rfl, by decide +kernel, rfl, by decide +kernel, by decide +kernel⟩
theorem sc__law_odd_pair : FnScope ["_law_box_here", "_law_pair", "_law_many", "_law_which", "_law_low", "_law_high", "_law_spots"] ["_law_box_here", "_law_pair", "_law_many"] (defScope st__law_odd_pair) := ⟨rfl, rfl, rfl, by decide +kernel, rfl, by decide +kernel, by decide +kernel⟩
theorem sc__law_odd_pairs : FnScope ["_law_box_here", "_law_world_here", "_law_many", "_law_pairs", "_law_which", "_law_at", "_law_other_here", "_law_kept", "_law_pair"] ["_law_box_here", "_law_world_here"] (defScope st__law_odd_pairs) := ⟨rfl, rfl, rfl, by decide +kernel, rfl, by decide +kernel, by decide +kernel⟩
theorem sc__law_made_right : FnScope ["_law_box_here", "_law_world_here", "_law_turn", "_law_pairs", "_law_many", "_law_told", "_law_due_here"] ["_law_box_here", "_law_world_here"] (defScope st__law_made_right) := ⟨rfl, rfl, rfl, by decide +kernel, rfl, by decide +kernel, by decide +kernel⟩
theorem sc__law_two_wrongs_right : FnScope ["_law_told", "_law_due_here"] [] (defScope st__law_two_wrongs_right) := ⟨rfl, rfl, rfl, by decide +kernel, rfl, by decide +kernel, by decide +kernel⟩
theorem sc__law_asked : FnScope ["_law_web", "_law_kind", "_law_things_here", "e"] ["_law_web", "_law_kind", "_law_things_here"] (defScope st__law_asked) := ⟨rfl, rfl, rfl, by decide +kernel, rfl, by decide +kernel, by decide +kernel⟩
theorem sc__law_span : FnScope ["_law_ways", "_law_some", "_law_found", "_law_one", "_law_other_here", "_law_spot"] ["_law_ways", "_law_some"] (defScope st__law_span) := ⟨rfl, rfl, rfl, by decide +kernel, rfl, by decide +kernel, by decide +kernel⟩
theorem sc__law_due : FnScope ["_law_world_here", "_law_ways", "_law_kind", "_law_things_here", "_law_many", "_law_spots", "_law_some", "_law_thing", "_law_row", "_law_both", "_law_spot", "_law_one"] ["_law_world_here", "_law_ways", "_law_kind", "_law_things_here"] (defScope st__law_due) := ⟨rfl, rfl, rfl, by decide +kernel, rfl, by decide +kernel, by decide +kernel⟩
theorem sc__law_pick : FnScope ["_law_box_here", "_law_many"] ["_law_box_here", "_law_many"] (defScope st__law_pick) := ⟨rfl, rfl, rfl, by decide +kernel, rfl, by decide +kernel, by decide +kernel⟩
theorem sc__law_things : FnScope ["_law_box_here", "_law_world_here", "_law_kind", "_law_some", "_law_pair", "_law_turn", "_law_one"] ["_law_box_here", "_law_world_here", "_law_kind"] (defScope st__law_things) := ⟨rfl, rfl, rfl, by decide +kernel, rfl, by decide +kernel, by decide +kernel⟩
theorem sc__law_questions_right : FnScope ["_law_box_here", "_law_web", "_law_world_here", "_law_ways", "_law_turns", "_law_turn", "_law_kind", "_law_things_here", "_law_due_here", "_law_kept", "_law_again", "_law_told"] ["_law_box_here", "_law_web", "_law_world_here", "_law_ways", "_law_turns"] (defScope st__law_questions_right) := ⟨rfl, rfl, rfl, by decide +kernel, rfl, by decide +kernel, by decide +kernel⟩
theorem sc__law_all_right : FnScope ["_law_web", "_law_world_here", "_law_ways", "_law_many", "_law_kind", "_law_one", "_law_other_here", "_law_things_here", "_law_some", "_law_k"] ["_law_web", "_law_world_here", "_law_ways"] (defScope st__law_all_right) := ⟨rfl, rfl, rfl, by decide +kernel, rfl, by decide +kernel, by decide +kernel⟩
theorem sc__law_other : FnScope ["_law_box_here", "_law_world_here", "_law_many", "_law_pairs", "_law_row", "_law_k"] ["_law_box_here", "_law_world_here"] (defScope st__law_other) := ⟨rfl, rfl, rfl, by decide +kernel, rfl, by decide +kernel, by decide +kernel⟩
theorem sc__law_equal_right : FnScope ["_law_box_here", "_law_web", "_law_world_here", "_law_twin", "_law_odd", "_law_other_here", "_law_store", "_law_thing"] ["_law_box_here", "_law_web", "_law_world_here"] (defScope st__law_equal_right) := ⟨rfl, rfl, rfl, by decide +kernel, rfl, by decide +kernel, by decide +kernel⟩
theorem sc__law_fields_right : FnScope ["_law_web", "_law_world_here", "_law_many", "_law_thing"] ["_law_web", "_law_world_here"] (defScope st__law_fields_right) := ⟨rfl, rfl, rfl, by decide +kernel, rfl, by decide +kernel, by decide +kernel⟩
theorem sc_law : FnScope ["_law_script", "_law_k", "_law_box_here", "_law_trios", "_law_turn", "_law_world_here", "_law_handed", "_law_web", "_law_ways", "_law_spot"] ["_law_script"] (defScope st_law) := ⟨rfl, rfl, rfl, by decide +kernel, rfl, by decide +kernel, by decide +kernel⟩
section
variable {K : PySem.W.Frag} {mg : Str → Option Value} {P : Program} {w : World} {base : Heap}
theorem ok_InvalidHouses___init__ (T : Tx K mg) : ∃ fd, FunD K "__init__" "InvalidHouses.__init__" (defArgs st_InvalidHouses___init__) (defBody st_InvalidHouses___init__) (defScope st_InvalidHouses___init__) [] [] (He.ma K (He.ga K "InvalidHouses") "__init__") fd ∧ FnOk P w K mg base CX0 1 (He.ma K (He.ga K "InvalidHouses") "__init__") fd ["self", "given"] (spE1 (He.ga K "InvalidHouses") "given") := by
  obtain ⟨fd, F⟩ := fD_InvalidHouses___init__ T
  refine ⟨fd, F, F.ok sc_InvalidHouses___init__ (fun vs H Q E h => ?_) (fun cdv A outer s H vs Q E hr h => ?_)⟩
  · obtain ⟨a, v, rfl, _⟩ := h; rfl
  · obtain ⟨a, v, rfl, ha, q⟩ := h
    refine ⟨_, pss_cons (ps_expr (pe_parinit T.par rfl (pa_cons (pv 0) (pa_cons pe_str pa_nil)))) (pss_one (ps_ost (pv 0) (pv 1))), ?_⟩
    refine ⟨_, rfl, _, _, [.str _], rfl, by simp, (T.err 0 rfl).ox, ha, ?_⟩
    exact ⟨_, rfl, _, rfl, a, _, rfl, (T.err 0 rfl).ox, (T.err 0 rfl).no _ (by simp), .inl ⟨ha, fun d hd hne => q d hd hne⟩⟩
theorem pmk_InvalidHouses {X : Cx} {k : Nat} {e : Expr} {es : List Expr} {ta : TA} {p pos : Pos} (T : Tx X.K X.mg) (hr : RG (k + 2) X.A) (hg : Gl X "InvalidHouses") (ha : PA X (e :: es) ta) (one : OneByOne X e es pos := by exact ⟨rfl, rfl⟩) :
    PMk X (.Call (.Name "InvalidHouses" p) (e :: es) [] pos) (tErr1 (He.ga X.K "InvalidHouses") "given" ta) := by
  obtain ⟨fd, F, G⟩ := ok_InvalidHouses___init__ (P := X.prog) (w := X.w) (base := X.base) T
  exact pmk_err1 ⟨T.glo 1 rfl, (T.err 0 rfl).ox, (T.err 0 rfl).xf⟩ (T.err 0 rfl).iC (T.err 0 rfl).tI G (hr.mono (by omega)) (F.bindsN fun _ _ _ _ _ _ us hl => match us, hl with | [_, _], _ => rfl) hg ha (by decide) one
theorem ok_InvalidRoads___init__ (T : Tx K mg) : ∃ fd, FunD K "__init__" "InvalidRoads.__init__" (defArgs st_InvalidRoads___init__) (defBody st_InvalidRoads___init__) (defScope st_InvalidRoads___init__) [] [] (He.ma K (He.ga K "InvalidRoads") "__init__") fd ∧ FnOk P w K mg base CX0 1 (He.ma K (He.ga K "InvalidRoads") "__init__") fd ["self", "given"] (spE1 (He.ga K "InvalidRoads") "given") := by
  obtain ⟨fd, F⟩ := fD_InvalidRoads___init__ T
  refine ⟨fd, F, F.ok sc_InvalidRoads___init__ (fun vs H Q E h => ?_) (fun cdv A outer s H vs Q E hr h => ?_)⟩
  · obtain ⟨a, v, rfl, _⟩ := h; rfl
  · obtain ⟨a, v, rfl, ha, q⟩ := h
    refine ⟨_, pss_cons (ps_expr (pe_parinit T.par rfl (pa_cons (pv 0) (pa_cons pe_str pa_nil)))) (pss_one (ps_ost (pv 0) (pv 1))), ?_⟩
    refine ⟨_, rfl, _, _, [.str _], rfl, by simp, (T.err 1 rfl).ox, ha, ?_⟩
    exact ⟨_, rfl, _, rfl, a, _, rfl, (T.err 1 rfl).ox, (T.err 1 rfl).no _ (by simp), .inl ⟨ha, fun d hd hne => q d hd hne⟩⟩
theorem pmk_InvalidRoads {X : Cx} {k : Nat} {e : Expr} {es : List Expr} {ta : TA} {p pos : Pos} (T : Tx X.K X.mg) (hr : RG (k + 2) X.A) (hg : Gl X "InvalidRoads") (ha : PA X (e :: es) ta) (one : OneByOne X e es pos := by exact ⟨rfl, rfl⟩) :
    PMk X (.Call (.Name "InvalidRoads" p) (e :: es) [] pos) (tErr1 (He.ga X.K "InvalidRoads") "given" ta) := by
  obtain ⟨fd, F, G⟩ := ok_InvalidRoads___init__ (P := X.prog) (w := X.w) (base := X.base) T
  exact pmk_err1 ⟨T.glo 2 rfl, (T.err 1 rfl).ox, (T.err 1 rfl).xf⟩ (T.err 1 rfl).iC (T.err 1 rfl).tI G (hr.mono (by omega)) (F.bindsN fun _ _ _ _ _ _ us hl => match us, hl with | [_, _], _ => rfl) hg ha (by decide) one
theorem ok_InvalidHouse___init__ (T : Tx K mg) : ∃ fd, FunD K "__init__" "InvalidHouse.__init__" (defArgs st_InvalidHouse___init__) (defBody st_InvalidHouse___init__) (defScope st_InvalidHouse___init__) [] [] (He.ma K (He.ga K "InvalidHouse") "__init__") fd ∧ FnOk P w K mg base CX0 1 (He.ma K (He.ga K "InvalidHouse") "__init__") fd ["self", "given"] (spE1 (He.ga K "InvalidHouse") "given") := by
  obtain ⟨fd, F⟩ := fD_InvalidHouse___init__ T
  refine ⟨fd, F, F.ok sc_InvalidHouse___init__ (fun vs H Q E h => ?_) (fun cdv A outer s H vs Q E hr h => ?_)⟩
  · obtain ⟨a, v, rfl, _⟩ := h; rfl
  · obtain ⟨a, v, rfl, ha, q⟩ := h
    refine ⟨_, pss_cons (ps_expr (pe_parinit T.par rfl (pa_cons (pv 0) (pa_cons pe_str pa_nil)))) (pss_one (ps_ost (pv 0) (pv 1))), ?_⟩
    refine ⟨_, rfl, _, _, [.str _], rfl, by simp, (T.err 2 rfl).ox, ha, ?_⟩
    exact ⟨_, rfl, _, rfl, a, _, rfl, (T.err 2 rfl).ox, (T.err 2 rfl).no _ (by simp), .inl ⟨ha, fun d hd hne => q d hd hne⟩⟩
theorem pmk_InvalidHouse {X : Cx} {k : Nat} {e : Expr} {es : List Expr} {ta : TA} {p pos : Pos} (T : Tx X.K X.mg) (hr : RG (k + 2) X.A) (hg : Gl X "InvalidHouse") (ha : PA X (e :: es) ta) (one : OneByOne X e es pos := by exact ⟨rfl, rfl⟩) :
    PMk X (.Call (.Name "InvalidHouse" p) (e :: es) [] pos) (tErr1 (He.ga X.K "InvalidHouse") "given" ta) := by
  obtain ⟨fd, F, G⟩ := ok_InvalidHouse___init__ (P := X.prog) (w := X.w) (base := X.base) T
  exact pmk_err1 ⟨T.glo 3 rfl, (T.err 2 rfl).ox, (T.err 2 rfl).xf⟩ (T.err 2 rfl).iC (T.err 2 rfl).tI G (hr.mono (by omega)) (F.bindsN fun _ _ _ _ _ _ us hl => match us, hl with | [_, _], _ => rfl) hg ha (by decide) one
theorem ok_InvalidHouseList___init__ (T : Tx K mg) : ∃ fd, FunD K "__init__" "InvalidHouseList.__init__" (defArgs st_InvalidHouseList___init__) (defBody st_InvalidHouseList___init__) (defScope st_InvalidHouseList___init__) [] [] (He.ma K (He.ga K "InvalidHouseList") "__init__") fd ∧ FnOk P w K mg base CX0 1 (He.ma K (He.ga K "InvalidHouseList") "__init__") fd ["self", "given"] (spE1 (He.ga K "InvalidHouseList") "given") := by
  obtain ⟨fd, F⟩ := fD_InvalidHouseList___init__ T
  refine ⟨fd, F, F.ok sc_InvalidHouseList___init__ (fun vs H Q E h => ?_) (fun cdv A outer s H vs Q E hr h => ?_)⟩
  · obtain ⟨a, v, rfl, _⟩ := h; rfl
  · obtain ⟨a, v, rfl, ha, q⟩ := h
    refine ⟨_, pss_cons (ps_expr (pe_parinit T.par rfl (pa_cons (pv 0) (pa_cons pe_str pa_nil)))) (pss_one (ps_ost (pv 0) (pv 1))), ?_⟩
    refine ⟨_, rfl, _, _, [.str _], rfl, by simp, (T.err 3 rfl).ox, ha, ?_⟩
    exact ⟨_, rfl, _, rfl, a, _, rfl, (T.err 3 rfl).ox, (T.err 3 rfl).no _ (by simp), .inl ⟨ha, fun d hd hne => q d hd hne⟩⟩
theorem pmk_InvalidHouseList {X : Cx} {k : Nat} {e : Expr} {es : List Expr} {ta : TA} {p pos : Pos} (T : Tx X.K X.mg) (hr : RG (k + 2) X.A) (hg : Gl X "InvalidHouseList") (ha : PA X (e :: es) ta) (one : OneByOne X e es pos := by exact ⟨rfl, rfl⟩) :
    PMk X (.Call (.Name "InvalidHouseList" p) (e :: es) [] pos) (tErr1 (He.ga X.K "InvalidHouseList") "given" ta) := by
  obtain ⟨fd, F, G⟩ := ok_InvalidHouseList___init__ (P := X.prog) (w := X.w) (base := X.base) T
  exact pmk_err1 ⟨T.glo 4 rfl, (T.err 3 rfl).ox, (T.err 3 rfl).xf⟩ (T.err 3 rfl).iC (T.err 3 rfl).tI G (hr.mono (by omega)) (F.bindsN fun _ _ _ _ _ _ us hl => match us, hl with | [_, _], _ => rfl) hg ha (by decide) one
theorem ok_InvalidHomes___init__ (T : Tx K mg) : ∃ fd, FunD K "__init__" "InvalidHomes.__init__" (defArgs st_InvalidHomes___init__) (defBody st_InvalidHomes___init__) (defScope st_InvalidHomes___init__) [] [] (He.ma K (He.ga K "InvalidHomes") "__init__") fd ∧ FnOk P w K mg base CX0 1 (He.ma K (He.ga K "InvalidHomes") "__init__") fd ["self", "given"] (spE1 (He.ga K "InvalidHomes") "given") := by
  obtain ⟨fd, F⟩ := fD_InvalidHomes___init__ T
  refine ⟨fd, F, F.ok sc_InvalidHomes___init__ (fun vs H Q E h => ?_) (fun cdv A outer s H vs Q E hr h => ?_)⟩
  · obtain ⟨a, v, rfl, _⟩ := h; rfl
  · obtain ⟨a, v, rfl, ha, q⟩ := h
    refine ⟨_, pss_cons (ps_expr (pe_parinit T.par rfl (pa_cons (pv 0) (pa_cons pe_str pa_nil)))) (pss_one (ps_ost (pv 0) (pv 1))), ?_⟩
    refine ⟨_, rfl, _, _, [.str _], rfl, by simp, (T.err 4 rfl).ox, ha, ?_⟩
    exact ⟨_, rfl, _, rfl, a, _, rfl, (T.err 4 rfl).ox, (T.err 4 rfl).no _ (by simp), .inl ⟨ha, fun d hd hne => q d hd hne⟩⟩
theorem pmk_InvalidHomes {X : Cx} {k : Nat} {e : Expr} {es : List Expr} {ta : TA} {p pos : Pos} (T : Tx X.K X.mg) (hr : RG (k + 2) X.A) (hg : Gl X "InvalidHomes") (ha : PA X (e :: es) ta) (one : OneByOne X e es pos := by exact ⟨rfl, rfl⟩) :
    PMk X (.Call (.Name "InvalidHomes" p) (e :: es) [] pos) (tErr1 (He.ga X.K "InvalidHomes") "given" ta) := by
  obtain ⟨fd, F, G⟩ := ok_InvalidHomes___init__ (P := X.prog) (w := X.w) (base := X.base) T
  exact pmk_err1 ⟨T.glo 5 rfl, (T.err 4 rfl).ox, (T.err 4 rfl).xf⟩ (T.err 4 rfl).iC (T.err 4 rfl).tI G (hr.mono (by omega)) (F.bindsN fun _ _ _ _ _ _ us hl => match us, hl with | [_, _], _ => rfl) hg ha (by decide) one
theorem ok_InvalidCells___init__ (T : Tx K mg) : ∃ fd, FunD K "__init__" "InvalidCells.__init__" (defArgs st_InvalidCells___init__) (defBody st_InvalidCells___init__) (defScope st_InvalidCells___init__) [] [] (He.ma K (He.ga K "InvalidCells") "__init__") fd ∧ FnOk P w K mg base CX0 1 (He.ma K (He.ga K "InvalidCells") "__init__") fd ["self", "given"] (spE1 (He.ga K "InvalidCells") "given") := by
  obtain ⟨fd, F⟩ := fD_InvalidCells___init__ T
  refine ⟨fd, F, F.ok sc_InvalidCells___init__ (fun vs H Q E h => ?_) (fun cdv A outer s H vs Q E hr h => ?_)⟩
  · obtain ⟨a, v, rfl, _⟩ := h; rfl
  · obtain ⟨a, v, rfl, ha, q⟩ := h
    refine ⟨_, pss_cons (ps_expr (pe_parinit T.par rfl (pa_cons (pv 0) (pa_cons pe_str pa_nil)))) (pss_one (ps_ost (pv 0) (pv 1))), ?_⟩
    refine ⟨_, rfl, _, _, [.str _], rfl, by simp, (T.err 5 rfl).ox, ha, ?_⟩
    exact ⟨_, rfl, _, rfl, a, _, rfl, (T.err 5 rfl).ox, (T.err 5 rfl).no _ (by simp), .inl ⟨ha, fun d hd hne => q d hd hne⟩⟩
theorem pmk_InvalidCells {X : Cx} {k : Nat} {e : Expr} {es : List Expr} {ta : TA} {p pos : Pos} (T : Tx X.K X.mg) (hr : RG (k + 2) X.A) (hg : Gl X "InvalidCells") (ha : PA X (e :: es) ta) (one : OneByOne X e es pos := by exact ⟨rfl, rfl⟩) :
    PMk X (.Call (.Name "InvalidCells" p) (e :: es) [] pos) (tErr1 (He.ga X.K "InvalidCells") "given" ta) := by
  obtain ⟨fd, F, G⟩ := ok_InvalidCells___init__ (P := X.prog) (w := X.w) (base := X.base) T
  exact pmk_err1 ⟨T.glo 6 rfl, (T.err 5 rfl).ox, (T.err 5 rfl).xf⟩ (T.err 5 rfl).iC (T.err 5 rfl).tI G (hr.mono (by omega)) (F.bindsN fun _ _ _ _ _ _ us hl => match us, hl with | [_, _], _ => rfl) hg ha (by decide) one
theorem ok_NotJoined___init__ (T : Tx K mg) : ∃ fd, FunD K "__init__" "NotJoined.__init__" (defArgs st_NotJoined___init__) (defBody st_NotJoined___init__) (defScope st_NotJoined___init__) [] [] (He.ma K (He.ga K "NotJoined") "__init__") fd ∧ FnOk P w K mg base CX0 1 (He.ma K (He.ga K "NotJoined") "__init__") fd ["self", "house"] (spE1 (He.ga K "NotJoined") "house") := by
  obtain ⟨fd, F⟩ := fD_NotJoined___init__ T
  refine ⟨fd, F, F.ok sc_NotJoined___init__ (fun vs H Q E h => ?_) (fun cdv A outer s H vs Q E hr h => ?_)⟩
  · obtain ⟨a, v, rfl, _⟩ := h; rfl
  · obtain ⟨a, v, rfl, ha, q⟩ := h
    refine ⟨_, pss_cons (ps_expr (pe_parinit T.par rfl (pa_cons (pv 0) (pa_cons pe_str pa_nil)))) (pss_one (ps_ost (pv 0) (pv 1))), ?_⟩
    refine ⟨_, rfl, _, _, [.str _], rfl, by simp, (T.err 6 rfl).ox, ha, ?_⟩
    exact ⟨_, rfl, _, rfl, a, _, rfl, (T.err 6 rfl).ox, (T.err 6 rfl).no _ (by simp), .inl ⟨ha, fun d hd hne => q d hd hne⟩⟩
theorem pmk_NotJoined {X : Cx} {k : Nat} {e : Expr} {es : List Expr} {ta : TA} {p pos : Pos} (T : Tx X.K X.mg) (hr : RG (k + 2) X.A) (hg : Gl X "NotJoined") (ha : PA X (e :: es) ta) (one : OneByOne X e es pos := by exact ⟨rfl, rfl⟩) :
    PMk X (.Call (.Name "NotJoined" p) (e :: es) [] pos) (tErr1 (He.ga X.K "NotJoined") "house" ta) := by
  obtain ⟨fd, F, G⟩ := ok_NotJoined___init__ (P := X.prog) (w := X.w) (base := X.base) T
  exact pmk_err1 ⟨T.glo 7 rfl, (T.err 6 rfl).ox, (T.err 6 rfl).xf⟩ (T.err 6 rfl).iC (T.err 6 rfl).tI G (hr.mono (by omega)) (F.bindsN fun _ _ _ _ _ _ us hl => match us, hl with | [_, _], _ => rfl) hg ha (by decide) one
theorem ok_NotARoad___init__ (T : Tx K mg) : ∃ fd, FunD K "__init__" "NotARoad.__init__" (defArgs st_NotARoad___init__) (defBody st_NotARoad___init__) (defScope st_NotARoad___init__) [] [] (He.ma K (He.ga K "NotARoad") "__init__") fd ∧ FnOk P w K mg base CX0 1 (He.ma K (He.ga K "NotARoad") "__init__") fd ["self", "u", "v"] (spE2 (He.ga K "NotARoad") "u" "v") := by
  obtain ⟨fd, F⟩ := fD_NotARoad___init__ T
  refine ⟨fd, F, F.ok sc_NotARoad___init__ (fun vs H Q E h => ?_) (fun cdv A outer s H vs Q E hr h => ?_)⟩
  · obtain ⟨a, v, w, rfl, _⟩ := h; rfl
  · obtain ⟨a, v, w, rfl, ha, q⟩ := h
    refine ⟨_, pss_cons (ps_expr (pe_parinit T.par rfl (pa_cons (pv 0) (pa_cons pe_str pa_nil)))) (pss_cons (ps_ost (pv 0) (pv 1)) (pss_one (ps_ost (pv 0) (pv 2)))), ?_⟩
    refine ⟨_, rfl, _, _, [.str _], rfl, by simp, (T.err 7 rfl).ox, ha, ?_⟩
    refine ⟨_, rfl, _, rfl, a, _, rfl, (T.err 7 rfl).ox, (T.err 7 rfl).no _ (by simp), .inl ⟨ha, fun d hd hne => ?_⟩⟩
    refine ⟨_, rfl, _, rfl, a, _, rfl, (T.err 7 rfl).ox, (T.err 7 rfl).no _ (by simp), .inr ⟨d, _, upd_same, by rw [upd_ne hne, upd_same], by simp, ?_⟩⟩
    refine q d _ hd hne (by rw [upd_ne hne.symm, upd_same]) upd_same fun b b1 b2 => ?_
    rw [upd_ne b2, upd_ne b1, upd_ne b2]
theorem pmk_NotARoad {X : Cx} {k : Nat} {e : Expr} {es : List Expr} {ta : TA} {p pos : Pos} (T : Tx X.K X.mg) (hr : RG (k + 2) X.A) (hg : Gl X "NotARoad") (ha : PA X (e :: es) ta) (one : OneByOne X e es pos := by exact ⟨rfl, rfl⟩) :
    PMk X (.Call (.Name "NotARoad" p) (e :: es) [] pos) (tErr2 (He.ga X.K "NotARoad") "u" "v" ta) := by
  obtain ⟨fd, F, G⟩ := ok_NotARoad___init__ (P := X.prog) (w := X.w) (base := X.base) T
  exact pmk_err2 ⟨T.glo 8 rfl, (T.err 7 rfl).ox, (T.err 7 rfl).xf⟩ (T.err 7 rfl).iC (T.err 7 rfl).tI G (hr.mono (by omega)) (F.bindsN fun _ _ _ _ _ _ us hl => match us, hl with | [_, _, _], _ => rfl) hg ha (by decide) one
end
end T1

namespace T1
open PySem PySem.Spec PyProof.Rows L2 G
open Evl (Ex)
local macro_rules | `(tactic| walk_at "dd") => `(tactic| (dsimp only [tCB, tCons, tNil, tC, tOp, tUn, tTest, tB, tVar, tAndV, tOrV, tNotV, tIf, tAnd, tOr, tNot, tSeq, tRet, tRetN, tIfS, tAsg, gName, tDrop, tTup, tLst, tChain, tNext, tCall, L2.start]))
section
variable {K : PySem.W.Frag} {H : Hp} {v : V} {d : PyData} {Q : VK}
theorem isi_int (h : Dq K H v d) (q : Q (.bl (isT "int" d)) H) : rIsi K [v, .ty "int"] H Q := rIsi_of h rfl q (.inl rfl)
theorem isi_bool (h : Dq K H v d) (q : Q (.bl (isT "bool" d)) H) : rIsi K [v, .ty "bool"] H Q := rIsi_of h rfl q (.inr (.inl rfl))
theorem isi_tup (h : Dq K H v d) (q : Q (.bl (isT "tuple" d)) H) : rIsi K [v, .ty "tuple"] H Q := rIsi_of h rfl q (.inr (.inr (.inl rfl)))
theorem isi_list (h : Dq K H v d) (q : Q (.bl (isT "list" d)) H) : rIsi K [v, .ty "list"] H Q := rIsi_of h rfl q (.inr (.inr (.inr (.inl rfl))))
theorem isi_str (h : Dq K H v d) (q : Q (.bl (isT "str" d)) H) : rIsi K [v, .ty "str"] H Q := rIsi_of h rfl q (.inr (.inr (.inr (.inr rfl))))
/-- isinstance(x, (list, tuple)) -/
theorem isi_seq {p : Addr} (h : Dq K H v d) (hp : H p = some (.tup [.ty "list", .ty "tuple"])) (q : Q (.bl (isT "list" d || isT "tuple" d)) H) : rIsiT K [v, .ref p] H Q := by
  refine ⟨v, p, [.ty "list", .ty "tuple"], _, [.type "list", .type "tuple"], _, rfl, hp, .cons (.ty _) (.cons (.ty _) .nil), h.ty, ?_, q⟩
  have a := kit_is (K := K) (d := d) (T := "list") (.inr (.inr (.inr (.inl rfl))))
  have b := kit_is (K := K) (d := d) (T := "tuple") (.inr (.inr (.inl rfl)))
  unfold PySem.W.kitAny
  rw [a]
  cases e : isT "list" d with
  | true => rfl
  | false =>
    show PySem.W.kitAny K _ _ = _
    unfold PySem.W.kitAny
    rw [b]
    cases e2 : isT "tuple" d <;> rfl
end
/-- integers of data -/
def isInt : PyData → Bool
  | .int _ => true
  | _ => false
def isIdx (d : PyData) (m : Int) : Bool := match d with
  | .int i => decide (0 ≤ i) && decide (i < m)
  | _ => false
theorem isInt_eq (d : PyData) : (isT "int" d && !isT "bool" d) = isInt d := by cases d <;> rfl
def isSeq : PyData → Bool
  | .list _ => true
  | .tuple _ => true
  | _ => false
def items : PyData → List PyData
  | .list ds => ds
  | .tuple ds => ds
  | _ => []
def sp_is_integer (K : PySem.W.Frag) : Sp := sp1 fun a H Q E => ∃ d, Dq K H a d ∧ Q (.bl (isInt d)) H
section
variable {K : PySem.W.Frag} {mg : Str → Option Value} {P : Program} {w : World} {base : Heap}
theorem ok_is_integer (T : Tx K mg) : Cal P w K mg base CX0 1 "is_integer" ["value"] (sp_is_integer K) := by
  refine cal_of (fD_is_integer T) (T.glo 12 rfl) sc_is_integer (fun _ _ _ _ _ _ us hl => match us, hl with | [_], _ => rfl) (fun vs H Q E h => len1 h) (fun f cdv A outer s H vs Q E hr h => ?_)
  obtain ⟨a, rfl, h⟩ := h
  refine ⟨_, (PSs.nox (pss_one (ps_ret (pe_and (pe_callB (call_isiK' (K := K)) (by rfl) (T.free 6 rfl) (by decide +kernel) (pa_cons (pv 0) (pa_cons (pe_bltn (v := .ty "int") (u := .type "int") (by rfl) (T.free 5 rfl) (by decide +kernel) rfl) pa_nil))) (pe_one (pe_not (pe_callB (call_isiK' (K := K)) (by rfl) (T.free 6 rfl) (by decide +kernel) (pa_cons (pv 0) (pa_cons (pe_bltn (v := .ty "bool") (u := .type "bool") (by rfl) (T.free 3 rfl) (by decide +kernel) rfl) pa_nil))))))))), ?_⟩
  obtain ⟨d, hd, q⟩ := h
  refine ⟨_, rfl, ?_⟩
  walk_at "dd"
  refine isi_int hd ?_
  refine ⟨_, rfl, ?_⟩
  rw [← isInt_eq] at q
  cases e : isT "int" d with
  | false => rw [e] at q; exact q
  | true =>
    rw [e] at q
    refine ⟨_, rfl, ?_⟩
    refine isi_bool hd ?_
    exact ⟨_, rfl, q⟩
end
def sp_is_index (K : PySem.W.Frag) : Sp := sp2 fun a b H Q E => ∃ d m, Dq K H a d ∧ b = .int m ∧ Q (.bl (isIdx d m)) H
section
variable {K : PySem.W.Frag} {mg : Str → Option Value} {P : Program} {w : World} {base : Heap}
theorem ok_is_index (T : Tx K mg) : Cal P w K mg base CX0 2 "is_index" ["value", "many"] (sp_is_index K) := by
  refine cal_of (fD_is_index T) (T.glo 13 rfl) sc_is_index (fun _ _ _ _ _ _ us hl => match us, hl with | [_, _], _ => rfl) (fun vs H Q E h => len2 h) (fun f cdv A outer s H vs Q E hr h => ?_)
  obtain ⟨a, b, rfl, h⟩ := h
  refine ⟨_, (PSs.nox (pss_one (ps_ret (pe_and (pe_c (ok_is_integer T) (hr.mono (by decide)) rfl pass0 (pa_cons (pv 0) pa_nil)) (pe_one (pe_chain op_le op_lt pe_int (pv 0) (pv 1))))))), ?_⟩
  obtain ⟨d, m, hd, rfl, q⟩ := h
  refine ⟨_, rfl, ?_⟩
  refine ⟨_, rfl, d, hd, _, rfl, ?_⟩
  cases d with
  | int i =>
    cases hd
    refine ⟨_, rfl, 0, i, rfl, rfl, _, rfl, ?_⟩
    by_cases c : (0 : Int) ≤ i
    · rw [decide_eq_true c]
      refine ⟨_, rfl, _, _, rfl, rfl, ?_⟩
      simp only [isIdx, decide_eq_true c, Bool.true_and] at q
      exact q
    · rw [decide_eq_false c]
      simp only [isIdx, decide_eq_false c, Bool.false_and] at q
      exact q
  | _ => exact q
end
theorem isSeq_eq (d : PyData) : (isT "list" d || isT "tuple" d) = isSeq d := by cases d <;> rfl
def sp_is_list (K : PySem.W.Frag) : Sp := sp1 fun a H Q E => ∃ d, Dq K H a d ∧ ∀ H', Ex H H' → Q (.bl (isSeq d)) H'
section
variable {K : PySem.W.Frag} {mg : Str → Option Value} {P : Program} {w : World} {base : Heap}
theorem ok_is_list (T : Tx K mg) : Cal P w K mg base CX0 1 "is_list" ["value"] (sp_is_list K) := by
  refine cal_of (fD_is_list T) (T.glo 14 rfl) sc_is_list (fun _ _ _ _ _ _ us hl => match us, hl with | [_], _ => rfl) (fun vs H Q E h => len1 h) (fun f cdv A outer s H vs Q E hr h => ?_)
  obtain ⟨a, rfl, h⟩ := h
  refine ⟨_, (PSs.nox (pss_one (ps_ret (pe_callB (call_isiTK (K := K)) (by rfl) (T.free 6 rfl) (by decide +kernel) (pa_cons (pv 0) (pa_cons (pe_tup (pa_cons (pe_bltn (v := .ty "list") (u := .type "list") (by rfl) (T.free 8 rfl) (by decide +kernel) rfl) (pa_cons (pe_bltn (v := .ty "tuple") (u := .type "tuple") (by rfl) (T.free 15 rfl) (by decide +kernel) rfl) pa_nil))) pa_nil)))))), ?_⟩
  obtain ⟨d, hd, q⟩ := h
  refine ⟨_, rfl, (by show 2 ≤ sizeLine; decide), fun p hp => ?_⟩
  refine isi_seq (hd.mono (Evl.Ex.new hp)) upd_same ?_
  rw [isSeq_eq]
  exact q _ (Evl.Ex.new hp)
end
/-- data that is a list or a tuple, as it lies -/
theorem dq_seq {K : PySem.W.Frag} {H : Hp} {v : V} {d : PyData} (h : Dq K H v d) (hs : isSeq d = true) : ∃ a xs, v = .ref a ∧ (SqL K H a xs ∨ SqT K H a xs) ∧ Dqs K H xs (items d) := by
  cases h with
  | lst h g => exact ⟨_, _, rfl, .inl h, g⟩
  | tup h g => exact ⟨_, _, rfl, .inr h, g⟩
  | _ => cases hs
theorem dqs_nth {K : PySem.W.Frag} {H : Hp} {xs : List V} {ds : List PyData} (h : Dqs K H xs ds) {i : Nat} (hi : i < xs.length) : ∃ d, ds[i]? = some d ∧ Dq K H (G.nth xs i) d := h.get (nth_at hi)
def areIdx (d : PyData) (m : Int) : Bool := isSeq d && (items d).all (isIdx · m)
theorem all_nth {α : Type} (l : List α) (f : α → Bool) (b : Nat → Bool) (h : ∀ i x, l[i]? = some x → b i = f x) : ((List.range l.length).map b).all id = l.all f := by
  refine Bool.eq_iff_iff.mpr (List.all_eq_true.trans (Iff.trans ?_ List.all_eq_true.symm))
  simp only [List.mem_range, List.mem_map, id]
  constructor
  · intro z x hx
    have ⟨i, hi, ex⟩ := List.getElem_of_mem hx
    subst ex
    rw [← h i _ (List.getElem?_eq_getElem hi)]
    exact z _ ⟨i, hi, rfl⟩
  · rintro z _ ⟨i, hi, rfl⟩
    rw [h i _ (List.getElem?_eq_getElem hi)]
    exact z _ (List.getElem_mem hi)
theorem line_big {n : Nat} (h : n ≤ 100000) : n < sizeLine := by rw [sizeLine_eq]; omega
def sp_are_indices (K : PySem.W.Frag) : Sp := sp2 fun a b H Q E => ∃ d m, Dq K H a d ∧ b = .int m ∧ (items d).length ≤ 100000 ∧ ∀ H', Ex H H' → Q (.bl (areIdx d m)) H'
section
variable {K : PySem.W.Frag} {mg : Str → Option Value} {P : Program} {w : World} {base : Heap}
theorem ok_are_indices (T : Tx K mg) : Cal P w K mg base CX0 3 "are_indices" ["value", "many"] (sp_are_indices K) := by
  refine cal_of (fD_are_indices T) (T.glo 15 rfl) sc_are_indices (fun _ _ _ _ _ _ us hl => match us, hl with | [_, _], _ => rfl) (fun vs H Q E h => len2 h) (fun f cdv A outer s H vs Q E hr h => ?_)
  obtain ⟨a, b, rfl, h⟩ := h
  refine ⟨_, (PSs.nox (pss_one (ps_ret (pe_and (pe_c (ok_is_list T) (hr.mono (by decide)) rfl pass0 (pa_cons (pv 0) pa_nil)) (pe_one (pe_callB (cr_allK (K := K) rfl) (by rfl) (T.free 2 rfl) (by decide +kernel) (pa_cons (pe_lc (own := [("item", 2)]) rfl sc_are_indices.nd (pi_seq (pv 0)) (blkOk_by (own := [("item", 2)]) (N := ["value", "many", "item"]) (sc := defScope st_are_indices) (by decide +kernel)) (fun _ _ _ _ _ => (pg_name (i := 2) sc_are_indices.nd rfl (Or.inl rfl))) (fun _ _ _ _ _ => pts_nil) (fun _ _ _ _ _ => (pe_c (ok_is_index T) (hr.mono (by decide)) rfl pass0 (pa_cons (pv 2) (pa_cons (pv 1) pa_nil))))) pa_nil))))))), ?_⟩
  obtain ⟨d, m, hd, rfl, hl, q⟩ := h
  refine ⟨_, rfl, _, rfl, d, hd, fun H1 e1 => ⟨_, rfl, ?_⟩⟩
  unfold areIdx at q
  cases es : isSeq d with
  | false => rw [es] at q; exact q _ e1
  | true =>
    rw [es, Bool.true_and] at q
    obtain ⟨p, xs, rfl, hx, hds⟩ := dq_seq (hd.mono e1) es
    have hn := hds.length
    refine iteT ?_
    walk_at "dd"
    refine lc_at (fun _ => true) (fun i D y H' => y = .bl (isIdx ((items d)[i]?.getD .none) m)) (line_big (n := xs.length) (by omega)) (fun P q => l_seq rfl hx q) (fun _ _ _ _ _ _ h => h) (fun _ _ _ _ _ _ h => h) ?_ ?_
    · intro i D H2 hi hD e2 hacc Ny Nn hy _
      refine ⟨rfl, ?_⟩
      obtain ⟨di, h1, h2⟩ := dqs_nth hds hi
      refine ⟨_, rfl, _, rfl, _, _, rfl, di, m, h2.mono e2, rfl, ?_⟩
      refine hy _ _ rfl (Evl.Ex.refl _) ?_
      rw [h1]; rfl
    · intro D ys H2 hD e2 hd2 f
      rw [range_all] at f
      have ey := F2.map_eq (f := fun i => V.bl (isIdx ((items d)[i]?.getD .none) m)) f
      refine ⟨D, (List.range xs.length).map (fun i => isIdx ((items d)[i]?.getD .none) m), rfl, SqL.of (by rw [hd2, ey, List.map_map]; rfl), ?_⟩
      rw [hn, all_nth (items d) (isIdx · m) _ (fun i x hx => by rw [hx]; rfl)]
      exact q _ (e1.trans e2)
end

end T1

namespace T1
open PySem PySem.Spec PyProof.Rows L2 G
open Evl (Ex)
local macro_rules | `(tactic| walk_at "dd") => `(tactic| (dsimp only [tCB, tCons, tNil, tC, tOp, tUn, tTest, tB, tVar, tAndV, tOrV, tNotV, tIf, tAnd, tOr, tNot, tSeq, tRet, tRetN, tIfS, tAsg, gName, tDrop, tTup, tLst, tChain, tNext, tCall, L2.start]))
def isRd (d : PyData) (m : Int) : Bool := match d with
  | .tuple [.int u, .int v] => (decide (0 ≤ u) && decide (u < m)) && ((decide (0 ≤ v) && decide (v < m)) && decide (u < v))
  | _ => false
theorem isRd_eq (a b : PyData) (m : Int) : isRd (.tuple [a, b]) m = (isIdx a m && (isIdx b m && match a, b with | .int u, .int v => decide (u < v) | _, _ => false)) := by
  cases a <;> cases b <;> simp [isRd, isIdx]
theorem isIdx_int {d : PyData} {m : Int} (h : isIdx d m = true) : ∃ i, d = .int i ∧ 0 ≤ i ∧ i < m := by
  cases d <;> simp [isIdx] at h
  exact ⟨_, rfl, h.1, h.2⟩
def sp_is_road (K : PySem.W.Frag) : Sp := sp2 fun a b H Q E => ∃ d m, Dq K H a d ∧ b = .int m ∧ (items d).length ≤ 100000 ∧ Q (.bl (isRd d m)) H
section
variable {K : PySem.W.Frag} {mg : Str → Option Value} {P : Program} {w : World} {base : Heap}
theorem ok_is_road (T : Tx K mg) : Cal P w K mg base CX0 3 "is_road" ["value", "houses"] (sp_is_road K) := by
  refine cal_of (fD_is_road T) (T.glo 16 rfl) sc_is_road (fun _ _ _ _ _ _ us hl => match us, hl with | [_, _], _ => rfl) (fun vs H Q E h => len2 h) (fun f cdv A outer s H vs Q E hr h => ?_)
  obtain ⟨a, b, rfl, h⟩ := h
  refine ⟨_, (PSs.nox (pss_cons (ps_if (PW.pt (pw_or (pt_not (pt_val (pe_callB (call_isiK' (K := K)) (by rfl) (T.free 6 rfl) (by decide +kernel) (pa_cons (pv 0) (pa_cons (pe_bltn (v := .ty "tuple") (u := .type "tuple") (by rfl) (T.free 15 rfl) (by decide +kernel) rfl) pa_nil))))) (pw_or1 (pt_cmpR op_ne (pe_callB (call_lenK (K := K)) (by rfl) (T.free 7 rfl) (by decide +kernel) (pa_cons (pv 0) pa_nil)) pe_int (nomark _))))) (pss_one (ps_ret pe_bl)) pss_nil)
      (pss_cons (ps_asg (pv 0) (pg_tup rfl (pgs_cons (pg_name (i := 2) sc_is_road.nd rfl (Or.inl rfl)) (pgs_cons (pg_name (i := 3) sc_is_road.nd rfl (Or.inl rfl)) pgs_nil))))
      (pss_one (ps_ret (pe_and (pe_c (ok_is_index T) (hr.mono (by decide)) rfl pass0 (pa_cons (pv 2) (pa_cons (pv 1) pa_nil))) (pe_and (pe_c (ok_is_index T) (hr.mono (by decide)) rfl pass0 (pa_cons (pv 3) (pa_cons (pv 1) pa_nil))) (pe_one (pe_cmpR op_lt (pv 2) (pv 3) (nomark _)))))))))), ?_⟩
  obtain ⟨d, m, hd, rfl, hl, q⟩ := h
  refine ⟨_, rfl, ?_⟩
  walk_at "dd"
  refine isi_tup hd ?_
  refine ⟨_, rfl, ?_⟩
  by_cases et : isT "tuple" d = true
  · obtain ⟨ds, rfl⟩ : ∃ ds, d = .tuple ds := by cases d <;> first | exact ⟨_, rfl⟩ | cases et
    rw [et]
    cases hd with
    | @tup p xs _ hx hds =>
    refine ⟨_, rfl, p, xs, rfl, .inr hx, rfl, _, rfl, ?_⟩
    have hn := hds.length
    by_cases c : ds.length = 2
    · rw [decide_eq_true (show V.int (xs.length : Int) = V.int 2 by rw [hn, c]; rfl)]
      obtain ⟨x, y, rfl⟩ : ∃ x y, ds = [x, y] := by
        match ds, c with
        | [x, y], _ => exact ⟨x, y, rfl⟩
      cases hds with
      | cons h1 h2 =>
      cases h2 with
      | cons h2 h3 =>
      cases h3
      rename_i v1 v2
      refine ⟨_, rfl, p, _, rfl, hx, rfl, _, _, rfl, _, _, rfl, rfl, ?_⟩
      rw [isRd_eq] at q
      refine ⟨_, rfl, _, rfl, _, _, rfl, x, m, h1, rfl, _, rfl, ?_⟩
      cases e1 : isIdx x m with
      | false => rw [e1, Bool.false_and] at q; exact q
      | true =>
        rw [e1, Bool.true_and] at q
        refine ⟨_, rfl, _, rfl, _, _, rfl, y, m, h2, rfl, _, rfl, ?_⟩
        cases e2 : isIdx y m with
        | false => rw [e2, Bool.false_and] at q; exact q
        | true =>
          rw [e2, Bool.true_and] at q
          obtain ⟨i, rfl, _⟩ := isIdx_int e1
          obtain ⟨j, rfl, _⟩ := isIdx_int e2
          cases h1; cases h2
          exact ⟨_, rfl, _, rfl, _, _, rfl, rfl, q⟩
    · rw [decide_eq_false (show ¬ V.int (xs.length : Int) = V.int 2 from fun z => c (by have := V.int.inj z; omega))]
      have : isRd (.tuple ds) m = false := by
        unfold isRd; split
        · rename_i u v e; cases e; exact absurd rfl c
        · rfl
      rw [this] at q
      exact q
  · rw [Bool.not_eq_true] at et
    rw [et]
    have : isRd d m = false := by unfold isRd; cases d <;> first | rfl | cases et
    rw [this] at q
    exact q
end
def rd : PyData → Int × Int
  | .tuple [.int u, .int v] => (u, v)
  | _ => (0, 0)
def ltR (p q : Int × Int) : Bool := decide (p.1 < q.1) || (decide (p.1 = q.1) && decide (p.2 < q.2))
theorem lex_ltR (a b c d : Int) : HT.lexLt [a, b] [c, d] = ltR (a, b) (c, d) := by
  rw [HT.lexLt_cons, HT.lexLt_cons, HT.lexLt_nil_nil]
  unfold ltR
  by_cases h : a = c
  · subst h; rw [if_pos rfl]
    by_cases h2 : b = d
    · subst h2; simp
    · rw [if_neg h2]; simp
  · rw [if_neg h]; simp [h]
/-- ascending, neighbour by neighbour -/
def asc (l : List (Int × Int)) : Bool := ((List.range (l.length - 1)).map fun i => ltR (l[i]?.getD (0, 0)) (l[i + 1]?.getD (0, 0))).all id
def areRds (d : PyData) (m : Int) : Bool := isSeq d && (decide (((items d).length : Int) = m - 1) && ((items d).all (isRd · m) && asc ((items d).map rd)))
theorem isRd_of {d : PyData} {m : Int} (h : isRd d m = true) : ∃ u v, d = .tuple [.int u, .int v] ∧ 0 ≤ u ∧ u < m ∧ 0 ≤ v ∧ v < m ∧ u < v := by
  unfold isRd at h
  split at h
  · simp at h; exact ⟨_, _, rfl, by omega, by omega, by omega, by omega, by omega⟩
  · cases h
theorem ix_seq_at {K : PySem.W.Frag} {H : Hp} {a : Addr} {xs : List V} {i : Nat} {v : V} {Q : VK} (h : SqL K H a xs ∨ SqT K H a xs) (hv : xs[i]? = some v) (q : Q v H) : rIx K (.ref a) (.int (i : Int)) H Q := by
  rcases h with h | h
  · exact .inl ⟨a, xs, _, v, rfl, rfl, h, atI_nat hv, q⟩
  · exact .inr (.inl ⟨a, xs, _, v, rfl, rfl, h, atI_nat hv, q⟩)
theorem pair_at {K : PySem.W.Frag} {H : Hp} {v : V} {i j : Int} (h : Dq K H v (.tuple [.int i, .int j])) : ∃ t, v = .ref t ∧ SqT K H t [.int i, .int j] := by
  cases h with
  | tup h hs =>
    cases hs with
    | cons a hs => cases hs with
      | cons b hs => cases a; cases b; cases hs; exact ⟨_, rfl, h⟩
def sp_are_roads (K : PySem.W.Frag) : Sp := sp2 fun a b H Q E => ∃ d m, Dq K H a d ∧ b = .int m ∧ (items d).length ≤ 100000 ∧ (∀ x ∈ items d, (items x).length ≤ 100000) ∧ ∀ H', Ex H H' → Q (.bl (areRds d m)) H'
section
variable {K : PySem.W.Frag} {mg : Str → Option Value} {P : Program} {w : World} {base : Heap}
theorem ok_are_roads (T : Tx K mg) : Cal P w K mg base CX0 4 "are_roads" ["value", "houses"] (sp_are_roads K) := by
  refine cal_of (fD_are_roads T) (T.glo 17 rfl) sc_are_roads (fun _ _ _ _ _ _ us hl => match us, hl with | [_, _], _ => rfl) (fun vs H Q E h => len2 h) (fun f cdv A outer s H vs Q E hr h => ?_)
  obtain ⟨a, b, rfl, h⟩ := h
  refine ⟨_, (PSs.nox (pss_cons (ps_if (PW.pt (pw_or (pt_not (pt_val (pe_c (ok_is_list T) (hr.mono (by decide)) rfl pass0 (pa_cons (pv 0) pa_nil)))) (pw_or (pt_cmpR op_ne (pe_callB (call_lenK (K := K)) (by rfl) (T.free 7 rfl) (by decide +kernel) (pa_cons (pv 0) pa_nil)) (pe_op op_sub (pv 1) pe_int) (nomark _)) (pw_or1 (pt_not (pt_val (pe_callB (cr_allK (K := K) rfl) (by rfl) (T.free 2 rfl) (by decide +kernel) (pa_cons (pe_lc (own := [("road", 3)]) rfl sc_are_roads.nd (pi_seq (pv 0)) (blkOk_by (own := [("road", 3)]) (N := ["value", "houses", "at", "road"]) (sc := defScope st_are_roads) (by decide +kernel)) (fun _ _ _ _ _ => (pg_name (i := 3) sc_are_roads.nd rfl (Or.inl rfl))) (fun _ _ _ _ _ => pts_nil) (fun _ _ _ _ _ => (pe_c (ok_is_road T) (hr.mono (by decide)) rfl pass0 (pa_cons (pv 3) (pa_cons (pv 1) pa_nil))))) pa_nil)))))))) (pss_one (ps_ret pe_bl)) pss_nil)
      (pss_one (ps_ret (pe_callB (cr_allK (K := K) rfl) (by rfl) (T.free 2 rfl) (by decide +kernel) (pa_cons (pe_lc (own := [("at", 2)]) rfl sc_are_roads.nd (pi_range1 (by rfl) (T.free 11 rfl) (pa_cons (pe_op op_sub (pe_callB (call_lenK (K := K)) (by rfl) (T.free 7 rfl) (by decide +kernel) (pa_cons (pv 0) pa_nil)) pe_int) pa_nil)) (blkOk_by (own := [("at", 2)]) (N := ["value", "houses", "at", "road"]) (sc := defScope st_are_roads) (by decide +kernel)) (fun _ _ _ _ _ => (pg_name (i := 2) sc_are_roads.nd rfl (Or.inl rfl))) (fun _ _ _ _ _ => pts_nil) (fun _ _ _ _ _ => (pe_cmpR (op_ltTK (K := K) (hu0 hr.r)) (pe_ix (ix_seqK (K := K)) (pv 0) (pv 2) (fun _ _ => rfl)) (pe_ix (ix_seqK (K := K)) (pv 0) (pe_op op_add (pv 2) pe_int) (fun _ _ => rfl)) (nomark _)))) pa_nil)))))), ?_⟩
  obtain ⟨d, m, hd, rfl, hl, hl2, q⟩ := h
  refine ⟨_, rfl, _, rfl, d, hd, fun H1 e1 => ⟨_, rfl, ?_⟩⟩
  unfold areRds at q
  cases es : isSeq d with
  | false => rw [es] at q; exact q _ e1
  | true =>
  rw [es, Bool.true_and] at q
  obtain ⟨p, xs, rfl, hx, hds⟩ := dq_seq (hd.mono e1) es
  have hn := hds.length
  refine ⟨_, rfl, p, xs, rfl, hx, ?_⟩
  refine ⟨_, rfl, _, _, rfl, rfl, rfl, _, rfl, ?_⟩
  by_cases c : ¬ ((items d).length : Int) = m - 1
  · rw [decide_eq_false (show ¬ V.int (xs.length : Int) = V.int (m - 1) from fun z => c (by have := V.int.inj z; omega))]
    rw [decide_eq_false c, Bool.false_and] at q
    exact q _ e1
  replace c := Decidable.not_not.mp c
  rw [decide_eq_true (show V.int (xs.length : Int) = V.int (m - 1) by rw [hn, c])]
  rw [decide_eq_true c, Bool.true_and] at q
  refine iteF ?_
  walk_at "dd"
  refine lc_at (fun _ => true) (fun i D y H' => y = .bl (isRd ((items d)[i]?.getD .none) m)) (line_big (n := xs.length) (by omega)) (fun P q => l_seq rfl hx q) (fun _ _ _ _ _ _ h => h) (fun _ _ _ _ _ _ h => h) ?_ ?_
  · intro i D H2 hi hD e2 hacc Ny Nn hy _
    refine ⟨rfl, ?_⟩
    obtain ⟨di, h1, h2⟩ := dqs_nth hds hi
    refine ⟨_, rfl, _, rfl, _, _, rfl, di, m, h2.mono e2, rfl, hl2 _ (List.mem_of_getElem? h1), ?_⟩
    refine hy _ _ rfl (Evl.Ex.refl _) ?_
    rw [h1]; rfl
  · intro D ys H2 hD e2 hd2 f
    rw [range_all] at f
    have ey := F2.map_eq (f := fun i => V.bl (isRd ((items d)[i]?.getD .none) m)) f
    refine ⟨D, (List.range xs.length).map (fun i => isRd ((items d)[i]?.getD .none) m), rfl, SqL.of (by rw [hd2, ey, List.map_map]; rfl), ?_⟩
    rw [hn, all_nth (items d) (isRd · m) _ (fun i x hx => by rw [hx]; rfl)]
    refine ⟨_, rfl, ?_⟩
    cases ea : (items d).all (isRd · m) with
    | false => rw [ea] at q; exact q _ (e1.trans e2)
    | true =>
    rw [ea, Bool.true_and] at q
    have all := List.all_eq_true.mp ea
    have hx2 : SqL K H2 p xs ∨ SqT K H2 p xs := hx.imp (Evl.ex_l e2) (Evl.ex_t e2)
    refine iteF ?_
    refine lc_at (n := xs.length - 1) (item := fun i => .int (0 + i)) (fun _ => true) (fun i D y H' => y = .bl (ltR (rd ((items d)[i]?.getD .none)) (rd ((items d)[i + 1]?.getD .none)))) (line_big (n := xs.length - 1) (by omega)) (fun P q => ?_) (fun _ _ _ _ _ _ h => h) (fun _ _ _ _ _ _ h => h) ?_ ?_
    · refine ⟨_, rfl, p, xs, rfl, hx2, _, _, rfl, rfl, _, rfl, by omega, by omega, ?_⟩
      have e0 : ((xs.length : Int) - 1).toNat = xs.length - 1 := by omega
      rw [e0]
      exact q _ _ (Evl.Ex.refl _) (its_r 0 _)
    · intro i D' H3 hi hD' e3 hacc Ny Nn hy _
      refine ⟨rfl, ?_⟩
      obtain ⟨d1, a1, b1⟩ := dqs_nth hds (i := i) (by omega)
      obtain ⟨d2, a2, b2⟩ := dqs_nth hds (i := i + 1) (by omega)
      obtain ⟨u1, v1, rfl, _⟩ := isRd_of (all _ (List.mem_of_getElem? a1))
      obtain ⟨u2, v2, rfl, _⟩ := isRd_of (all _ (List.mem_of_getElem? a2))
      have e13 := e2.trans e3
      have hx3 : SqL K H3 p xs ∨ SqT K H3 p xs := hx.imp (Evl.ex_l e13) (Evl.ex_t e13)
      have ei : ((0 : Int) + (i : Int)) = ((i : Nat) : Int) := by omega
      have ei' : ((0 : Int) + (i : Int)) + 1 = ((i + 1 : Nat) : Int) := by omega
      refine ⟨_, rfl, _, rfl, ?_⟩
      show rIx K (.ref p) (.int ((0 : Int) + (i : Int))) H3 _
      rw [ei]
      refine ix_seq_at hx3 (nth_at (by omega)) ⟨_, rfl, _, rfl, _, _, rfl, rfl, ?_⟩
      show rIx K (.ref p) (.int ((i : Int) + 1)) H3 _
      rw [show ((i : Int) + 1) = ((i + 1 : Nat) : Int) by omega]
      refine ix_seq_at hx3 (nth_at (by omega)) ?_
      obtain ⟨t1, q1, s1⟩ := pair_at b1
      obtain ⟨t2, q2, s2⟩ := pair_at b2
      refine ⟨t1, t2, [u1, v1], [u2, v2], q1, q2, Evl.ex_t e13 s1, Evl.ex_t e13 s2, ?_⟩
      rw [lex_ltR]
      refine hy _ _ rfl (Evl.Ex.refl _) ?_
      rw [a1, a2]; rfl
    · intro D' ys H3 hD' e3 hd3 f
      rw [range_all] at f
      have ey := F2.map_eq (f := fun i => V.bl (ltR (rd ((items d)[i]?.getD .none)) (rd ((items d)[i + 1]?.getD .none)))) f
      refine ⟨D', (List.range (xs.length - 1)).map (fun i => ltR (rd ((items d)[i]?.getD .none)) (rd ((items d)[i + 1]?.getD .none))), rfl, SqL.of (by rw [hd3, ey, List.map_map]; rfl), ?_⟩
      have z := q _ ((e1.trans e2).trans e3)
      unfold asc at z
      rw [List.length_map, ← hn] at z
      have ef : (List.range (xs.length - 1)).map (fun i => ltR (rd ((items d)[i]?.getD .none)) (rd ((items d)[i + 1]?.getD .none))) = (List.range (xs.length - 1)).map (fun i => ltR (((items d).map rd)[i]?.getD (0, 0)) (((items d).map rd)[i + 1]?.getD (0, 0))) := by
        refine List.map_congr_left ?_
        intro i _
        have g : ∀ j, rd ((items d)[j]?.getD .none) = ((items d).map rd)[j]?.getD (0, 0) := fun j => by
          rw [List.getElem?_map]; cases (items d)[j]? <;> rfl
        rw [g, g]
      rw [ef]; exact z
end

end T1

namespace T1
open PySem PySem.Spec PyProof.Rows L2 G
open Evl (Ex)
local macro_rules | `(tactic| walk_at "dd") => `(tactic| (dsimp only [tCB, tCons, tNil, tC, tOp, tUn, tTest, tB, tVar, tAndV, tOrV, tNotV, tIf, tAnd, tOr, tNot, tSeq, tRet, tRetN, tIfS, tAsg, gName, tDrop, tTup, tLst, tChain, tNext, tCall, L2.start]))
/-- the roads of a list as pairs of naturals -/
def rdN (p : Int × Int) : Nat × Nat := (p.1.toNat, p.2.toNat)
/-- houses u, v have a road -/
def adj (rs : List (Nat × Nat)) (u v : Nat) : Bool := rs.contains (u, v) || rs.contains (v, u)
/-- what the lists of neighbours hold behind the first roads -/
def acc (rs : List (Nat × Nat)) (h : Nat) : List Nat := rs.flatMap fun p => (if p.1 = h then [p.2] else []) ++ (if p.2 = h then [p.1] else [])
def nb (rs : List (Nat × Nat)) (n h : Nat) : List Nat := (List.range n).filter (adj rs h)
def intD (k : Nat) : PyData := .int (k : Int)
def pairD (p : Nat × Nat) : PyData := .tuple [intD p.1, intD p.2]
def rowD (l : List Nat) : PyData := .tuple (l.map intD)
def rowsD (ls : List (List Nat)) : PyData := .tuple (ls.map rowD)
def iV (k : Nat) : V := .int (k : Int)
theorem acc_snoc (rs : List (Nat × Nat)) (p : Nat × Nat) (h : Nat) : acc (rs ++ [p]) h = acc rs h ++ ((if p.1 = h then [p.2] else []) ++ (if p.2 = h then [p.1] else [])) := by
  simp [acc]
/-- roads that are no loop, each once, either way round -/
structure Good (n : Nat) (rs : List (Nat × Nat)) : Prop where
  lt : ∀ p ∈ rs, p.1 < p.2 ∧ p.2 < n
  nd : rs.Nodup
theorem mem_acc {rs : List (Nat × Nat)} {h v : Nat} : v ∈ acc rs h ↔ adj rs h v = true := by
  simp only [acc, List.mem_flatMap, List.mem_append, adj, Bool.or_eq_true, List.contains_iff_mem]
  constructor
  · rintro ⟨⟨a, b⟩, hp, h1 | h1⟩
    · split at h1
      · rename_i c; simp at h1 c; subst h1 c; exact .inl hp
      · cases h1
    · split at h1
      · rename_i c; simp at h1 c; subst h1 c; exact .inr hp
      · cases h1
  · rintro (hp | hp)
    · exact ⟨_, hp, .inl (by simp)⟩
    · exact ⟨_, hp, .inr (by simp)⟩
theorem acc_nodup {n : Nat} : ∀ {rs : List (Nat × Nat)}, Good n rs → ∀ h, (acc rs h).Nodup
  | [], _, h => by simp [acc]
  | p :: rs, G, h => by
    obtain ⟨a, b⟩ := p
    have G' : Good n rs := ⟨fun p hp => G.lt p (List.mem_cons_of_mem _ hp), (List.nodup_cons.mp G.nd).2⟩
    have ih := acc_nodup G' h
    have hn := (List.nodup_cons.mp G.nd).1
    obtain ⟨l1, l2⟩ := G.lt (a, b) (List.mem_cons_self ..)
    simp only at l1 l2
    have noR : (b, a) ∉ rs := fun z => by have := (G'.lt _ z).1; simp only at this; omega
    have e : acc ((a, b) :: rs) h = ((if a = h then [b] else []) ++ (if b = h then [a] else [])) ++ acc rs h := by simp [acc]
    rw [e]
    by_cases c1 : a = h
    · have c2 : b ≠ h := by omega
      subst c1
      rw [if_pos rfl, if_neg c2, List.append_nil, List.singleton_append, List.nodup_cons]
      refine ⟨fun z => ?_, ih⟩
      rw [mem_acc] at z
      simp only [adj, Bool.or_eq_true, List.contains_iff_mem] at z
      exact z.elim hn noR
    · rw [if_neg c1, List.nil_append]
      by_cases c2 : b = h
      · subst c2
        rw [if_pos rfl, List.singleton_append, List.nodup_cons]
        refine ⟨fun z => ?_, ih⟩
        rw [mem_acc] at z
        simp only [adj, Bool.or_eq_true, List.contains_iff_mem] at z
        exact z.elim noR hn
      · rw [if_neg c2, List.nil_append]; exact ih
theorem nb_perm {n : Nat} {rs : List (Nat × Nat)} (G : Good n rs) (h : Nat) : (nb rs n h).Perm (acc rs h) := by
  refine (List.perm_ext_iff_of_nodup (List.nodup_range.filter _) (acc_nodup G h)).mpr fun v => ?_
  rw [mem_acc, List.mem_filter, List.mem_range]
  constructor
  · exact fun z => z.2
  · intro z
    refine ⟨?_, z⟩
    simp only [adj, Bool.or_eq_true, List.contains_iff_mem] at z
    rcases z with z | z
    · exact (G.lt _ z).2
    · have := G.lt _ z; simp only at this; omega
/-- sorted and of the same items: the same -/
theorem sort_unique : ∀ {xs ys : List Int}, xs.Perm ys → xs.Pairwise (· ≤ ·) → ys.Pairwise (· ≤ ·) → xs = ys := fun {xs ys} p h1 h2 =>
  p.eq_of_pairwise (fun a b _ _ h h' => Int.le_antisymm h h') h1 h2
/-! lists in a list, all made here -/
structure Nest (B : Hp) (D : Addr) (qs : List Addr) : Prop where
  fD : B D = none
  fq : ∀ q ∈ qs, B q = none ∧ q ≠ D
  nd : qs.Nodup
structure NestAt (B : Hp) (D : Addr) (qs : List Addr) (f : Nat → List V) (H : Hp) : Prop where
  ex : Ex B H
  hD : H D = some (.lst (qs.map .ref))
  hq : ∀ j q, qs[j]? = some q → H q = some (.lst (f j))
theorem NestAt.push {B H : Hp} {D : Addr} {qs : List Addr} {f : Nat → List V} (N : Nest B D qs) (h : NestAt B D qs f H) {u : Nat} {q : Addr} (hu : qs[u]? = some q) (ys : List V) : NestAt B D qs (fun j => if j = u then ys else f j) (upd H q (.lst ys)) := by
  obtain ⟨n1, n2⟩ := N.fq q (List.mem_of_getElem? hu)
  refine ⟨Evl.Ex.mut h.ex n1, by rw [upd_ne n2.symm]; exact h.hD, fun j q' hj => ?_⟩
  by_cases c : j = u
  · subst c; rw [hu] at hj; cases hj; rw [upd_same, if_pos rfl]
  · have : q' ≠ q := fun z => c (nd_ix N.nd hj (z ▸ hu))
    rw [upd_ne this, if_neg c]; exact h.hq j q' hj
theorem nest_new {B : Hp} {D : Addr} {qs : List Addr} {p : Addr} {H : Hp} (N : Nest B D qs) (h : NestAt B D qs (fun _ => []) H) (hp : H p = none) : Nest B D (qs ++ [p]) ∧ NestAt B D (qs ++ [p]) (fun _ => []) (upd (upd H p (.lst [])) D (.lst (qs.map .ref ++ [.ref p]))) := by
  have pD : p ≠ D := fun z => by rw [z, h.hD] at hp; cases hp
  have pq : p ∉ qs := fun z => by
    obtain ⟨j, hj, e⟩ := List.getElem_of_mem z
    have y := h.hq j p (by rw [List.getElem?_eq_getElem hj, e])
    rw [hp] at y; cases y
  refine ⟨⟨N.fD, fun q hq => ?_, ?_⟩, ⟨Evl.Ex.mut (Evl.Ex.mut h.ex (Evl.fresh_back h.ex hp)) N.fD, by rw [upd_same, List.map_append]; rfl, fun j q hj => ?_⟩⟩
  · rcases List.mem_append.mp hq with z | z
    · exact N.fq q z
    · rw [List.mem_singleton.mp z]; exact ⟨Evl.fresh_back h.ex hp, pD⟩
  · rw [List.nodup_append]
    exact ⟨N.nd, by simp, fun a ha b hb z => pq (by rw [← List.mem_singleton.mp hb, ← z]; exact ha)⟩
  · have hm := List.mem_of_getElem? hj
    rcases List.mem_append.mp hm with z | z
    · have q1 : q ≠ p := fun e => pq (e ▸ z)
      have q2 := (N.fq q z).2
      rw [upd_ne q2, upd_ne q1]
      by_cases c : j < qs.length
      · rw [List.getElem?_append_left c] at hj; exact h.hq j q hj
      · rw [List.getElem?_append_right (by omega)] at hj
        exact absurd (List.mem_singleton.mp (List.mem_of_getElem? hj)) q1
    · rw [List.mem_singleton.mp z, upd_ne pD, upd_same]
theorem take_snoc {α : Type} {l : List α} {i : Nat} {x : α} (h : l[i]? = some x) : l.take (i + 1) = l.take i ++ [x] := by
  rw [List.take_add_one, h]; rfl
theorem w_rng1 {H : Hp} {ta : TA} {σ : L2.St} {n : Nat} {P : It → Hp → Prop} (h : ∀ Q : List V → Hp → Prop, Q [.int (n : Int)] H → ta σ H Q) (hn : n ≤ 100000) (q : ∀ J H1, Ex H H1 → ItS J H n (fun i => .int (0 + i)) → P J H1) : iRng1 ta σ H P :=
  h _ ⟨_, rfl, by omega, by omega, by
    have e : ((n : Int)).toNat = n := by omega
    rw [e]
    exact q _ _ (Evl.Ex.refl _) (its_r 0 n)⟩
theorem acc_len : ∀ (rs : List (Nat × Nat)) (h : Nat), (acc rs h).length ≤ 2 * rs.length
  | [], h => by simp [acc]
  | p :: rs, h => by
    have ih := acc_len rs h
    have e : acc (p :: rs) h = ((if p.1 = h then [p.2] else []) ++ (if p.2 = h then [p.1] else [])) ++ acc rs h := by simp [acc]
    rw [e]
    by_cases c1 : p.1 = h <;> by_cases c2 : p.2 = h <;> simp [c1, c2] <;> omega
theorem f2_dqs {K : PySem.W.Frag} {H : Hp} {f : Nat → PyData} : ∀ {is : List Nat} {ys : List V}, F2 (fun i y => Dq K H y (f i)) is ys → Dqs K H ys (is.map f)
  | _, _, .nil => .nil
  | _, _, .cons h hs => .cons h (f2_dqs hs)
theorem rowV {K : PySem.W.Frag} {H : Hp} : ∀ (l : List Nat), Dqs K H (l.map iV) (l.map intD)
  | [] => .nil
  | k :: l => .cons (.int _) (rowV l)
def sp_joined_by (K : PySem.W.Frag) : Sp := sp2 fun a b H Q E => ∃ (n : Nat) (rs : List (Nat × Nat)) (d : PyData), a = .int (n : Int) ∧ n ≤ 1000 ∧ Dq K H b d ∧ isSeq d = true ∧ items d = rs.map pairD ∧ rs.length ≤ 1000 ∧ Good n rs ∧ ∀ r H', Ex H H' → Dq K H' r (rowsD ((List.range n).map (nb rs n))) → Q r H'
section
variable {K : PySem.W.Frag} {mg : Str → Option Value} {P : Program} {w : World} {base : Heap}
theorem ok_joined_by (T : Tx K mg) : Cal P w K mg base CX0 2 "joined_by" ["houses", "roads"] (sp_joined_by K) := by
  refine cal_of (fD_joined_by T) (T.glo 18 rfl) sc_joined_by (fun _ _ _ _ _ _ us hl => match us, hl with | [_, _], _ => rfl) (fun vs H Q E h => len2 h) (fun f cdv A outer s H vs Q E hr h => ?_)
  obtain ⟨a, b, rfl, h⟩ := h
  refine ⟨_, (PSs.nox (pss_cons (ps_setLc (i := 2) (own := [("_", 5)]) rfl sc_joined_by.nd rfl rfl (sw_true rfl rfl rfl (by decide +kernel)) (pi_range1 (by rfl) (T.free 11 rfl) (pa_cons (pv 0) pa_nil)) (blkOk_by (own := [("_", 5)]) (N := ["houses", "roads", "found", "u", "v", "_", "others"]) (sc := defScope st_joined_by) (by decide +kernel)) (fun _ _ _ _ _ => (pg_name (i := 5) sc_joined_by.nd rfl (Or.inl rfl))) (fun _ _ _ _ _ => pts_nil) (fun _ _ _ _ _ => (pe_lst pa_nil)))
      (pss_cons (ps_for PassesOwn.never rfl (pi_seq (pv 1)) (pg_tup rfl (pgs_cons (pg_name (i := 3) sc_joined_by.nd rfl (Or.inl rfl)) (pgs_cons (pg_name (i := 4) sc_joined_by.nd rfl (Or.inl rfl)) pgs_nil))) (pss_cons (ps_expr (pe_bm PySem.F.plainAttrs_list PySem.F.slot_list_append PySem.F.type_list_append mt_append (pe_ix (ix_listK (K := K)) (pv 2) (pv 3) (fun _ _ => rfl)) (pa_cons (pv 4) pa_nil)))
      (pss_one (ps_expr (pe_bm PySem.F.plainAttrs_list PySem.F.slot_list_append PySem.F.type_list_append mt_append (pe_ix (ix_listK (K := K)) (pv 2) (pv 4) (fun _ _ => rfl)) (pa_cons (pv 3) pa_nil))))))
      (pss_one (ps_ret (pe_callTy (call_tupK (K := K)) (by rfl) (T.free 15 rfl) (by decide +kernel) (pa_cons (pe_lc (own := [("others", 6)]) rfl sc_joined_by.nd (pi_list (pv 2)) (blkOk_by (own := [("others", 6)]) (N := ["houses", "roads", "found", "u", "v", "_", "others"]) (sc := defScope st_joined_by) (by decide +kernel)) (fun _ _ _ _ _ => (pg_name (i := 6) sc_joined_by.nd rfl (Or.inl rfl))) (fun _ _ _ _ _ => pts_nil) (fun _ _ _ _ _ => (pe_callTy (call_tupK (K := K)) (by rfl) (T.free 15 rfl) (by decide +kernel) (pa_cons (pe_callB (cr_sortedIK (K := K)) (by rfl) (T.free 13 rfl) (by decide +kernel) (pa_cons (pv 6) pa_nil)) pa_nil)))) pa_nil))))))), ?_⟩
  obtain ⟨n, rs, d, rfl, hn, hd, hs, hi, hrl, G, q⟩ := h
  obtain ⟨p, xs, rfl, hx, hds⟩ := dq_seq hd hs
  rw [hi] at hds
  refine seq_at (asg_at ?_)
  refine lc_inv (n := n) (item := fun i => .int (0 + i)) (B := H) (fun P q => w_rng1 (fun Q q => ⟨_, rfl, q⟩) (by omega) q) (fun D i H' => ∃ qs : List Addr, qs.length = i ∧ Nest H D qs ∧ NestAt H D qs (fun _ => []) H') ?_ ?_ ?_ ?_
  · exact fun D H1 e1 hD => ⟨[], rfl, ⟨Evl.fresh_back e1 hD, by simp, by simp⟩, ⟨Evl.Ex.mut e1 (Evl.fresh_back e1 hD), upd_same, by simp⟩⟩
  · exact fun D i H' ⟨qs, _, _, z⟩ => z.ex
  · rintro D i H' hi ⟨qs, hl, N, z⟩
    refine ⟨rfl, ?_⟩
    refine ⟨Nat.zero_le _, fun r hr => ⟨qs.map .ref, ?_, ?_, qs ++ [r], by rw [List.length_append, hl]; rfl, nest_new N z hr⟩⟩
    · rw [upd_ne (ne_of_none z.hD hr)]; exact z.hD
    · rw [List.length_map, hl, sizeLine_eq]; omega
  · rintro D H1 ⟨qs, hl, N, z⟩
    dsimp only [gName]
    refine seq_at ?_
    refine for_at (B := H) (n := xs.length) (item := nth xs) (fun P q => w_seq rfl hx z.ex q) (fun k σ' H' => (∃ s3 s4 s5 s6, σ' = [some (.int (n : Int)), some (.ref p), some (.ref D), s3, s4, s5, s6]) ∧ NestAt H D qs (fun j => (acc (rs.take k) j).map iV) H') ?_ ?_ ?_ ?_
    · exact fun H2 e2 => ⟨⟨none, none, none, none, rfl⟩, z.ex.trans e2, e2 _ _ z.hD, fun j q hj => e2 _ _ (z.hq j q hj)⟩
    · exact fun k σ' H' h => h.2.ex
    · rintro k σ' H' hk ⟨⟨s3, s4, s5, s6, rfl⟩, z'⟩
      obtain ⟨d', a1, b1⟩ := dqs_nth hds hk
      rw [List.getElem?_map] at a1
      obtain ⟨⟨u, v⟩, hr, rfl⟩ := Option.map_eq_some_iff.mp a1
      obtain ⟨t, q1, s1⟩ := pair_at b1
      obtain ⟨l1, l2⟩ := G.lt (u, v) (List.mem_of_getElem? hr)
      simp only at l1 l2
      have hu : qs[u]? = some qs[u] := List.getElem?_eq_getElem (by omega)
      have hv : qs[v]? = some qs[v] := List.getElem?_eq_getElem (by omega)
      have hla : ∀ j, (acc (rs.take k) j).length ≤ 2000 := fun j => by
        have h1 := acc_len (rs.take k) j
        have h2 : (rs.take k).length ≤ rs.length := by rw [List.length_take]; omega
        omega
      have line : ∀ (l : List Nat), l.length ≤ 3000 → (l.map iV).length < sizeLine := fun l hl => by rw [List.length_map, sizeLine_eq]; omega
      have z1 := z'.push N hu ((acc (rs.take k) u).map iV ++ [iV v])
      have z2 := z1.push N hv ((acc (rs.take k) v).map iV ++ [iV u])
      refine ⟨t, _, q1, Evl.ex_t z'.ex s1, rfl, _, _, rfl, _, _, rfl, rfl, ?_⟩
      refine ⟨_, rfl, _, rfl, D, qs.map .ref, (u : Int), .ref qs[u], rfl, rfl, SqL.of z'.hD, atI_nat (by rw [List.getElem?_map, hu]; rfl), .inl ⟨rfl, _, SqL.of (z'.hq u _ hu)⟩, _, rfl, qs[u], _, _, rfl, rfl, z'.hq u _ hu, line _ (by have := hla u; omega), ?_⟩
      refine ⟨_, rfl, _, rfl, D, qs.map .ref, (v : Int), .ref qs[v], rfl, rfl, SqL.of z1.hD, atI_nat (by rw [List.getElem?_map, hv]; rfl), .inl ⟨rfl, _, SqL.of (z1.hq v _ hv)⟩, _, rfl, qs[v], (acc (rs.take k) v).map iV, _, rfl, rfl, ?_, line _ (by have := hla v; omega), ?_⟩
      · exact (z1.hq v _ hv).trans (by rw [if_neg (show ¬ v = u by omega)])
      · refine ⟨⟨_, _, _, _, rfl⟩, ?_⟩
        have ef : (fun j => (acc (rs.take (k + 1)) j).map iV) = fun j => if j = v then (acc (rs.take k) v).map iV ++ [iV u] else if j = u then (acc (rs.take k) u).map iV ++ [iV v] else (acc (rs.take k) j).map iV := by
          funext j
          rw [take_snoc hr, acc_snoc]
          by_cases c1 : j = v
          · subst c1; rw [if_pos rfl, if_neg (by simp only; omega), if_pos rfl]; simp
          · rw [if_neg c1]
            by_cases c2 : j = u
            · subst c2; rw [if_pos rfl, if_pos rfl, if_neg (by simp only; omega)]; simp
            · rw [if_neg c2, if_neg (by simp only; omega), if_neg (by simp only; omega)]; simp
        rw [ef]; exact z2
    · rintro σ' H' ⟨⟨s3, s4, s5, s6, rfl⟩, z'⟩
      have hxl : xs.length = rs.length := by rw [hds.length, List.length_map]
      rw [hxl, List.take_length] at z'
      dsimp only
      refine ret_at (cb_at ?_)
      refine lc_at (n := (qs.map V.ref).length) (item := nth (qs.map V.ref)) (fun _ => true) (fun i D' y H2 => ∃ t, y = .ref t ∧ t ≠ D' ∧ H2 t = some (.tup ((nb rs n i).map iV))) (by rw [List.length_map, hl, sizeLine_eq]; omega) (fun P q => l_list rfl (SqL.of z'.hD) q)
        (fun i D' y H2 o _ ⟨t, e, ne, h⟩ => ⟨t, e, ne, by rw [upd_ne ne]; exact h⟩) (fun i D' y H2 H3 e3 ⟨t, e, ne, h⟩ => ⟨t, e, ne, e3 _ _ h⟩) ?_ ?_
      · intro i D' H2 hi hD' e2 ⟨ac, hac⟩ Ny Nn hy _
        rw [List.length_map] at hi
        have hq : qs[i]? = some qs[i] := List.getElem?_eq_getElem hi
        have en : nth (qs.map V.ref) i = .ref qs[i] := by unfold nth; rw [List.getElem?_map, hq]; rfl
        rw [en]
        refine ⟨rfl, ?_⟩
        refine ⟨_, rfl, qs[i], (acc rs i).map (fun (k : Nat) => (k : Int)), rfl, SqL.of (by rw [List.map_map]; exact e2 _ _ (z'.hq i _ hq)), ?_⟩
        intro ns p2 perm ris hp2
        refine ⟨p2, _, rfl, .inl ⟨SqL.of upd_same, fun t ht => ?_⟩⟩
        have ens : ns = (nb rs n i).map (fun (k : Nat) => (k : Int)) := by
          refine sort_unique (perm.trans ((nb_perm G i).symm.map _)) ris ?_
          rw [List.pairwise_map]
          exact (List.pairwise_lt_range.filter _).imp fun h => by omega
        have tp : t ≠ p2 := fun e => by rw [e, upd_same] at ht; cases ht
        have ht0 : H2 t = none := by rw [upd_ne tp] at ht; exact ht
        refine hy _ _ rfl ((Evl.Ex.new hp2).trans (Evl.Ex.new ht)) ⟨t, rfl, fun e => ?_, ?_⟩
        · rw [e, hac] at ht0; cases ht0
        · rw [upd_same, ens, List.map_map]; rfl
      · intro D' ys H2 hD' e2 hd2 f
        rw [range_all] at f
        refine ⟨D', ys, rfl, .inl ⟨SqL.of hd2, fun l hl2 => ?_⟩⟩
        refine q _ _ ((z'.ex.trans e2).trans (Evl.Ex.new hl2)) (.tup (SqT.of upd_same) ?_)
        rw [List.length_map, hl] at f
        refine Dqs.mono (Evl.Ex.new hl2) ?_
        rw [List.map_map]
        refine f2_dqs (f.imp fun i y ⟨t, e, _, h⟩ => ?_)
        rw [e]
        exact .tup (SqT.of h) (rowV _)
end

end T1

namespace T1
open PySem PySem.Spec PyProof.Rows L2 G
open Evl (Ex)
local macro_rules | `(tactic| walk_at "dd") => `(tactic| (dsimp only [tCB, tCons, tNil, tC, tOp, tUn, tTest, tB, tVar, tAndV, tOrV, tNotV, tIf, tAnd, tOr, tNot, tSeq, tRet, tRetN, tIfS, tAsg, gName, tDrop, tTup, tLst, tChain, tNext, tCall, L2.start]))
open M (at_)
/-- a tuple of houses stands at v -/
def TupAt (H : Hp) (p : List Nat) (v : V) : Prop := ∃ t, v = .ref t ∧ H t = some (.tup (p.map iV))
/-- a list of tuples of houses stands at A -/
def FA (H : Hp) (A : Addr) (F : List (List Nat)) : Prop := ∃ vs, H A = some (.lst vs) ∧ F2 (TupAt H) F vs
theorem TupAt.mono {H H' : Hp} {p : List Nat} {v : V} (e : Ex H H') (h : TupAt H p v) : TupAt H' p v := let ⟨t, a, b⟩ := h; ⟨t, a, e _ _ b⟩
theorem TupAt.updL {H : Hp} {p : List Nat} {v : V} {B : Addr} {ys zs : List V} (hB : H B = some (.lst ys)) (h : TupAt H p v) : TupAt (upd H B (.lst zs)) p v :=
  let ⟨t, a, b⟩ := h; ⟨t, a, by rw [upd_ne (ne_of b hB (by intro z; cases z))]; exact b⟩
theorem FA.mono {H H' : Hp} {A : Addr} {F} (e : Ex H H') (h : FA H A F) : FA H' A F := let ⟨vs, a, b⟩ := h; ⟨vs, e _ _ a, b.imp fun _ _ z => z.mono e⟩
theorem FA.updL {H : Hp} {A B : Addr} {F} {ys zs : List V} (hB : H B = some (.lst ys)) (ne : A ≠ B) (h : FA H A F) : FA (upd H B (.lst zs)) A F :=
  let ⟨vs, a, b⟩ := h; ⟨vs, by rw [upd_ne ne]; exact a, b.imp fun _ _ z => z.updL hB⟩
theorem F2.get {α β : Type} {R : α → β → Prop} : ∀ {as : List α} {bs : List β} {i : Nat} {a : α}, F2 R as bs → as[i]? = some a → ∃ b, bs[i]? = some b ∧ R a b
  | _, _, _, _, .nil, seen => by simp at seen
  | _, _, 0, _, .cons h _, e => by simp at e; subst e; exact ⟨_, rfl, h⟩
  | _, _, i + 1, _, .cons _ hs, e => by
    obtain ⟨b, h1, h2⟩ := F2.get (i := i) hs (by simpa using e)
    exact ⟨b, by simpa using h1, h2⟩
theorem F2.set {α β : Type} {R : α → β → Prop} {x : α} {y : β} : ∀ {as : List α} {bs : List β} (i : Nat), F2 R as bs → R x y → F2 R (as.set i x) (bs.set i y)
  | _, _, _, .nil, _ => .nil
  | _, _, 0, .cons _ hs, h => .cons h hs
  | _, _, i + 1, .cons g hs, h => .cons g (F2.set i hs h)
theorem FA.get {H : Hp} {A : Addr} {F : List (List Nat)} {v : Nat} (h : FA H A F) (hv : v < F.length) : ∃ vs t, H A = some (.lst vs) ∧ vs[v]? = some (.ref t) ∧ H t = some (.tup ((at_ F v).map iV)) := by
  obtain ⟨vs, a, b⟩ := h
  obtain ⟨x, h1, t, rfl, h2⟩ := F2.get b (List.getElem?_eq_getElem hv)
  refine ⟨vs, t, a, h1, ?_⟩
  have : at_ F v = F[v] := by unfold at_; rw [List.getElem?_eq_getElem hv]; rfl
  rw [this]; exact h2
theorem FA.len {H : Hp} {A : Addr} {F : List (List Nat)} {vs : List V} (h : FA H A F) (hA : H A = some (.lst vs)) : vs.length = F.length := by
  obtain ⟨ws, a, b⟩ := h
  rw [hA] at a; cases a; exact b.length.symm
theorem FA.set {H : Hp} {A t : Addr} {F : List (List Nat)} {vs : List V} {v : Nat} {p : List Nat} (h : FA H A F) (hA : H A = some (.lst vs)) (ht : H t = some (.tup (p.map iV))) : FA (upd H A (.lst (vs.set v (.ref t)))) A (F.set v p) := by
  obtain ⟨ws, a, b⟩ := h
  rw [hA] at a; cases a
  exact ⟨_, upd_same, (F2.set v b ⟨t, rfl, ht⟩).imp fun _ _ z => z.updL hA⟩
theorem FA.dq {K : PySem.W.Frag} {H : Hp} {A : Addr} {F : List (List Nat)} {vs : List V} (h : FA H A F) (hA : H A = some (.lst vs)) : Dqs K H vs (F.map rowD) := by
  obtain ⟨ws, a, b⟩ := h
  rw [hA] at a; cases a
  clear hA
  induction b with
  | nil => exact .nil
  | cons h _ ih => obtain ⟨t, rfl, ht⟩ := h; exact .cons (.tup (SqT.of ht) (rowV _)) ih
theorem f2_rep {R : List Nat → V → Prop} {is : List Nat} {ys : List V} : F2 (fun (_ : Nat) y => R [] y) is ys → F2 R (List.replicate is.length []) ys := by
  intro h
  induction h with
  | nil => exact .nil
  | cons h _ ih => exact .cons h ih
theorem shaped_ints (l : List Nat) : SeqAt.shaped (.list (l.map intD)) = true ∧ SeqAt.shaped (.tuple (l.map intD)) = true := by
  have c : PyData.canLayAll0 (l.map intD) = true := by
    induction l with
    | nil => rfl
    | cons k l ih => simp only [List.map_cons, PyData.canLayAll0, ih, Bool.and_true]; rfl
  have d : PyData.depthAll (l.map intD) ≤ 1 := by
    induction l with
    | nil => simp [PyData.depthAll]
    | cons k l ih =>
      simp only [List.map_cons, PyData.canLayAll0, Bool.and_eq_true] at c
      have := ih c.2
      simp only [List.map_cons, PyData.depthAll, intD, PyData.depth]; omega
  constructor <;> (unfold SeqAt.shaped; rw [Bool.and_eq_true, decide_eq_true_eq]; refine ⟨by simpa [PyData.canLay0] using c, ?_⟩; simp only [PyData.depth]; omega)
theorem dp_list {K : PySem.W.Frag} {H : Hp} {a : Addr} {l : List Nat} (h : H a = some (.lst (l.map iV))) : Dp K H (.ref a) (.list (l.map intD)) := Dq.dp (.lst (SqL.of h) (rowV l)) (SeqAt.canLay_of_shaped (shaped_ints l).1)
theorem dp_tup {K : PySem.W.Frag} {H : Hp} {a : Addr} {l : List Nat} (h : H a = some (.tup (l.map iV))) : Dp K H (.ref a) (.tuple (l.map intD)) := Dq.dp (.tup (SqT.of h) (rowV l)) (SeqAt.canLay_of_shaped (shaped_ints l).2)
theorem row_at {K : PySem.W.Frag} {H : Hp} {v : V} {l : List Nat} (h : Dq K H v (rowD l)) : ∃ t, v = .ref t ∧ SqT K H t (l.map iV) := by
  unfold rowD at h
  cases h with
  | tup h hs =>
    refine ⟨_, rfl, ?_⟩
    have : ∀ {l : List Nat} {xs : List V}, Dqs K H xs (l.map intD) → xs = l.map iV := by
      intro l
      induction l with
      | nil => intro xs h; cases h; rfl
      | cons k l ih => intro xs h; cases h with | cons a b => cases a; rw [ih b]; rfl
    rw [← this hs]; exact h
theorem rows_at {K : PySem.W.Frag} {H : Hp} {v : V} {ls : List (List Nat)} (h : Dq K H v (rowsD ls)) : ∃ t xs, v = .ref t ∧ SqT K H t xs ∧ Dqs K H xs (ls.map rowD) := by
  unfold rowsD at h
  cases h with
  | tup h hs => exact ⟨_, _, rfl, h, hs⟩
theorem nodup_len {n : Nat} : ∀ {l : List Nat}, l.Nodup → (∀ x ∈ l, x < n) → l.length ≤ n := by
  induction n with
  | zero => intro l _ h; cases l with
    | nil => exact Nat.zero_le _
    | cons a l => exact absurd (h a (List.mem_cons_self ..)) (Nat.not_lt_zero _)
  | succ n ih =>
    intro l nd h
    by_cases c : n ∈ l
    · have z := ih (nd.erase n) fun x hx => by
        have q := (nd.mem_erase_iff).mp hx
        have := h x q.2
        have := q.1
        omega
      rw [List.length_erase_of_mem c] at z
      omega
    · have z := ih nd fun x hx => by
        have := h x hx
        have : x ≠ n := fun e => c (e ▸ hx)
        omega
      omega
def sp_ways_from (K : PySem.W.Frag) : Sp := sp2 fun a b H Q E => ∃ (ls : List (List Nat)) (h : Nat), Dq K H a (rowsD ls) ∧ b = .int (h : Int) ∧ h < ls.length ∧ ls.length ≤ 1000 ∧ (∀ l ∈ ls, ∀ v ∈ l, v < ls.length) ∧ ∀ r H' F, Ex H H' → M.Ways ls h F → Dq K H' r (rowsD F) → FrzT H' r → Q r H'
section
variable {K : PySem.W.Frag} {mg : Str → Option Value} {P : Program} {w : World} {base : Heap}
theorem ok_ways_from (T : Tx K mg) : Cal P w K mg base CX0 2 "ways_from" ["near", "house"] (sp_ways_from K) := by
  refine cal_of (fD_ways_from T) (T.glo 19 rfl) sc_ways_from (fun _ _ _ _ _ _ us hl => match us, hl with | [_, _], _ => rfl) (fun vs H Q E h => len2 h) (fun f cdv A outer s H vs Q E hr h => ?_)
  obtain ⟨a, b, rfl, h⟩ := h
  refine ⟨_, (PSs.nox (pss_cons (ps_setLc (i := 2) (own := [("_", 6)]) rfl sc_ways_from.nd rfl rfl (sw_true rfl rfl rfl (by decide +kernel)) (pi_tup (pv 0)) (blkOk_by (own := [("_", 6)]) (N := ["near", "house", "found", "front", "at", "other", "_"]) (sc := defScope st_ways_from) (by decide +kernel)) (fun _ _ _ _ _ => (pg_name (i := 6) sc_ways_from.nd rfl (Or.inl rfl))) (fun _ _ _ _ _ => pts_nil) (fun _ _ _ _ _ => (pe_tup pa_nil)))
      (pss_cons (ps_asg (pe_tup (pa_cons (pv 1) pa_nil)) (pg_sub (pv 2) (pv 1) set_list))
      (pss_cons (ps_set (i := 3) sc_ways_from.nd rfl (Or.inl rfl) (pe_lst (pa_cons (pv 1) pa_nil)))
      (pss_cons (ps_while PassesOwn.never (pt_cmpR (op_neDK (K := K) (hu64 hr.r)) (pv 3) (pe_lst pa_nil) (nomark _)) (pss_cons (ps_set (i := 4) sc_ways_from.nd rfl (Or.inl rfl) (pe_bm0 PySem.F.plainAttrs_list PySem.F.slot_list_pop PySem.F.type_list_pop mt_pop (pv 3)))
      (pss_one (ps_for PassesOwn.never rfl (pi_tup (pe_ix (ix_tupK (K := K)) (pv 0) (pv 4) (fun _ _ => rfl))) (pg_name (i := 5) sc_ways_from.nd rfl (Or.inl rfl)) (pss_one (ps_if (pt_cmpR (op_eqDK (K := K) (hu64 hr.r)) (pe_ix (ix_listK (K := K)) (pv 2) (pv 5) (fun _ _ => rfl)) (pe_tup pa_nil) (nomark _)) (pss_cons (ps_asg (pe_tup (pa_starK (K := K) (pe_ix (ix_listK (K := K)) (pv 2) (pv 4) (fun _ _ => rfl)) (pa_cons (pv 5) pa_nil))) (pg_sub (pv 2) (pv 5) set_list))
      (pss_one (ps_expr (pe_bm PySem.F.plainAttrs_list PySem.F.slot_list_append PySem.F.type_list_append mt_append (pv 3) (pa_cons (pv 5) pa_nil))))) pss_nil))))))
      (pss_one (ps_ret (pe_callTy (call_tupF (K := K)) (by rfl) (T.free 15 rfl) (by decide +kernel) (pa_cons (pv 2) pa_nil))))))))), ?_⟩
  obtain ⟨ls, h0, hd, rfl, hh, hlen, hlt, q⟩ := h
  obtain ⟨nt, xs, rfl, hx, hds⟩ := rows_at hd
  have hxl : xs.length = ls.length := by rw [hds.length, List.length_map]
  have ltA : ∀ {a w : Nat}, w ∈ at_ ls a → w < ls.length := fun {a w} hw => by
    unfold M.at_ at hw
    cases e : ls[a]? with
    | none => rw [e] at hw; cases hw
    | some l => rw [e] at hw; exact hlt l (List.mem_of_getElem? e) w hw
  have line : ∀ {k : Nat}, k ≤ 5000 → k < sizeLine := fun {k} hk => by rw [sizeLine_eq]; omega
  refine seq_at (asg_at ?_)
  refine lc_at (n := xs.length) (item := nth xs) (fun _ => true) (fun i D y H2 => ∃ t, y = .ref t ∧ t ≠ D ∧ H2 t = some (.tup [])) (line (by omega)) (fun P q => l_tup rfl hx q)
    (fun i D' y H2 o _ ⟨t, e, ne, h⟩ => ⟨t, e, ne, by rw [upd_ne ne]; exact h⟩) (fun i D' y H2 H3 e3 ⟨t, e, ne, h⟩ => ⟨t, e, ne, e3 _ _ h⟩) ?_ ?_
  · intro i D H2 hi hD e2 ⟨ac, hac⟩ Ny Nn hy _
    exact ⟨rfl, Nat.zero_le _, fun t ht => hy _ _ rfl (Evl.Ex.new ht) ⟨t, rfl, (ne_of_none hac ht).symm, upd_same⟩⟩
  intro A ys H1 hA e1 hd1 f
  rw [range_all] at f
  have fa1 : FA H1 A (List.replicate ls.length []) := ⟨ys, hd1, by
    have z := f2_rep (R := TupAt H1) (f.imp fun i y ⟨t, e, _, h⟩ => ⟨t, e, h⟩)
    rwa [List.length_range, hxl] at z⟩
  have yl := fa1.len hd1
  rw [List.length_replicate] at yl
  dsimp only [gName]
  refine seq_at ?_
  refine ⟨_, rfl, line (by simp), fun t ht => ?_⟩
  have tA : A ≠ t := ne_of_none hd1 ht
  have hA1 : upd H1 t (.tup [.int (h0 : Int)]) A = some (.lst ys) := by rw [upd_ne tA]; exact hd1
  refine ⟨_, rfl, _, rfl, A, ys, _, h0, rfl, rfl, hA1, Evl.ixN_nat (by omega), ?_⟩
  have fa2 := (fa1.mono (Evl.Ex.new ht)).set (v := h0) (p := [h0]) hA1 upd_same
  have e2 : Ex H (upd (upd H1 t (.tup [.int (h0 : Int)])) A (.lst (ys.set h0 (.ref t)))) := Evl.Ex.mut (e1.trans (Evl.Ex.new ht)) hA
  dsimp only
  refine seq_at (asg_at ?_)
  refine ⟨_, rfl, line (by simp), fun B hB => ?_⟩
  have AB : A ≠ B := fun z => by rw [← z, upd_same] at hB; cases hB
  have hB0 : H B = none := Evl.fresh_back e2 hB
  have fa3 := fa2.mono (Evl.Ex.new (o := .lst [.int (h0 : Int)]) hB)
  have e3 := e2.trans (Evl.Ex.new (o := .lst [.int (h0 : Int)]) hB)
  dsimp only [gName]
  refine seq_at ?_
  refine ⟨fun m σ' H' => ∃ F S s4 s5 s6, σ' = [some (.ref nt), some (.int (h0 : Int)), some (.ref A), some (.ref B), s4, s5, s6] ∧ Ex H H' ∧ FA H' A F ∧ H' B = some (.lst (S.map iV)) ∧ M.PI ls h0 F S ∧ m = M.un F + S.length,
    ⟨_, _, [h0], none, none, none, rfl, e3, fa3, upd_same, M.pi_start hh, rfl⟩, ?_⟩
  rintro m σ' H' ⟨F, S, s4, s5, s6, rfl, e, fa, hBS, pi, rfl⟩
  refine ⟨_, rfl, Nat.zero_le _, fun p hp => ?_⟩
  have fa' := fa.mono (Evl.Ex.new (o := .lst []) hp)
  have hBS' := Evl.Ex.new (o := .lst []) hp _ _ hBS
  have e' := e.trans (Evl.Ex.new (o := .lst []) hp)
  refine ⟨.list (S.map intD), .list [], dp_list hBS', dp_list (l := []) upd_same, (shaped_ints S).1, (shaped_ints []).1, _, rfl, ?_⟩
  by_cases c : S = []
  · subst c
    show if (!PyData.eqv (.list []) (.list [])) = true then _ else _
    refine iteF ?_
    dsimp only
    obtain ⟨vs, hvs, f2⟩ := fa'
    refine ret_at (cb_at ?_)
    refine ⟨_, rfl, A, vs, rfl, SqL.of hvs, fun l o hl od oc => ?_⟩
    exact q _ _ F (e'.trans (Evl.Ex.new hl)) (M.pi_end pi) (.tup (.inl (.inr ⟨o, upd_same⟩)) (Dqs.mono (Evl.Ex.new hl) (FA.dq ⟨vs, hvs, f2⟩ hvs))) ⟨l, o, vs, rfl, upd_same, od, oc⟩
  · obtain ⟨S', a, rfl⟩ : ∃ S' a, S = S' ++ [a] := ⟨S.dropLast, S.getLast c, (List.dropLast_concat_getLast c).symm⟩
    have ne : PyData.eqv (.list ((S' ++ [a]).map intD)) (.list []) = false := by
      cases S' <;> rfl
    rw [ne]
    refine iteT ?_
    have pj := M.pj_start pi
    refine ⟨fun σ' H' => ∃ m', m' < M.un F + (S' ++ [a]).length ∧ ∃ F S s4 s5 s6, σ' = [some (.ref nt), some (.int (h0 : Int)), some (.ref A), some (.ref B), s4, s5, s6] ∧ Ex H H' ∧ FA H' A F ∧ H' B = some (.lst (S.map iV)) ∧ M.PI ls h0 F S ∧ m' = M.un F + S.length, fun σ' H' h => h, ?_⟩
    refine seq_at (asg_at ?_)
    have eB : (S' ++ [a]).map iV = S'.map iV ++ [iV a] := by rw [List.map_append]; rfl
    rw [eB] at hBS'
    refine ⟨_, rfl, .inl ⟨rfl, _, SqL.of hBS'⟩, B, _, iV a, rfl, rfl, hBS', by simp, ?_⟩
    rw [List.dropLast_concat]
    dsimp only [gName]
    have al := pj.al
    obtain ⟨d', g1, g2⟩ := dqs_nth hds (i := a) (by omega)
    rw [List.getElem?_map, List.getElem?_eq_getElem al] at g1
    cases g1
    obtain ⟨tr, et, st⟩ := row_at g2
    have ea : at_ ls a = ls[a] := by unfold M.at_; rw [List.getElem?_eq_getElem al]; rfl
    rw [← ea] at st
    have fa4 := FA.updL (zs := S'.map iV) hBS' AB fa'
    have e4 : Ex H (upd (upd H' p (.lst [])) B (.lst (S'.map iV))) := Evl.Ex.mut e' hB0
    refine ⟨_, rfl, _, rfl, nt, xs, _, _, rfl, rfl, Evl.ex_t e4 hx, atI_nat (nth_at (by omega)), tr, et, ⟨_, Evl.ex_t e4 st⟩, ?_⟩
    refine for_gen (its_t st) (fun k σ' H' => ∃ F2 S2 s5 s6, σ' = [some (.ref nt), some (.int (h0 : Int)), some (.ref A), some (.ref B), some (iV a), s5, s6] ∧ Ex H H' ∧ FA H' A F2 ∧ H' B = some (.lst (S2.map iV)) ∧ M.PJ ls h0 a k F2 S2 ∧ M.un F2 + S2.length = M.un F + S'.length)
      ⟨F, S', _, _, rfl, e4, fa4, upd_same, pj, rfl⟩ (fun k σ' H' ⟨_, _, _, _, _, z, _⟩ => z) ?_ ?_
    · rintro k σ' H5 hk ⟨F2, S2, s5, s6, rfl, e5, fa5, hB5, pj5, hm⟩
      rw [List.length_map] at hk
      obtain ⟨w, hw⟩ : ∃ w, (at_ ls a)[k]? = some w := ⟨_, List.getElem?_eq_getElem hk⟩
      have ew : nth ((at_ ls a).map iV) k = iV w := by unfold nth; rw [List.getElem?_map, hw]; rfl
      have hwl := ltA (List.mem_of_getElem? hw)
      rw [ew]
      obtain ⟨vs, t, hvs, hv, htu⟩ := fa5.get (v := w) (by rw [pj5.len]; exact hwl)
      refine ⟨_, rfl, _, rfl, A, vs, _, _, rfl, rfl, SqL.of hvs, atI_nat hv, Nat.zero_le _, fun p2 hp2 => ?_⟩
      have ex2 := Evl.Ex.new (o := .tup []) hp2
      refine ⟨.tuple ((at_ F2 w).map intD), .tuple [], dp_tup (ex2 _ _ htu), dp_tup (l := []) upd_same, (shaped_ints _).2, (shaped_ints []).2, _, rfl, ?_⟩
      have fa6 := fa5.mono ex2
      have hB6 := ex2 _ _ hB5
      have hvs6 := ex2 _ _ hvs
      by_cases c2 : at_ F2 w = []
      · rw [c2]
        show if PyData.eqv (.tuple []) (.tuple []) = true then _ else _
        refine iteT ?_
        obtain ⟨vs', ta, hvs', hva, hta⟩ := fa5.get (v := a) (by rw [pj5.len]; exact al)
        rw [hvs] at hvs'; cases hvs'
        obtain ⟨pj7, hm7⟩ := M.pj_add pj5 hw hwl c2
        have wlen : (at_ F2 a).length ≤ 5000 := by
          have nd := (pj5.pa a pj5.af).nd
          have sub : ∀ x ∈ at_ F2 a, x < ls.length := fun x hx => by
            have z := pj5.on a x hx
            by_cases y : x < F2.length
            · rw [← pj5.len]; exact y
            · unfold M.at_ at z; rw [List.getElem?_eq_none (by omega)] at z; exact absurd rfl z
          have := nodup_len nd sub
          omega
        refine seq_at ?_
        refine ⟨_, rfl, _, rfl, A, vs, _, _, rfl, rfl, SqL.of hvs6, atI_nat hva, ta, _, rfl, .inl (SqT.of (ex2 _ _ hta)), _, rfl, by rw [List.length_append, List.length_map]; exact line wlen, fun t8 ht8 => ?_⟩
        have ex8 := Evl.Ex.new (o := .tup ((at_ F2 a).map iV ++ [iV w])) ht8
        have hv8 := ex8 _ _ hvs6
        refine ⟨_, rfl, _, rfl, A, vs, _, w, rfl, rfl, hv8, Evl.ixN_nat (by rw [fa5.len hvs, pj5.len]; exact hwl), ?_⟩
        have fa8 := (fa6.mono ex8).set (v := w) (t := t8) (p := at_ F2 a ++ [w]) hv8 (by rw [upd_same, List.map_append]; rfl)
        have hB8 : (upd (upd (upd H5 p2 (.tup [])) t8 (.tup ((at_ F2 a).map iV ++ [iV w]))) A (.lst (vs.set w (.ref t8)))) B = some (.lst (S2.map iV)) := by
          rw [upd_ne AB.symm]; exact ex8 _ _ hB6
        have e8 := Evl.Ex.mut (o := .lst (vs.set w (.ref t8))) ((e5.trans ex2).trans ex8) hA
        have Sl : S2.length ≤ 3000 := by
          have := nodup_len pj5.sn fun x hx => (pj5.sf x hx).1
          omega
        refine ⟨_, rfl, .inl ⟨rfl, _, SqL.of hB8⟩, _, rfl, B, _, _, rfl, rfl, hB8, by rw [List.length_map]; exact line (by omega), ?_⟩
        refine ⟨_, S2 ++ [w], _, _, rfl, Evl.Ex.mut e8 hB0, fa8.updL hB8 AB, by rw [upd_same, List.map_append]; rfl, pj7, by omega⟩
      · have ne2 : PyData.eqv (.tuple ((at_ F2 w).map intD)) (.tuple []) = false := by
          cases e : at_ F2 w with
          | nil => exact absurd e c2
          | cons x l => rfl
        rw [ne2]
        refine iteF ?_
        exact ⟨F2, S2, _, _, rfl, e5.trans ex2, fa6, hB6, M.pj_skip pj5 hw c2, hm⟩
    · rintro σ' H5 ⟨F2, S2, s5, s6, rfl, e5, fa5, hB5, pj5, hm⟩
      rw [List.length_map] at pj5
      refine ⟨M.un F2 + S2.length, by rw [hm, List.length_append, List.length_singleton]; omega, F2, S2, _, _, _, rfl, e5, fa5, hB5, M.pj_end pj5, rfl⟩
end

end T1

namespace T1
open PySem PySem.Spec PyProof.Rows L2 G
open Evl (Ex)
local macro_rules | `(tactic| walk_at "dd") => `(tactic| (dsimp only [tCB, tCons, tNil, tC, tOp, tUn, tTest, tB, tVar, tAndV, tOrV, tNotV, tIf, tAnd, tOr, tNot, tSeq, tRet, tRetN, tIfS, tAsg, gName, tDrop, tTup, tLst, tChain, tNext, tCall, L2.start]))
/-- the roads of data -/
def rdsOf (d : PyData) : List (Nat × Nat) := (items d).map fun x => rdN (rd x)
/-- the rows of neighbours -/
def nbs (n : Nat) (rs : List (Nat × Nat)) : List (List Nat) := (List.range n).map (nb rs n)
/-- the tree of n houses and the roads rs stands at a -/
structure TreeAt (K : PySem.W.Frag) (H : Hp) (a : Addr) (n : Nat) (rs : List (Nat × Nat)) (Fs : List (List (List Nat))) : Prop where
  at_ : ∃ dx r1 r2 r3, H a = some (.ins (He.ga K "Tree") dx [("houses", iV n), ("roads", r1), ("near", r2), ("ways", r3)]) ∧ Dq K H r1 (.tuple (rs.map pairD)) ∧ Dq K H r2 (rowsD (nbs n rs)) ∧ Dq K H r3 (.tuple (Fs.map rowsD))
  fl : Fs.length = n
  fw : ∀ h F, Fs[h]? = some F → M.Ways (nbs n rs) h F
  n1 : 1 ≤ n
  n16 : n ≤ 16
  good : Good n rs
theorem TreeAt.mono {K : PySem.W.Frag} {H H' : Hp} {a : Addr} {n : Nat} {rs Fs} (e : Ex H H') (h : TreeAt K H a n rs Fs) : TreeAt K H' a n rs Fs := by
  obtain ⟨⟨dx, r1, r2, r3, z, h1, h2, h3⟩, b1, b2, b3, b4, b5⟩ := h
  exact ⟨⟨dx, r1, r2, r3, e _ _ z, h1.mono e, h2.mono e, h3.mono e⟩, b1, b2, b3, b4, b5⟩
/-- an error x with one field stands in dict d -/
def Err1 (K : PySem.W.Frag) (E : XK) (H : Hp) (x f : Str) (v : V) : Prop := ∀ d H', Ex H H' → H' d = some (.xd [(f, v)]) → E (.ref (He.ga K x)) (some d) H'
def okN (d : PyData) : Bool := match d with
  | .int i => decide (1 ≤ i) && decide (i ≤ 16)
  | _ => false
/-- the promise of Tree(houses, roads), H the heap before -/
def treeP (K : PySem.W.Frag) (hv rv : V) (H : Hp) (Q : Addr → Hp → Prop) (E : XK) (a : Addr) : Prop := ∃ d1 d2, Dq K H hv d1 ∧ Dq K H rv d2 ∧ (items d2).length ≤ 100000 ∧ (∀ x ∈ items d2, (items x).length ≤ 100000) ∧
  (okN d1 = false → Err1 K E H "InvalidHouses" "given" hv) ∧
  (∀ n : Nat, d1 = .int n → 1 ≤ n → n ≤ 16 → areRds d2 n = false → Err1 K E H "InvalidRoads" "given" rv) ∧
  (∀ (n : Nat) F j, d1 = .int n → 1 ≤ n → n ≤ 16 → areRds d2 n = true → M.Ways (nbs n (rdsOf d2)) 0 F → j < n → M.at_ F j = [] → (∀ m, m < j → M.at_ F m ≠ []) → Err1 K E H "NotJoined" "house" (.int j)) ∧
  (∀ (n : Nat) Fs H', d1 = .int n → areRds d2 n = true → Ex H H' → TreeAt K H' a n (rdsOf d2) Fs → (∀ F, Fs[0]? = some F → ∀ v, v < n → M.at_ F v ≠ []) → Q a H')
theorem asc_lt : ∀ {l : List (Int × Int)}, asc l = true → l.Pairwise fun p q => ltR p q = true := by
  have tr : ∀ {a b c : Int × Int}, ltR a b = true → ltR b c = true → ltR a c = true := fun {a b c} h1 h2 => by
    unfold ltR at *; simp at *; omega
  intro l h
  unfold asc at h
  rw [all_range_map] at h
  have st : ∀ i, i + 1 < l.length → ltR (l[i]?.getD (0, 0)) (l[i + 1]?.getD (0, 0)) = true := fun i hi => by
    simp at h; exact h i (by omega)
  clear h
  induction l with
  | nil => exact .nil
  | cons a l ih =>
    have ih' := ih fun i hi => by have z := st (i + 1) (by simp only [List.length_cons]; omega); simpa using z
    refine List.pairwise_cons.mpr ⟨?_, ih'⟩
    cases l with
    | nil => simp
    | cons b l =>
      have ab : ltR a b = true := by have z := st 0 (by simp); simpa using z
      intro c hc
      rcases List.mem_cons.1 hc with rfl | hc
      · exact ab
      · exact tr ab ((List.pairwise_cons.mp ih').1 c hc)
/-- roads that are right -/
theorem rds_good {d : PyData} {n : Nat} (h : areRds d n = true) : isSeq d = true ∧ Good n (rdsOf d) ∧ items d = (rdsOf d).map pairD ∧ ((rdsOf d).length : Int) = n - 1 := by
  unfold areRds at h
  simp only [Bool.and_eq_true, decide_eq_true_eq, List.all_eq_true] at h
  obtain ⟨h1, h2, h3, h4⟩ := h
  have pr : ∀ x ∈ items d, x = pairD (rdN (rd x)) ∧ (rdN (rd x)).1 < (rdN (rd x)).2 ∧ (rdN (rd x)).2 < n := fun x hx => by
    obtain ⟨u, v, rfl, a1, a2, a3, a4, a5⟩ := isRd_of (h3 x hx)
    refine ⟨?_, ?_, ?_⟩
    · simp only [rd, rdN, pairD, intD]
      rw [Int.toNat_of_nonneg a1, Int.toNat_of_nonneg a3]
    · simp only [rd, rdN]; omega
    · simp only [rd, rdN]; omega
  refine ⟨h1, ⟨fun p hp => ?_, ?_⟩, ?_, by rw [rdsOf, List.length_map]; exact h2⟩
  · obtain ⟨x, hx, rfl⟩ := List.mem_map.mp hp
    exact (pr x hx).2
  · have z := asc_lt h4
    rw [List.pairwise_map] at z
    rw [rdsOf, List.Nodup, List.pairwise_map]
    refine z.imp_of_mem fun {x y} hx hy l e => ?_
    have e1 := (pr x hx).1
    have e2 := (pr y hy).1
    rw [e] at e1
    have : x = y := e1.trans e2.symm
    subst this
    unfold ltR at l; simp at l
  · rw [rdsOf, List.map_map]
    exact ((List.map_congr_left fun x hx => ((pr x hx).1).symm).trans (List.map_id _)).symm
theorem canLay_ints (l : List Nat) : PyData.canLayAll0 (l.map intD) = true := by
  induction l with
  | nil => rfl
  | cons k l ih => simp only [List.map_cons, PyData.canLayAll0, ih, Bool.and_true]; rfl
theorem depth_ints (l : List Nat) : PyData.depthAll (l.map intD) ≤ 1 := by
  induction l with
  | nil => simp [PyData.depthAll]
  | cons k l ih => simp only [List.map_cons, PyData.depthAll, intD, PyData.depth]; omega
theorem tups_ints (l : List Nat) : tupsAll (l.map intD) = true := by
  induction l with
  | nil => rfl
  | cons k l ih => simp only [List.map_cons, tupsAll, ih, Bool.and_true]; rfl
theorem tups_row (l : List Nat) : tups (rowD l) = true := by unfold rowD; rw [tups]; exact tups_ints l
theorem tups_rows (F : List (List Nat)) : tups (rowsD F) = true := by
  unfold rowsD; rw [tups, tupsAll_iff]
  intro d hd
  obtain ⟨l, _, rfl⟩ := List.mem_map.mp hd
  exact tups_row l
theorem shaped_rows (F : List (List Nat)) : SeqAt.shaped (rowsD F) = true := by
  have a : PyData.canLayAll0 (F.map rowD) = true ∧ PyData.depthAll (F.map rowD) ≤ 2 := by
    induction F with
    | nil => exact ⟨rfl, by simp [PyData.depthAll]⟩
    | cons l F ih =>
      have := depth_ints l
      refine ⟨?_, ?_⟩
      · simp only [List.map_cons, PyData.canLayAll0, ih.1, Bool.and_true, rowD, PyData.canLay0]; exact canLay_ints l
      · simp only [List.map_cons, PyData.depthAll, rowD, PyData.depth]; omega
  unfold SeqAt.shaped rowsD
  rw [Bool.and_eq_true, decide_eq_true_eq]
  exact ⟨by simpa [PyData.canLay0] using a.1, by simp only [PyData.depth]; omega⟩
theorem eqv_row (l : List Nat) : PyData.eqv (rowD l) (.tuple []) = l.isEmpty := by
  cases l <;> rfl
theorem any_row (F : List (List Nat)) : ((F.map rowD).any fun z => PyData.eqv z (.tuple [])) = F.any (·.isEmpty) := by
  rw [List.any_map]
  congr 1
  funext l
  exact eqv_row l
theorem at_of {F : List (List Nat)} {v : Nat} {l : List Nat} (h : F[v]? = some l) : M.at_ F v = l := by unfold M.at_; rw [h]; rfl
def sp_Tree___init__ (K : PySem.W.Frag) : Sp := sp3 fun a b c H Q E => ∃ H0 s dx, a = .ref s ∧ Ex H0 H ∧ H0 s = none ∧ H s = some (.ins (He.ga K "Tree") dx []) ∧ treeP K b c H0 (fun _ H' => Q .non H') E s
section
variable {K : PySem.W.Frag} {mg : Str → Option Value} {P : Program} {w : World} {base : Heap}
theorem ok_Tree___init__ (T : Tx K mg) : ∃ fd, FunD K "__init__" "Tree.__init__" (defArgs st_Tree___init__) (defBody st_Tree___init__) (defScope st_Tree___init__) [] [] (He.ma K (He.ga K "Tree") "__init__") fd ∧ FG P w K mg base (L2.CX P w) 5 (He.ma K (He.ga K "Tree") "__init__") fd ["self", "houses", "roads"] (sp_Tree___init__ K) := by
  obtain ⟨fd, F⟩ := fD_Tree___init__ T
  refine ⟨fd, F, fg_of F sc_Tree___init__ (fun vs H Q E h => len3 h) (fun cdv A outer s H vs Q E hr h => ?_)⟩
  obtain ⟨a, b, c, rfl, h⟩ := h
  refine ⟨_, (pss_cons (ps_if (PW.pt (pw_or (pt_not (pt_val (pe_c (ok_is_integer T) (hr.mono (by decide)) rfl pass0 (pa_cons (pv 1) pa_nil)))) (pw_or1 (pt_not (pt_chain op_le op_le pe_int (pv 1) (pe_glob (v := .int 16) rfl (T.con_MOST_HOUSES).choose_spec ⟨_, rfl⟩)))))) (pss_one (ps_raise rfl (takes_of rfl rfl rfl rfl) (pmk_InvalidHouses T hr rfl (pa_cons (pv 1) pa_nil)))) pss_nil)
      (pss_cons (ps_if (pt_not (pt_val (pe_c (ok_are_roads T) (hr.mono (by decide)) rfl pass0 (pa_cons (pv 2) (pa_cons (pv 1) pa_nil))))) (pss_one (ps_raise rfl (takes_of rfl rfl rfl rfl) (pmk_InvalidRoads T hr rfl (pa_cons (pv 2) pa_nil)))) pss_nil)
      (pss_cons (ps_fld (pv 0) (pv 1) rfl)
      (pss_cons (ps_fld (pv 0) (pe_callTy (call_tupK (K := K)) (by rfl) (T.free 15 rfl) (by decide +kernel) (pa_cons (pv 2) pa_nil)) rfl)
      (pss_cons (ps_fld (pv 0) (pe_c (ok_joined_by T) (hr.mono (by decide)) rfl pass0 (pa_cons (pv 1) (pa_cons (pv 2) pa_nil))) rfl)
      (pss_cons (ps_fld (pv 0) (pe_callTy (call_tupK (K := K)) (by rfl) (T.free 15 rfl) (by decide +kernel) (pa_cons (pe_lc (own := [("house", 3)]) rfl sc_Tree___init__.nd (pi_range1 (by rfl) (T.free 11 rfl) (pa_cons (pv 1) pa_nil)) (blkOk_by (own := [("house", 3)]) (N := ["self", "houses", "roads", "house"]) (sc := defScope st_Tree___init__) (by decide +kernel)) (fun _ _ _ _ _ => (pg_name (i := 3) sc_Tree___init__.nd rfl (Or.inl rfl))) (fun _ _ _ _ _ => pts_nil) (fun _ _ _ _ _ => (pe_c (ok_ways_from T) (hr.mono (by decide)) rfl pass0 (pa_cons (pe_fldK (K := K) (pv 0)) (pa_cons (pv 3) pa_nil))))) pa_nil)) rfl)
      (pss_one (ps_if (pt_cmpR (op_inT (K := K) (hu65 hr.r)) (pe_tup pa_nil) (pe_ix (ix_tupK (K := K)) (pe_fldK (K := K) (pv 0)) pe_int (fun _ _ => rfl)) (by with_unfolding_all rfl)) (pss_one (ps_raise rfl (takes_of rfl rfl rfl rfl) (pmk_NotJoined T hr rfl (pa_cons (pe_bmT PySem.F.plainAttrs_tuple PySem.F.slot_tuple_index PySem.F.type_tuple_index (mt_indexT (K := K) (hu65 hr.r)) (pe_ix (ix_tupK (K := K)) (pe_fldK (K := K) (pv 0)) pe_int (fun _ _ => rfl)) (pa_cons (pe_tup pa_nil) pa_nil)) pa_nil)))) pss_nil)))))))), ?_⟩
  obtain ⟨H0, s0, dx, rfl, e0, hs0, hs, d1, d2, hd1, hd2, hl, hl2, q1, q2, q3, q4⟩ := h
  refine seq_at ?_
  refine ⟨_, rfl, _, rfl, d1, hd1.mono e0, _, rfl, ?_⟩
  cases hi : isInt d1 with
  | false =>
    refine iteT (iteT ?_)
    exact ⟨_, rfl, _, rfl, fun d H' _ e hx => q1 (by cases d1 <;> first | rfl | cases hi) d H' (e0.trans e) hx⟩
  | true =>
  obtain ⟨i, rfl⟩ : ∃ i, d1 = .int i := by cases d1 <;> first | exact ⟨_, rfl⟩ | cases hi
  cases hd1
  refine iteF ?_
  refine ⟨_, rfl, 1, i, rfl, rfl, _, rfl, ?_⟩
  by_cases c1 : (1 : Int) ≤ i
  · rw [decide_eq_true c1]
    refine iteT ⟨i, 16, rfl, rfl, _, rfl, ?_⟩
    by_cases c2 : i ≤ 16
    · rw [decide_eq_true c2]
      refine iteF ?_
      obtain ⟨n, rfl⟩ : ∃ n : Nat, i = n := ⟨i.toNat, by omega⟩
      dsimp only [tNext]
      refine seq_at ?_
      have n1 : 1 ≤ n := by omega
      have n16 : n ≤ 16 := by omega
      refine ⟨_, rfl, _, rfl, _, _, rfl, d2, n, hd2.mono e0, rfl, hl, hl2, fun H1 e1 => ⟨_, rfl, ?_⟩⟩
      have e01 := e0.trans e1
      cases ar : areRds d2 n with
      | false =>
        refine iteT ?_
        exact ⟨_, rfl, _, rfl, fun d H' _ e hx => q2 n rfl n1 n16 ar d H' (e01.trans e) hx⟩
      | true =>
      refine iteF ?_
      obtain ⟨isq, G, ie, rl⟩ := rds_good ar
      dsimp only [tNext]
      refine seq_at ?_
      refine ⟨_, rfl, _, rfl, s0, _, dx, [], rfl, e1 _ _ hs, cl_Tree T, no_Tree_houses T, by decide, ?_⟩
      dsimp only
      refine seq_at ?_
      have e02 := Evl.Ex.mut (o := .ins (He.ga K "Tree") dx (putF "houses" (.int (n : Int)) [])) e01 hs0
      obtain ⟨p, xs, rfl, hx, hds⟩ := dq_seq hd2 isq
      rw [ie] at hds
      refine fld_at (cb_at ⟨_, rfl, ?_⟩)
      refine tup_any (hx.imp (Evl.ex_l e02) (Evl.ex_t e02)) (hds.mono e02) fun r1 H2 e2 hr1 => ?_
      refine ⟨_, rfl, s0, _, dx, _, rfl, e2 _ _ upd_same, cl_Tree T, no_Tree_roads T, (by decide : (1 : Nat) < 1000), ?_⟩
      dsimp only
      refine seq_at ?_
      have g2 := e2 _ _ (upd_same (H := H1) (a := s0) (o := .ins (He.ga K "Tree") dx (putF "houses" (.int (n : Int)) [])))
      have e03 := Evl.Ex.mut (o := .ins (He.ga K "Tree") dx (putF "roads" r1 (putF "houses" (.int (n : Int)) []))) (e02.trans e2) hs0
      have hr1' := Dq.ins (o := .ins (He.ga K "Tree") dx (putF "roads" r1 (putF "houses" (.int (n : Int)) []))) g2 hr1
      refine ⟨_, rfl, _, rfl, _, _, rfl, n, rdsOf d2, d2, rfl, by omega, hd2.mono e03, isq, ie, by omega, G, fun r2 H3 e3 hr2 => ?_⟩
      have g3 := e3 _ _ (upd_same (H := H2) (a := s0) (o := .ins (He.ga K "Tree") dx (putF "roads" r1 (putF "houses" (.int (n : Int)) []))))
      refine ⟨_, rfl, s0, _, dx, _, rfl, g3, cl_Tree T, no_Tree_near T, (by show 2 < 1000; decide), ?_⟩
      have e04 := Evl.Ex.mut (o := .ins (He.ga K "Tree") dx (putF "near" r2 (putF "roads" r1 (putF "houses" (.int (n : Int)) [])))) (e03.trans e3) hs0
      have hr1'' := Dq.ins (o := .ins (He.ga K "Tree") dx (putF "near" r2 (putF "roads" r1 (putF "houses" (.int (n : Int)) [])))) g3 (hr1'.mono e3)
      have hr2' := Dq.ins (o := .ins (He.ga K "Tree") dx (putF "near" r2 (putF "roads" r1 (putF "houses" (.int (n : Int)) [])))) g3 hr2
      dsimp only
      refine seq_at (fld_at (cb_at ?_))
      refine lc_at (n := n) (item := fun i => .int (0 + i)) (fun _ => true) (fun i D y H' => ∃ F, M.Ways (nbs n (rdsOf d2)) i F ∧ Dq K (L2.del H' D) y (rowsD F) ∧ FrzT (L2.del H' D) y) (line_big (by omega)) (fun P q => w_rng1 (fun Q q => ⟨_, rfl, q⟩) (by omega) fun J H1 e S => q J H1 e (S.mono e)) ?_ ?_ ?_ ?_
      · rintro i D y H' o _ ⟨F, h1, h2⟩
        exact ⟨F, h1, by rw [del_upd]; exact h2⟩
      · rintro i D y H' H'' e ⟨F, h1, h2⟩
        exact ⟨F, h1, h2.1.mono (Ex.del e), h2.2.mono (Ex.del e)⟩
      · rintro i D H5 hi hD e5 ⟨ac, hac⟩ Ny Nn hy _
        refine ⟨rfl, ?_⟩
        have ei : ((0 : Int) + (i : Int)) = ((i : Nat) : Int) := by omega
        have ln : (nbs n (rdsOf d2)).length = n := by unfold nbs; rw [List.length_map, List.length_range]
        refine ⟨_, rfl, s0, _, dx, _, _, rfl, e5 _ _ upd_same, cl_Tree T, no_Tree_near T, rfl, _, rfl, _, _, rfl, nbs n (rdsOf d2), i, hr2'.mono e5, by rw [ei], by rw [ln]; exact hi, by rw [ln]; omega, ?_, fun r H6 F e6 hF hr hz => ?_⟩
        · rw [ln]
          intro l hl v hv
          obtain ⟨h, _, rfl⟩ := List.mem_map.mp hl
          unfold nb at hv
          exact List.mem_range.mp (List.mem_filter.mp hv).1
        · exact hy _ _ rfl e6 ⟨F, hF, hr.del (e6 _ _ hac) (tups_rows F), hz.del (e6 _ _ hac)⟩
      · intro D ys H5 hD e5 hd5 f
        rw [range_all] at f
        obtain ⟨Fs, f1, f2⟩ := f2_choose f
        obtain ⟨fl, fw⟩ := f2_range f1
        have fd := (f2_dq (f2.imp fun _ _ h => h.1)).mono Ex.ofDel
        have fz : ∀ i v, ys[i]? = some v → FrzT H5 v := fun i v hv => by
          have g : ∀ {cs : List (List (List Nat))} {vs : List V}, F2 (fun F y => Dq K (L2.del H5 D) y (rowsD F) ∧ FrzT (L2.del H5 D) y) cs vs → ∀ {i : Nat} {v : V}, vs[i]? = some v → FrzT H5 v := by
            intro cs vs h
            induction h with
            | nil => intro i v hv; simp at hv
            | cons h _ ih =>
              intro i v hv
              cases i with
              | zero => simp at hv; subst hv; exact h.2.mono Ex.ofDel
              | succ i => exact ih (by simpa using hv)
          exact g f2 hv
        refine ⟨D, ys, rfl, .inl ⟨SqL.of hd5, fun p3 hl3 => ?_⟩⟩
        have e6 := Evl.Ex.new (o := .tup ys) hl3
        have sq3 : SqT K (upd H5 p3 (.tup ys)) p3 ys := SqT.of upd_same
        generalize upd H5 p3 (.tup ys) = H6 at e6 sq3 ⊢
        have e06 := e5.trans e6
        refine ⟨_, rfl, s0, _, dx, _, rfl, e06 _ _ upd_same, cl_Tree T, no_Tree_ways T, (by show 3 < 1000; decide), ?_⟩
        dsimp only
        have e05 := e04.trans e06
        generalize hF5 : HO.ins (He.ga K "Tree") dx (putF "ways" (.ref p3) (putF "near" r2 (putF "roads" r1 (putF "houses" (.int (n : Int)) [])))) = o5
        have t1 := Dq.ins (o := o5) (e06 _ _ upd_same) (hr1''.mono e06)
        have t2 := Dq.ins (o := o5) (e06 _ _ upd_same) (hr2'.mono e06)
        have hx3 := SqT.ins (o := o5) sq3 (e06 _ _ upd_same)
        have hds3 := Dqs.ins (o := o5) (e06 _ _ upd_same) (fd.mono e6)
        have fz7 : ∀ i v, ys[i]? = some v → FrzT (upd H6 s0 o5) v := fun i v hv => ((fz i v hv).mono e6).ins (e06 _ _ upd_same)
        have e7 := Evl.Ex.mut (o := o5) e05 hs0
        generalize hH7 : upd H6 s0 o5 = H7 at *
        have g7 : H7 s0 = some o5 := by rw [← hH7]; exact upd_same
        obtain ⟨F0, hF0⟩ : ∃ F0, Fs[0]? = some F0 := ⟨_, List.getElem?_eq_getElem (by omega)⟩
        have hW := fw 0 F0 hF0
        subst hF5
        obtain ⟨v0, hv0, hq0⟩ := hds3.at_ (i := 0) (d := rowsD F0) (by rw [List.getElem?_map, hF0]; rfl)
        refine ⟨Nat.zero_le _, fun p7 hp7 => ?_⟩
        have e8 := Evl.Ex.new (o := .tup []) hp7
        refine ⟨_, rfl, s0, _, dx, _, _, rfl, e8 _ _ g7, cl_Tree T, no_Tree_ways T, rfl, p3, ys, 0, v0, rfl, rfl, Evl.ex_t e8 hx3, atI_nat (j := 0) hv0, ?_⟩
        have sh0 : SeqAt.shaped (.tuple (F0.map rowD)) = true := shaped_rows F0
        refine ⟨.tuple [], F0.map rowD, dp_tup (l := []) upd_same, (hq0.mono e8).dp (SeqAt.canLay_of_shaped sh0), (shaped_ints []).2, sh0, _, rfl, ?_⟩
        rw [any_row]
        cases ea : F0.any (·.isEmpty) with
        | false =>
          refine iteF ?_
          have al : ∀ v, v < n → M.at_ F0 v ≠ [] := fun v hv => by
            have lF : F0.length = n := by rw [hW.len]; unfold nbs; rw [List.length_map, List.length_range]
            intro z
            have hm : F0[v]? = some F0[v] := List.getElem?_eq_getElem (by omega)
            rw [at_of hm] at z
            have : F0.any (·.isEmpty) = true := List.any_eq_true.mpr ⟨_, List.mem_of_getElem? hm, by rw [z]; rfl⟩
            rw [ea] at this; cases this
          refine q4 n Fs _ rfl ar (e7.trans e8) ?_ fun F hF => by rw [hF0] at hF; cases hF; exact al
          exact TreeAt.mono e8 ⟨⟨dx, r1, r2, _, g7, t1, t2, .tup hx3 hds3⟩, fl, fw, n1, n16, G⟩
        | true =>
          refine iteT ?_
          have lF : F0.length = n := by rw [hW.len]; unfold nbs; rw [List.length_map, List.length_range]
          obtain ⟨a0, xs0, rfl, hx0⟩ : ∃ a0 xs0, v0 = .ref a0 ∧ SqT K H7 a0 xs0 := by
            unfold rowsD at hq0
            cases hq0 with
            | tup h hs => exact ⟨_, _, rfl, h⟩
          have jl : F0.findIdx (·.isEmpty) < F0.length := List.findIdx_lt_length.mpr (by simpa using List.any_eq_true.mp ea)
          have jn := List.findIdx_getElem (w := jl)
          refine ⟨_, rfl, s0, _, dx, _, _, rfl, e8 _ _ g7, cl_Tree T, no_Tree_ways T, rfl, p3, ys, 0, _, rfl, rfl, Evl.ex_t e8 hx3, atI_nat (j := 0) hv0, ?_⟩
          refine ⟨(fz7 _ _ hv0).mono e8, Nat.zero_le _, fun p9 hp9 => ?_⟩
          have e9 := e8.trans (Evl.Ex.new (o := .tup []) hp9)
          refine ⟨_, _, .tuple [], F0.map rowD, F0.findIdx (·.isEmpty), rowD (F0[F0.findIdx (·.isEmpty)]), rfl, rfl, (hq0.mono e9).dp (SeqAt.canLay_of_shaped sh0), dp_tup (l := []) upd_same, sh0, (shaped_ints []).2, ?_, ?_, ?_, ?_⟩
          · rw [List.getElem?_map, List.getElem?_eq_getElem jl]; rfl
          · rw [eqv_row]; exact jn
          · intro m z' hm hz
            rw [List.getElem?_map] at hz
            obtain ⟨l, h1, rfl⟩ := Option.map_eq_some_iff.mp hz
            rw [eqv_row]
            have := List.not_of_lt_findIdx hm
            obtain ⟨hml, h2⟩ := List.getElem?_eq_some_iff.mp h1
            rw [h2] at this
            simpa using this
          · refine ⟨_, rfl, fun d H' _ e hx => q3 n F0 (F0.findIdx (·.isEmpty)) rfl n1 n16 ar hW (by omega) ?_ ?_ d H' ((e7.trans e9).trans e) hx⟩
            · rw [at_of (List.getElem?_eq_getElem jl)]; simpa using jn
            · intro m hm z
              have hml : m < F0.length := by omega
              rw [at_of (List.getElem?_eq_getElem hml)] at z
              have := List.not_of_lt_findIdx hm
              rw [z] at this; simp at this
    · rw [decide_eq_false c2]
      refine iteT ?_
      exact ⟨_, rfl, _, rfl, fun d H' _ e hx => q1 (by simp [okN, c2]) d H' (e0.trans e) hx⟩
  · rw [decide_eq_false c1]
    refine iteF ⟨_, rfl, iteT ?_⟩
    exact ⟨_, rfl, _, rfl, fun d H' _ e hx => q1 (by simp [okN, c1]) d H' (e0.trans e) hx⟩
end

end T1

namespace T1
open PySem PySem.Spec PyProof.Rows L2 G
open Evl (Ex)
local macro_rules | `(tactic| walk_at "dd") => `(tactic| (dsimp only [tCB, tCons, tNil, tC, tOp, tUn, tTest, tB, tVar, tAndV, tOrV, tNotV, tIf, tAnd, tOr, tNot, tSeq, tRet, tRetN, tIfS, tAsg, gName, tDrop, tTup, tLst, tChain, tNext, tCall, L2.start]))
def sp_Tree___contains__ (K : PySem.W.Frag) : Sp := sp2 fun a b H Q E => ∃ s n rs Fs d, a = .ref s ∧ TreeAt K H s n rs Fs ∧ Dq K H b d ∧ Q (.bl (isIdx d n)) H
section
variable {K : PySem.W.Frag} {mg : Str → Option Value} {P : Program} {w : World} {base : Heap}
theorem ok_Tree___contains__ (T : Tx K mg) : ∃ fd, FunD K "__contains__" "Tree.__contains__" (defArgs st_Tree___contains__) (defBody st_Tree___contains__) (defScope st_Tree___contains__) [] [] (He.ma K (He.ga K "Tree") "__contains__") fd ∧ FG P w K mg base CX0 3 (He.ma K (He.ga K "Tree") "__contains__") fd ["self", "value"] (sp_Tree___contains__ K) := by
  obtain ⟨fd, F⟩ := fD_Tree___contains__ T
  refine ⟨fd, F, fg_of F sc_Tree___contains__ (fun vs H Q E h => len2 h) (fun cdv A outer s H vs Q E hr h => ?_)⟩
  obtain ⟨a, b, rfl, h⟩ := h
  refine ⟨_, (PSs.nox (pss_one (ps_ret (pe_c (ok_is_index T) (hr.mono (by decide)) rfl pass0 (pa_cons (pv 1) (pa_cons (pe_fldK (K := K) (pv 0)) pa_nil)))))), ?_⟩
  obtain ⟨s0, n, rs, Fs, d, rfl, t, hd, q⟩ := h
  obtain ⟨dx, r1, r2, r3, g, _⟩ := t.at_
  exact ⟨_, rfl, _, rfl, s0, _, dx, _, _, rfl, g, cl_Tree T, no_Tree_houses T, rfl, _, _, rfl, d, n, hd, rfl, q⟩
end
def sp_Tree___len__ (K : PySem.W.Frag) : Sp := sp1 fun a H Q E => ∃ s n rs Fs, a = .ref s ∧ TreeAt K H s n rs Fs ∧ Q (.int (n : Int)) H
section
variable {K : PySem.W.Frag} {mg : Str → Option Value} {P : Program} {w : World} {base : Heap}
theorem ok_Tree___len__ (T : Tx K mg) : ∃ fd, FunD K "__len__" "Tree.__len__" (defArgs st_Tree___len__) (defBody st_Tree___len__) (defScope st_Tree___len__) [] [] (He.ma K (He.ga K "Tree") "__len__") fd ∧ FG P w K mg base CX0 1 (He.ma K (He.ga K "Tree") "__len__") fd ["self"] (sp_Tree___len__ K) := by
  obtain ⟨fd, F⟩ := fD_Tree___len__ T
  refine ⟨fd, F, fg_of F sc_Tree___len__ (fun vs H Q E h => len1 h) (fun cdv A outer s H vs Q E hr h => ?_)⟩
  obtain ⟨a, rfl, h⟩ := h
  refine ⟨_, (PSs.nox (pss_one (ps_ret (pe_callB (call_lenK (K := K)) (by rfl) (T.free 7 rfl) (by decide +kernel) (pa_cons (pe_fldK (K := K) (pv 0)) pa_nil))))), ?_⟩
  obtain ⟨s0, n, rs, Fs, rfl, t, q⟩ := h
  obtain ⟨dx, r1, r2, r3, g, _, g2, _⟩ := t.at_
  obtain ⟨t2, xs, rfl, sx, ds⟩ := rows_at g2
  refine ⟨_, rfl, s0, _, dx, _, _, rfl, g, cl_Tree T, no_Tree_near T, rfl, t2, xs, rfl, .inr sx, ?_⟩
  have e : xs.length = n := by rw [ds.length]; unfold nbs; rw [List.length_map, List.length_map, List.length_range]
  rw [e]; exact q
end
section
variable {X : Cx} {K : PySem.W.Frag}
theorem bind1 {x qual : Str} {params : Arguments} {body : List Stmt} {scope : Scope} {kws : List (Str × V)} {f : Addr} {fd : FuncData} {ps : List Str} (F : FunD K x qual params body scope [] kws f fd)
    (hb : ∀ (kV doc pm : Value) (an : Option Addr) (cdv ct : Value) (us : List Value), us.length = ps.length → bindArgs (PySem.W.fnOf x qual params body scope .none kV doc pm an cdv ct) ⟨us, []⟩ = pure (ps.zip us)) : Binds K fd ps [] := F.bindsN hb
theorem tree_nin (T : Tx X.K X.mg) (hr : RG 3 X.A) (h : X.K = K := by rfl) : OpR X (compareOp .NotIn) (rInO (He.ga K "Tree") true (sp_Tree___contains__ K) E0) := by
  subst h
  obtain ⟨fd, F, G⟩ := ok_Tree___contains__ (P := X.prog) (w := X.w) (base := X.base) T
  exact op_ninO ⟨(me_Tree___contains__ T).at_, (me_Tree___contains__ T).fn.symm⟩ G hr (F.bindsN fun _ _ _ _ _ _ us hl => match us, hl with | [_, _], _ => rfl) pass0
theorem tree_in (T : Tx X.K X.mg) (hr : RG 3 X.A) (h : X.K = K := by rfl) : OpR X (compareOp .In) (rInO (He.ga K "Tree") false (sp_Tree___contains__ K) E0) := by
  subst h
  obtain ⟨fd, F, G⟩ := ok_Tree___contains__ (P := X.prog) (w := X.w) (base := X.base) T
  exact op_inO ⟨(me_Tree___contains__ T).at_, (me_Tree___contains__ T).fn.symm⟩ G hr (F.bindsN fun _ _ _ _ _ _ us hl => match us, hl with | [_, _], _ => rfl) pass0
theorem tree_len (T : Tx X.K X.mg) (hr : RG 2 X.A) (h : X.K = K := by rfl) : CallR X (.builtin "len") (rLenO (He.ga K "Tree") (sp_Tree___len__ K) E0) := by
  subst h
  obtain ⟨fd, F, G⟩ := ok_Tree___len__ (P := X.prog) (w := X.w) (base := X.base) T
  exact call_lenO ⟨(me_Tree___len__ T).at_, (me_Tree___len__ T).fn.symm⟩ G hr (F.bindsN fun _ _ _ _ _ _ us hl => match us, hl with | [_], _ => rfl) pass0
end
theorem TreeAt.ins {K : PySem.W.Frag} {H : Hp} {a : Addr} {n : Nat} {rs Fs} (h : TreeAt K H a n rs Fs) : InsAt (He.ga K "Tree") a H := let ⟨dx, _, _, _, g, _⟩ := h.at_; ⟨dx, _, g⟩
def sp_check_house (K : PySem.W.Frag) : Sp := sp2 fun a b H Q E => ∃ s n rs Fs d, a = .ref s ∧ TreeAt K H s n rs Fs ∧ Dq K H b d ∧ (isIdx d n = true → Q .non H) ∧ (isIdx d n = false → Err1 K E H "InvalidHouse" "given" b)
section
variable {K : PySem.W.Frag} {mg : Str → Option Value} {P : Program} {w : World} {base : Heap}
theorem ok_check_house (T : Tx K mg) : Cal P w K mg base (L2.CX P w) 4 "check_house" ["tree", "house"] (sp_check_house K) := by
  refine cal_of (fD_check_house T) (T.glo 20 rfl) sc_check_house (fun _ _ _ _ _ _ us hl => match us, hl with | [_, _], _ => rfl) (fun vs H Q E h => len2 h) (fun f cdv A outer s H vs Q E hr h => ?_)
  obtain ⟨a, b, rfl, h⟩ := h
  refine ⟨_, (pss_one (ps_if (pt_cmpR (tree_nin (K := K) T (hr.mono (by decide))) (pv 1) (pv 0) (by with_unfolding_all rfl)) (pss_one (ps_raise rfl (takes_of rfl rfl rfl rfl) (pmk_InvalidHouse T hr rfl (pa_cons (pv 1) pa_nil)))) pss_nil)), ?_⟩
  obtain ⟨s0, n, rs, Fs, d, rfl, t, hd, q1, q2⟩ := h
  refine ⟨_, rfl, _, rfl, s0, rfl, t.ins, _, _, rfl, s0, n, rs, Fs, d, rfl, t, hd, _, rfl, _, rfl, ?_⟩
  cases e : isIdx d n with
  | true => refine iteF ?_; exact q1 e
  | false =>
    refine iteT ?_
    exact ⟨_, rfl, _, rfl, fun d H' _ e' hx => q2 e d H' e' hx⟩
end

end T1

namespace T1
open PySem PySem.Spec PyProof.Rows L2 G
open Evl (Ex)
local macro_rules | `(tactic| walk_at "dd") => `(tactic| (dsimp only [tCB, tCons, tNil, tC, tOp, tUn, tTest, tB, tVar, tAndV, tOrV, tNotV, tIf, tAnd, tOr, tNot, tSeq, tRet, tRetN, tIfS, tAsg, gName, tDrop, tTup, tLst, tChain, tNext, tCall, L2.start]))
open M (at_)
def wy (Fs : List (List (List Nat))) (i j : Nat) : List Nat := at_ (Fs[i]?.getD []) j
structure TrF (K : PySem.W.Frag) (H : Hp) (s : Addr) (n : Nat) (rs : List (Nat × Nat)) (Fs : List (List (List Nat))) (dx t1 t2 t3 : Addr) (xs ys : List V) : Prop where
  g : ∃ r1, r1 = V.ref t1 ∧ H s = some (.ins (He.ga K "Tree") dx [("houses", iV n), ("roads", r1), ("near", .ref t2), ("ways", .ref t3)])
  rd : Dq K H (.ref t1) (.tuple (rs.map pairD))
  nx : SqT K H t2 xs
  nl : xs.length = n
  ni : ∀ i, i < n → ∃ tr, xs[i]? = some (.ref tr) ∧ SqT K H tr ((nb rs n i).map iV)
  wx : SqT K H t3 ys
  wi : ∀ i, i < n → ∃ ta zs, ys[i]? = some (.ref ta) ∧ SqT K H ta zs ∧ ∀ j, j < n → ∃ tr, zs[j]? = some (.ref tr) ∧ SqT K H tr ((wy Fs i j).map iV)
theorem TreeAt.f {K : PySem.W.Frag} {H : Hp} {s : Addr} {n : Nat} {rs Fs} (t : TreeAt K H s n rs Fs) : ∃ dx t1 t2 t3 xs ys, TrF K H s n rs Fs dx t1 t2 t3 xs ys := by
  obtain ⟨dx, r1, r2, r3, g, g1, g2, g3⟩ := t.at_
  obtain ⟨t2, xs, rfl, sx, ds⟩ := rows_at g2
  have g1' := g1
  cases g1 with
  | @tup t1 _ _ h1 hs1 =>
  cases g3 with
  | @tup t3 ys _ h3 hs3 =>
  have ln : (nbs n rs).length = n := by unfold nbs; rw [List.length_map, List.length_range]
  refine ⟨dx, t1, t2, t3, xs, ys, ⟨⟨_, rfl, g⟩, g1', sx, by rw [ds.length, List.length_map, ln], fun i hi => ?_, h3, fun i hi => ?_⟩⟩
  · have e : ((nbs n rs).map rowD)[i]? = some (rowD (nb rs n i)) := by
      unfold nbs
      rw [List.getElem?_map, List.getElem?_map, List.getElem?_range hi]; rfl
    obtain ⟨v, h1, h2⟩ := ds.at_ e
    obtain ⟨tr, rfl, h⟩ := row_at h2
    exact ⟨tr, h1, h⟩
  · have hf : i < Fs.length := by rw [t.fl]; exact hi
    have eF : Fs[i]? = some Fs[i] := List.getElem?_eq_getElem hf
    obtain ⟨v, h1, h2⟩ := hs3.at_ (i := i) (d := rowsD Fs[i]) (by rw [List.getElem?_map, eF]; rfl)
    obtain ⟨ta, zs, rfl, sz, dz⟩ := rows_at h2
    refine ⟨ta, zs, h1, sz, fun j hj => ?_⟩
    have lF : Fs[i].length = n := by rw [(t.fw i _ eF).len, ln]
    have ej : Fs[i][j]? = some (Fs[i][j]'(by omega)) := List.getElem?_eq_getElem (by omega)
    obtain ⟨v, h1, h2⟩ := dz.at_ (i := j) (d := rowD (wy Fs i j)) (by
      rw [List.getElem?_map, ej]
      have : wy Fs i j = Fs[i][j]'(by omega) := by unfold wy; rw [eF]; exact at_of ej
      rw [this]; rfl)
    obtain ⟨tr, rfl, h⟩ := row_at h2
    exact ⟨tr, h1, h⟩
theorem idx_nat {d : PyData} {n : Nat} (h : isIdx d n = true) : ∃ i : Nat, d = .int (i : Int) ∧ i < n := by
  obtain ⟨i, rfl, h1, h2⟩ := isIdx_int h
  exact ⟨i.toNat, by rw [Int.toNat_of_nonneg h1], by omega⟩
theorem isIdx_nat {i n : Nat} (h : i < n) : isIdx (.int (i : Int)) n = true := by
  simp only [isIdx, Bool.and_eq_true, decide_eq_true_eq]; omega
theorem inV_iff (k : Nat) (l : List Nat) : inV (iV k) (l.map iV) = l.contains k := by
  unfold inV
  rw [List.any_map, Bool.eq_iff_iff, List.any_eq_true, List.contains_iff_mem]
  constructor
  · rintro ⟨x, hx, e⟩
    have e' : ((x : Int) == (k : Int)) = true := e
    have : x = k := by have := beq_iff_eq.mp e'; omega
    exact this ▸ hx
  · exact fun h => ⟨k, h, by show ((k : Int) == (k : Int)) = true; simp⟩
theorem flat_iV (l : List Nat) : (l.map iV).all flatV = true := by
  rw [List.all_map]; exact List.all_eq_true.mpr fun _ _ => rfl
/-- an error of two fields -/
def Err2 (K : PySem.W.Frag) (E : XK) (H : Hp) (x f g : Str) (v u : V) : Prop := ∀ d H', Ex H H' → H' d = some (.xd [(g, u), (f, v)]) → E (.ref (He.ga K x)) (some d) H'
def sp_neighbours (K : PySem.W.Frag) : Sp := sp2 fun a b H Q E => ∃ s n rs Fs d, a = .ref s ∧ TreeAt K H s n rs Fs ∧ Dq K H b d ∧ (∀ (i : Nat) l, d = .int i → i < n → H l = none → Q (.ref l) (upd H l (.lst ((nb rs n i).map iV)))) ∧ (isIdx d n = false → Err1 K E H "InvalidHouse" "given" b)
section
variable {K : PySem.W.Frag} {mg : Str → Option Value} {P : Program} {w : World} {base : Heap}
theorem ok_neighbours (T : Tx K mg) : Cal P w K mg base (L2.CX P w) 5 "neighbours" ["tree", "house"] (sp_neighbours K) := by
  refine cal_of (fD_neighbours T) (T.glo 22 rfl) sc_neighbours (fun _ _ _ _ _ _ us hl => match us, hl with | [_, _], _ => rfl) (fun vs H Q E h => len2 h) (fun f cdv A outer s H vs Q E hr h => ?_)
  obtain ⟨a, b, rfl, h⟩ := h
  refine ⟨_, (pss_cons (ps_expr (pe_c (ok_check_house T) (hr.mono (by decide)) rfl (passes_call (E := E) (takes_of rfl rfl rfl rfl) fun _ _ _ _ h => h) (pa_cons (pv 0) (pa_cons (pv 1) pa_nil))))
      (pss_one (ps_ret (pe_callTy (call_listK (K := K)) (by rfl) (T.free 8 rfl) (by decide +kernel) (pa_cons (pe_ix (ix_tupK (K := K)) (pe_fldK (K := K) (pv 0)) (pv 1) (fun _ _ => rfl)) pa_nil))))), ?_⟩
  obtain ⟨s0, n, rs, Fs, d, rfl, t, hd, q1, q2⟩ := h
  refine seq_at ?_
  refine ⟨_, rfl, _, rfl, _, _, rfl, s0, n, rs, Fs, d, rfl, t, hd, fun e => ?_, q2⟩
  obtain ⟨dx, t1, t2, t3, xs, ys, f⟩ := t.f
  obtain ⟨r1, rfl, g⟩ := f.g
  obtain ⟨i, rfl, hi⟩ := idx_nat e
  obtain ⟨tr, hx, st⟩ := f.ni i hi
  cases hd
  exact ⟨_, rfl, s0, _, dx, _, _, rfl, g, cl_Tree T, no_Tree_near T, rfl, _, rfl, t2, xs, _, _, rfl, rfl, f.nx, atI_nat hx, _, _, rfl, .inr st, fun l hl => q1 i l rfl hi hl⟩
end
def sp_way (K : PySem.W.Frag) : Sp := sp3 fun a b c H Q E => ∃ s n rs Fs d e, a = .ref s ∧ TreeAt K H s n rs Fs ∧ Dq K H b d ∧ Dq K H c e ∧ (∀ (i j : Nat) tr, d = .int i → e = .int j → i < n → j < n → SqT K H tr ((wy Fs i j).map iV) → Q (.ref tr) H) ∧
  (isIdx d n = false → Err1 K E H "InvalidHouse" "given" b) ∧ (isIdx d n = true → isIdx e n = false → Err1 K E H "InvalidHouse" "given" c)
section
variable {K : PySem.W.Frag} {mg : Str → Option Value} {P : Program} {w : World} {base : Heap}
theorem ok_way (T : Tx K mg) : Cal P w K mg base (L2.CX P w) 5 "way" ["tree", "a", "b"] (sp_way K) := by
  refine cal_of (fD_way T) (T.glo 24 rfl) sc_way (fun _ _ _ _ _ _ us hl => match us, hl with | [_, _, _], _ => rfl) (fun vs H Q E h => len3 h) (fun f cdv A outer s H vs Q E hr h => ?_)
  obtain ⟨a, b, c, rfl, h⟩ := h
  refine ⟨_, (pss_cons (ps_expr (pe_c (ok_check_house T) (hr.mono (by decide)) rfl (passes_call (E := E) (takes_of rfl rfl rfl rfl) fun _ _ _ _ h => h) (pa_cons (pv 0) (pa_cons (pv 1) pa_nil))))
      (pss_cons (ps_expr (pe_c (ok_check_house T) (hr.mono (by decide)) rfl (passes_call (E := E) (takes_of rfl rfl rfl rfl) fun _ _ _ _ h => h) (pa_cons (pv 0) (pa_cons (pv 2) pa_nil))))
      (pss_one (ps_ret (pe_ix (ix_tupK (K := K)) (pe_ix (ix_tupK (K := K)) (pe_fldK (K := K) (pv 0)) (pv 1) (fun _ _ => rfl)) (pv 2) (fun _ _ => rfl)))))), ?_⟩
  obtain ⟨s0, n, rs, Fs, d, e, rfl, t, hd, he, q1, q2, q3⟩ := h
  refine seq_at ?_
  refine ⟨_, rfl, _, rfl, _, _, rfl, s0, n, rs, Fs, d, rfl, t, hd, fun ei => ?_, q2⟩
  refine seq_at ?_
  refine ⟨_, rfl, _, rfl, _, _, rfl, s0, n, rs, Fs, e, rfl, t, he, fun ej => ?_, q3 ei⟩
  obtain ⟨dx, t1, t2, t3, xs, ys, f⟩ := t.f
  obtain ⟨r1, rfl, g⟩ := f.g
  obtain ⟨i, rfl, hi⟩ := idx_nat ei
  obtain ⟨j, rfl, hj⟩ := idx_nat ej
  obtain ⟨ta, zs, hy, sz, w⟩ := f.wi i hi
  obtain ⟨tr, hz, st⟩ := w j hj
  cases hd; cases he
  exact ⟨_, rfl, s0, _, dx, _, _, rfl, g, cl_Tree T, no_Tree_ways T, rfl, _, rfl, t3, ys, _, _, rfl, rfl, f.wx, atI_nat hy, _, rfl, ta, zs, _, _, rfl, rfl, sz, atI_nat hz, q1 i j tr rfl rfl hi hj st⟩
end
def sp_distance (K : PySem.W.Frag) : Sp := sp3 fun a b c H Q E => ∃ s n rs Fs d e, a = .ref s ∧ TreeAt K H s n rs Fs ∧ Dq K H b d ∧ Dq K H c e ∧ (∀ (i j : Nat), d = .int i → e = .int j → i < n → j < n → Q (.int ((wy Fs i j).length - 1 : Int)) H) ∧
  (isIdx d n = false → Err1 K E H "InvalidHouse" "given" b) ∧ (isIdx d n = true → isIdx e n = false → Err1 K E H "InvalidHouse" "given" c)
section
variable {K : PySem.W.Frag} {mg : Str → Option Value} {P : Program} {w : World} {base : Heap}
theorem ok_distance (T : Tx K mg) : Cal P w K mg base (L2.CX P w) 6 "distance" ["tree", "a", "b"] (sp_distance K) := by
  refine cal_of (fD_distance T) (T.glo 25 rfl) sc_distance (fun _ _ _ _ _ _ us hl => match us, hl with | [_, _, _], _ => rfl) (fun vs H Q E h => len3 h) (fun f cdv A outer s H vs Q E hr h => ?_)
  obtain ⟨a, b, c, rfl, h⟩ := h
  refine ⟨_, (pss_one (ps_ret (pe_op op_sub (pe_callB (call_lenK (K := K)) (by rfl) (T.free 7 rfl) (by decide +kernel) (pa_cons (pe_c (ok_way T) (hr.mono (by decide)) rfl (passes_call (E := E) (takes_of rfl rfl rfl rfl) fun _ _ _ _ h => h) (pa_cons (pv 0) (pa_cons (pv 1) (pa_cons (pv 2) pa_nil)))) pa_nil)) pe_int))), ?_⟩
  obtain ⟨s0, n, rs, Fs, d, e, rfl, t, hd, he, q1, q2, q3⟩ := h
  refine ⟨_, rfl, _, rfl, _, rfl, _, _, _, rfl, s0, n, rs, Fs, d, e, rfl, t, hd, he, fun i j tr ei ej hi hj st => ?_, q2, q3⟩
  refine ⟨tr, _, rfl, .inr st, _, _, rfl, rfl, ?_⟩
  rw [List.length_map]
  exact q1 i j ei ej hi hj
end
def sp_on_way (K : PySem.W.Frag) : Sp := sp4 fun a b c d H Q E => ∃ s n rs Fs d1 d2 d3, a = .ref s ∧ TreeAt K H s n rs Fs ∧ Dq K H b d1 ∧ Dq K H c d2 ∧ Dq K H d d3 ∧ (∀ (i j k : Nat), d1 = .int i → d2 = .int j → d3 = .int k → i < n → j < n → k < n → Q (.bl ((wy Fs i j).contains k)) H) ∧
  (isIdx d1 n = false → Err1 K E H "InvalidHouse" "given" b) ∧ (isIdx d1 n = true → isIdx d2 n = false → Err1 K E H "InvalidHouse" "given" c) ∧ (isIdx d1 n = true → isIdx d2 n = true → isIdx d3 n = false → Err1 K E H "InvalidHouse" "given" d)
section
variable {K : PySem.W.Frag} {mg : Str → Option Value} {P : Program} {w : World} {base : Heap}
theorem ok_on_way (T : Tx K mg) : Cal P w K mg base (L2.CX P w) 5 "on_way" ["tree", "a", "b", "house"] (sp_on_way K) := by
  refine cal_of (fD_on_way T) (T.glo 27 rfl) sc_on_way (fun _ _ _ _ _ _ us hl => match us, hl with | [_, _, _, _], _ => rfl) (fun vs H Q E h => len4 h) (fun f cdv A outer s H vs Q E hr h => ?_)
  obtain ⟨a, b, c, d, rfl, h⟩ := h
  refine ⟨_, (pss_cons (ps_expr (pe_c (ok_check_house T) (hr.mono (by decide)) rfl (passes_call (E := E) (takes_of rfl rfl rfl rfl) fun _ _ _ _ h => h) (pa_cons (pv 0) (pa_cons (pv 1) pa_nil))))
      (pss_cons (ps_expr (pe_c (ok_check_house T) (hr.mono (by decide)) rfl (passes_call (E := E) (takes_of rfl rfl rfl rfl) fun _ _ _ _ h => h) (pa_cons (pv 0) (pa_cons (pv 2) pa_nil))))
      (pss_cons (ps_expr (pe_c (ok_check_house T) (hr.mono (by decide)) rfl (passes_call (E := E) (takes_of rfl rfl rfl rfl) fun _ _ _ _ h => h) (pa_cons (pv 0) (pa_cons (pv 3) pa_nil))))
      (pss_one (ps_ret (pe_cmpR (op_inK (K := K)) (pv 3) (pe_ix (ix_tupK (K := K)) (pe_ix (ix_tupK (K := K)) (pe_fldK (K := K) (pv 0)) (pv 1) (fun _ _ => rfl)) (pv 2) (fun _ _ => rfl)) (by with_unfolding_all rfl))))))), ?_⟩
  obtain ⟨s0, n, rs, Fs, d1, d2, d3, rfl, t, h1, h2, h3, q1, q2, q3, q4⟩ := h
  refine seq_at ?_
  refine ⟨_, rfl, _, rfl, _, _, rfl, s0, n, rs, Fs, d1, rfl, t, h1, fun ei => ?_, q2⟩
  refine seq_at ?_
  refine ⟨_, rfl, _, rfl, _, _, rfl, s0, n, rs, Fs, d2, rfl, t, h2, fun ej => ?_, q3 ei⟩
  refine seq_at ?_
  refine ⟨_, rfl, _, rfl, _, _, rfl, s0, n, rs, Fs, d3, rfl, t, h3, fun ek => ?_, q4 ei ej⟩
  obtain ⟨dx, t1, t2, t3, xs, ys, f⟩ := t.f
  obtain ⟨r1, rfl, g⟩ := f.g
  obtain ⟨i, rfl, hi⟩ := idx_nat ei
  obtain ⟨j, rfl, hj⟩ := idx_nat ej
  obtain ⟨k, rfl, hk⟩ := idx_nat ek
  obtain ⟨ta, zs, hy, sz, w⟩ := f.wi i hi
  obtain ⟨tr, hz, st⟩ := w j hj
  cases h1; cases h2; cases h3
  refine ⟨_, rfl, _, rfl, s0, _, dx, _, _, rfl, g, cl_Tree T, no_Tree_ways T, rfl, _, rfl, t3, ys, _, _, rfl, rfl, f.wx, atI_nat hy, _, rfl, ta, zs, _, _, rfl, rfl, sz, atI_nat hz, tr, _, rfl, .inr st, rfl, flat_iV _, ?_⟩
  have z := q1 i j k rfl rfl rfl hi hj hk
  rw [← inV_iff] at z
  exact z
end

end T1

namespace T1
open PySem PySem.Spec PyProof.Rows L2 G
open Evl (Ex)
local macro_rules | `(tactic| walk_at "dd") => `(tactic| (dsimp only [tCB, tCons, tNil, tC, tOp, tUn, tTest, tB, tVar, tAndV, tOrV, tNotV, tIf, tAnd, tOr, tNot, tSeq, tRet, tRetN, tIfS, tAsg, gName, tDrop, tTup, tLst, tChain, tNext, tCall, L2.start]))
theorem shaped_rds (rs : List (Nat × Nat)) : SeqAt.shaped (.tuple (rs.map pairD)) = true := by
  have a : PyData.canLayAll0 (rs.map pairD) = true ∧ PyData.depthAll (rs.map pairD) ≤ 2 := by
    induction rs with
    | nil => exact ⟨rfl, by simp [PyData.depthAll]⟩
    | cons l F ih =>
      refine ⟨?_, ?_⟩
      · simp only [List.map_cons, PyData.canLayAll0, ih.1, Bool.and_true]; rfl
      · have : (pairD l).depth ≤ 2 := by simp [pairD, intD, PyData.depth, PyData.depthAll]
        simp only [List.map_cons, PyData.depthAll]; omega
  unfold SeqAt.shaped
  rw [Bool.and_eq_true, decide_eq_true_eq]
  exact ⟨by simpa [PyData.canLay0] using a.1, by simp only [PyData.depth]; omega⟩
theorem eqv_pair (p q : Nat × Nat) : PyData.eqv (pairD p) (pairD q) = decide (p = q) := by
  obtain ⟨a, b⟩ := p; obtain ⟨c, d⟩ := q
  have : PyData.eqv (pairD (a, b)) (pairD (c, d)) = (((a : Int) == c) && (((b : Int) == d) && true)) := rfl
  rw [this, Bool.and_true, Bool.eq_iff_iff]; simp; omega
theorem eqv_rds : ∀ (rs qs : List (Nat × Nat)), PyData.eqv (.tuple (rs.map pairD)) (.tuple (qs.map pairD)) = decide (rs = qs)
  | [], [] => rfl
  | [], _ :: _ => rfl
  | _ :: _, [] => rfl
  | p :: rs, q :: qs => by
    have e : PyData.eqv (.tuple ((p :: rs).map pairD)) (.tuple ((q :: qs).map pairD)) = (PyData.eqv (pairD p) (pairD q) && PyData.eqv (.tuple (rs.map pairD)) (.tuple (qs.map pairD))) := rfl
    rw [e, eqv_pair, eqv_rds rs qs, Bool.eq_iff_iff]; simp
def sp_Tree___eq__ (K : PySem.W.Frag) : Sp := sp2 fun a b H Q E => ∃ s n rs Fs, a = .ref s ∧ TreeAt K H s n rs Fs ∧ ((∃ s2 n2 rs2 Fs2, b = .ref s2 ∧ TreeAt K H s2 n2 rs2 Fs2 ∧ Q (.bl (decide (n = n2) && decide (rs = rs2))) H) ∨ (((∃ d, Dq K H b d) ∨ ∃ st, b = .ref st ∧ InsAt (He.ga K "Store") st H) ∧ Q (.bl false) H))
section
variable {K : PySem.W.Frag} {mg : Str → Option Value} {P : Program} {w : World} {base : Heap}
theorem ok_Tree___eq__ (T : Tx K mg) : ∃ fd, FunD K "__eq__" "Tree.__eq__" (defArgs st_Tree___eq__) (defBody st_Tree___eq__) (defScope st_Tree___eq__) [] [] (He.ma K (He.ga K "Tree") "__eq__") fd ∧ FG P w K mg base CX0 1 (He.ma K (He.ga K "Tree") "__eq__") fd ["self", "other"] (sp_Tree___eq__ K) := by
  obtain ⟨fd, F⟩ := fD_Tree___eq__ T
  refine ⟨fd, F, fg_of F sc_Tree___eq__ (fun vs H Q E h => len2 h) (fun cdv A outer s H vs Q E hr h => ?_)⟩
  obtain ⟨a, b, rfl, h⟩ := h
  refine ⟨_, (PSs.nox (pss_one (ps_ret (pe_and (pe_callB (call_isiK' (K := K)) (by rfl) (T.free 6 rfl) (by decide +kernel) (pa_cons (pv 1) (pa_cons (pe_glob (v := .ref (He.ga K "Tree")) rfl (T.glo 9 rfl) rfl) pa_nil))) (pe_and (pe_cmpR op_eq (pe_fldK (K := K) (pv 0)) (pe_fldK (K := K) (pv 1)) (nomark _)) (pe_one (pe_cmpR (op_eqDK (K := K) (hu64 hr.r)) (pe_fldK (K := K) (pv 0)) (pe_fldK (K := K) (pv 1)) (nomark _)))))))), ?_⟩
  obtain ⟨s0, n, rs, Fs, rfl, t, h⟩ := h
  rcases h with ⟨s2, n2, rs2, Fs2, rfl, t2, q⟩ | ⟨⟨d, hd⟩ | ⟨st, rfl, hst⟩, q⟩
  · refine ⟨_, rfl, ?_⟩
    walk_at "dd"
    refine isi_own_o (y := "Tree") (T.own 0 rfl) (T.own 0 rfl) (cl_Tree T) (by decide) t2.ins ⟨_, rfl, ?_⟩
    refine iteT ?_
    obtain ⟨dx, u1, u2, u3, xs, ys, f⟩ := t.f
    obtain ⟨_, rfl, g⟩ := f.g
    obtain ⟨dx2, w1, w2, w3, xs2, ys2, f2⟩ := t2.f
    obtain ⟨_, rfl, g2⟩ := f2.g
    refine ⟨_, rfl, s0, _, dx, _, _, rfl, g, cl_Tree T, no_Tree_houses T, rfl, _, rfl, s2, _, dx2, _, _, rfl, g2, cl_Tree T, no_Tree_houses T, rfl, rfl, _, rfl, ?_⟩
    by_cases c : n = n2
    · subst c
      rw [decide_eq_true (show iV n = iV n from rfl)]
      refine iteT ?_
      refine ⟨_, rfl, s0, _, dx, _, _, rfl, g, cl_Tree T, no_Tree_roads T, rfl, _, rfl, s2, _, dx2, _, _, rfl, g2, cl_Tree T, no_Tree_roads T, rfl, ?_⟩
      refine ⟨_, _, f.rd.dp (SeqAt.canLay_of_shaped (shaped_rds rs)), f2.rd.dp (SeqAt.canLay_of_shaped (shaped_rds rs2)), shaped_rds rs, shaped_rds rs2, ?_⟩
      rw [eqv_rds]
      simpa using q
    · rw [decide_eq_false (show ¬ iV n = iV n2 from fun z => c (by have := V.int.inj z; omega))]
      refine iteF ?_
      simpa [c] using q
  · refine ⟨_, rfl, ?_⟩
    walk_at "dd"
    refine isi_own_d (T.own 0 rfl) hd ⟨_, rfl, ?_⟩
    exact q
  · refine ⟨_, rfl, ?_⟩
    walk_at "dd"
    refine isi_own_o (y := "Store") (T.own 0 rfl) (T.own 1 rfl) (cl_Store T) (by decide) hst ⟨_, rfl, ?_⟩
    exact q
end
def sp_check_road (K : PySem.W.Frag) : Sp := sp3 fun a b c H Q E => ∃ s n rs Fs d e, a = .ref s ∧ TreeAt K H s n rs Fs ∧ Dq K H b d ∧ Dq K H c e ∧ (∀ (i j : Nat), d = .int i → e = .int j → i < n → j < n → (nb rs n i).contains j = true → Q .non H) ∧
  (isIdx d n = false → Err1 K E H "InvalidHouse" "given" b) ∧ (isIdx d n = true → isIdx e n = false → Err1 K E H "InvalidHouse" "given" c) ∧
  (∀ (i j : Nat), d = .int i → e = .int j → i < n → j < n → (nb rs n i).contains j = false → Err2 K E H "NotARoad" "u" "v" b c)
section
variable {K : PySem.W.Frag} {mg : Str → Option Value} {P : Program} {w : World} {base : Heap}
theorem ok_check_road (T : Tx K mg) : Cal P w K mg base (L2.CX P w) 5 "check_road" ["tree", "u", "v"] (sp_check_road K) := by
  refine cal_of (fD_check_road T) (T.glo 21 rfl) sc_check_road (fun _ _ _ _ _ _ us hl => match us, hl with | [_, _, _], _ => rfl) (fun vs H Q E h => len3 h) (fun f cdv A outer s H vs Q E hr h => ?_)
  obtain ⟨a, b, c, rfl, h⟩ := h
  refine ⟨_, (pss_cons (ps_expr (pe_c (ok_check_house T) (hr.mono (by decide)) rfl (passes_call (E := E) (takes_of rfl rfl rfl rfl) fun _ _ _ _ h => h) (pa_cons (pv 0) (pa_cons (pv 1) pa_nil))))
      (pss_cons (ps_expr (pe_c (ok_check_house T) (hr.mono (by decide)) rfl (passes_call (E := E) (takes_of rfl rfl rfl rfl) fun _ _ _ _ h => h) (pa_cons (pv 0) (pa_cons (pv 2) pa_nil))))
      (pss_one (ps_if (pt_cmpR (op_ninK (K := K)) (pv 2) (pe_ix (ix_tupK (K := K)) (pe_fldK (K := K) (pv 0)) (pv 1) (fun _ _ => rfl)) (by with_unfolding_all rfl)) (pss_one (ps_raise rfl (takes_of rfl rfl rfl rfl) (pmk_NotARoad T hr rfl (pa_cons (pv 1) (pa_cons (pv 2) pa_nil))))) pss_nil)))), ?_⟩
  obtain ⟨s0, n, rs, Fs, d, e, rfl, t, hd, he, q1, q2, q3, q4⟩ := h
  refine seq_at ?_
  refine ⟨_, rfl, _, rfl, _, _, rfl, s0, n, rs, Fs, d, rfl, t, hd, fun ei => ?_, q2⟩
  refine seq_at ?_
  refine ⟨_, rfl, _, rfl, _, _, rfl, s0, n, rs, Fs, e, rfl, t, he, fun ej => ?_, q3 ei⟩
  obtain ⟨dx, t1, t2, t3, xs, ys, f⟩ := t.f
  obtain ⟨r1, rfl, g⟩ := f.g
  obtain ⟨i, rfl, hi⟩ := idx_nat ei
  obtain ⟨j, rfl, hj⟩ := idx_nat ej
  obtain ⟨tr, hx, st⟩ := f.ni i hi
  cases hd; cases he
  refine ⟨_, rfl, _, rfl, s0, _, dx, _, _, rfl, g, cl_Tree T, no_Tree_near T, rfl, _, rfl, t2, xs, _, _, rfl, rfl, f.nx, atI_nat hx, tr, _, rfl, .inr st, rfl, flat_iV _, _, rfl, ?_⟩
  have e1 : (!inV (V.int (j : Int)) ((nb rs n i).map iV)) = !(nb rs n i).contains j := by rw [← inV_iff]; rfl
  show if (!inV (V.int (j : Int)) ((nb rs n i).map iV)) = true then _ else _
  rw [e1]
  cases ec : (nb rs n i).contains j with
  | true => refine iteF ?_; exact q1 i j rfl rfl hi hj ec
  | false =>
    refine iteT ?_
    exact ⟨_, rfl, _, rfl, _, _, rfl, fun d H' _ e' hx => q4 i j rfl rfl hi hj ec d H' e' hx⟩
end
def sp_side (K : PySem.W.Frag) : Sp := sp3 fun a b c H Q E => ∃ s n rs Fs d e, a = .ref s ∧ TreeAt K H s n rs Fs ∧ Dq K H b d ∧ Dq K H c e ∧
  (∀ (i j : Nat) l H', d = .int i → e = .int j → i < n → j < n → (nb rs n i).contains j = true → Ex H H' → H l = none → H' l = some (.lst (((List.range n).filter fun k => (wy Fs k j).contains i).map iV)) → Q (.ref l) H') ∧
  (isIdx d n = false → Err1 K E H "InvalidHouse" "given" b) ∧ (isIdx d n = true → isIdx e n = false → Err1 K E H "InvalidHouse" "given" c) ∧
  (∀ (i j : Nat), d = .int i → e = .int j → i < n → j < n → (nb rs n i).contains j = false → Err2 K E H "NotARoad" "u" "v" b c)
section
variable {K : PySem.W.Frag} {mg : Str → Option Value} {P : Program} {w : World} {base : Heap}
theorem ok_side (T : Tx K mg) : Cal P w K mg base (L2.CX P w) 6 "side" ["tree", "u", "v"] (sp_side K) := by
  refine cal_of (fD_side T) (T.glo 28 rfl) sc_side (fun _ _ _ _ _ _ us hl => match us, hl with | [_, _, _], _ => rfl) (fun vs H Q E h => len3 h) (fun f cdv A outer s H vs Q E hr h => ?_)
  obtain ⟨a, b, c, rfl, h⟩ := h
  refine ⟨_, (pss_cons (ps_expr (pe_c (ok_check_road T) (hr.mono (by decide)) rfl (passes_call (E := E) (takes_of rfl rfl rfl rfl) fun _ _ _ _ h => h) (pa_cons (pv 0) (pa_cons (pv 1) (pa_cons (pv 2) pa_nil)))))
      (pss_one (ps_ret (pe_lc (own := [("house", 3)]) rfl sc_side.nd (pi_range1 (by rfl) (T.free 11 rfl) (pa_cons (pe_fldK (K := K) (pv 0)) pa_nil)) (blkOk_by (own := [("house", 3)]) (N := ["tree", "u", "v", "house"]) (sc := defScope st_side) (by decide +kernel)) (fun _ _ _ _ _ => (pg_name (i := 3) sc_side.nd rfl (Or.inl rfl))) (fun _ _ _ _ _ => (pts_one (pt_cmpR (op_inK (K := K)) (pv 1) (pe_ix (ix_tupK (K := K)) (pe_ix (ix_tupK (K := K)) (pe_fldK (K := K) (pv 0)) (pv 3) (fun _ _ => rfl)) (pv 2) (fun _ _ => rfl)) (by with_unfolding_all rfl)))) (fun _ _ _ _ _ => (pv 3)))))), ?_⟩
  obtain ⟨s0, n, rs, Fs, d, e, rfl, t, hd, he, q1, q2, q3, q4⟩ := h
  refine seq_at ?_
  refine ⟨_, rfl, _, rfl, _, rfl, _, _, _, rfl, s0, n, rs, Fs, d, e, rfl, t, hd, he, fun i j ei ej hi hj hc => ?_, q2, q3, q4⟩
  obtain ⟨dx, t1, t2, t3, xs, ys, f⟩ := t.f
  obtain ⟨r1, rfl, g⟩ := f.g
  have n16 := t.n16
  subst ei ej
  cases hd; cases he
  dsimp only
  refine ret_at ?_
  refine lc_at (n := n) (item := fun i => .int (0 + i)) (fun k => (wy Fs k j).contains i) (fun k D y H' => y = iV k) (line_big (by omega)) (fun P q => w_rng1 (fun Q q => ⟨_, rfl, s0, _, dx, _, _, rfl, g, cl_Tree T, no_Tree_houses T, rfl, q⟩) (by omega) fun J H1 e S => q J H1 e (S.mono e)) (fun _ _ _ _ _ _ h => h) (fun _ _ _ _ _ _ h => h) ?_ ?_
  · rintro k D H5 hk hD e5 ⟨ac, hac⟩ Ny Nn hy hn
    refine ⟨rfl, ?_⟩
    obtain ⟨ta, zs, hya, sz, w⟩ := f.wi k hk
    obtain ⟨tr, hz, st⟩ := w j hj
    have ek : ((0 : Int) + (k : Int)) = ((k : Nat) : Int) := by omega
    refine ⟨_, rfl, _, rfl, s0, _, dx, _, _, rfl, e5 _ _ g, cl_Tree T, no_Tree_ways T, rfl, _, rfl, t3, ys, _, _, rfl, rfl, Evl.ex_t e5 f.wx, by rw [ek]; exact atI_nat hya, _, rfl, ta, zs, _, _, rfl, rfl, Evl.ex_t e5 sz, atI_nat hz, tr, _, rfl, .inr (Evl.ex_t e5 st), rfl, flat_iV _, _, rfl, ?_⟩
    have e1 : inV (V.int (i : Int)) ((wy Fs k j).map iV) = (wy Fs k j).contains i := by rw [← inV_iff]; rfl
    show if inV (V.int (i : Int)) ((wy Fs k j).map iV) = true then _ else _
    rw [e1]
    cases ec : (wy Fs k j).contains i with
    | true =>
      refine iteT ?_
      exact ⟨_, rfl, hy _ _ ec (Evl.Ex.refl _) (by rw [ek]; rfl)⟩
    | false => refine iteF ?_; exact hn _ ec (Evl.Ex.refl _)
  · intro D ys' H5 hD e5 hd5 f5
    have := F2.map_eq (f := iV) f5
    subst this
    exact q1 i j D H5 rfl rfl hi hj hc e5 hD hd5
end

end T1

namespace T1
open PySem PySem.Spec PyProof.Rows L2 G
open Evl (Ex)
local macro_rules | `(tactic| walk_at "dd") => `(tactic| (dsimp only [tCB, tCons, tNil, tC, tOp, tUn, tTest, tB, tVar, tAndV, tOrV, tNotV, tIf, tAnd, tOr, tNot, tSeq, tRet, tRetN, tIfS, tAsg, gName, tDrop, tTup, tLst, tChain, tNext, tCall, L2.start]))
def sp_ends (K : PySem.W.Frag) : Sp := sp1 fun a H Q E => ∃ s n rs Fs, a = .ref s ∧ TreeAt K H s n rs Fs ∧ ∀ l H', Ex H H' → H l = none → H' l = some (.lst (((List.range n).filter fun i => decide ((nb rs n i).length ≤ 1)).map iV)) → Q (.ref l) H'
section
variable {K : PySem.W.Frag} {mg : Str → Option Value} {P : Program} {w : World} {base : Heap}
theorem ok_ends (T : Tx K mg) : Cal P w K mg base CX0 1 "ends" ["tree"] (sp_ends K) := by
  refine cal_of (fD_ends T) (T.glo 23 rfl) sc_ends (fun _ _ _ _ _ _ us hl => match us, hl with | [_], _ => rfl) (fun vs H Q E h => len1 h) (fun f cdv A outer s H vs Q E hr h => ?_)
  obtain ⟨a, rfl, h⟩ := h
  refine ⟨_, (PSs.nox (pss_one (ps_ret (pe_lc (own := [("house", 1), ("others", 2)]) rfl sc_ends.nd (pi_enumT (K := K) rfl (T.free 4 rfl) (pa_cons (pe_fldK (K := K) (pv 0)) pa_nil)) (blkOk_by (own := [("house", 1), ("others", 2)]) (N := ["tree", "house", "others"]) (sc := defScope st_ends) (by decide +kernel)) (fun _ _ _ _ _ => (pg_tupK (K := K) (n := 2) rfl (pgs_cons (pg_name (i := 1) sc_ends.nd rfl (Or.inl rfl) (.inr rfl)) (pgs_cons (pg_name (i := 2) sc_ends.nd rfl (Or.inl rfl) (.inr rfl)) pgs_nil)))) (fun _ _ _ _ _ => (pts_one (pt_cmpR op_le (pe_callB (call_lenK (K := K)) (by rfl) (T.free 7 rfl) (by decide +kernel) (pa_cons (pv 2) pa_nil)) pe_int (nomark _)))) (fun _ _ _ _ _ => (pv 1)))))), ?_⟩
  obtain ⟨s0, n, rs, Fs, rfl, t, q⟩ := h
  obtain ⟨dx, t1, t2, t3, xs, ys, f⟩ := t.f
  obtain ⟨r1, rfl, g⟩ := f.g
  have n16 := t.n16
  have nl := f.nl
  refine ret_at ?_
  refine lc_invY (B := H) (n := xs.length) (Y := fun i H' v H'' => ∃ T, v = .ref T ∧ H' T = none ∧ H'' = upd H' T (.tup [.int (i : Nat), G.nth xs i])) (fun P q => ?_) (fun D i H' => H D = none ∧ Ex H H' ∧ H' D = some (.lst (((List.range i).filter fun i => decide ((nb rs n i).length ≤ 1)).map iV))) ?_ ?_ ?_ ?_
  · refine ⟨_, rfl, s0, _, dx, _, _, rfl, g, cl_Tree T, no_Tree_near T, rfl, t2, xs, rfl, f.nx, q _ _ (Evl.Ex.refl _) (ity_enum f.nx)⟩
  · exact fun D H1 e1 hD => ⟨Evl.fresh_back e1 hD, Evl.Ex.mut e1 (Evl.fresh_back e1 hD), upd_same⟩
  · exact fun D i H' z => z.2.1
  · rintro D i x H' H'' hi ⟨hD, e, hd⟩ ⟨U, rfl, hU, rfl⟩
    obtain ⟨tr, hx, st⟩ := f.ni i (by omega)
    have eU := Evl.Ex.new (o := .tup [.int (i : Nat), G.nth xs i]) hU
    have en : G.nth xs i = .ref tr := by unfold G.nth; rw [hx]; rfl
    refine ⟨U, _, rfl, SqT.of upd_same, rfl, _, _, rfl, _, _, rfl, rfl, ?_⟩
    refine ⟨rfl, ?_⟩
    refine ⟨_, rfl, tr, _, en ▸ rfl, .inr (Evl.ex_t (e.trans eU) st), ?_⟩
    refine ⟨(((nb rs n i).map iV).length : Int), 1, rfl, rfl, _, rfl, ?_⟩
    have eD : Ex H (upd H' U (.tup [.int (i : Nat), G.nth xs i])) := e.trans eU
    by_cases c : (nb rs n i).length ≤ 1
    · rw [decide_eq_true (by rw [List.length_map]; omega)]
      refine iteT ⟨_, rfl, _, eU _ _ hd, ?_, hD, Evl.Ex.mut eD hD, ?_⟩
      · have := List.length_filter_le (fun i => decide ((nb rs n i).length ≤ 1)) (List.range i)
        rw [List.length_range] at this
        rw [List.length_map, sizeLine_eq]; omega
      · rw [upd_same, List.range_succ, List.filter_append, List.map_append]
        simp [c, iV]
    · rw [decide_eq_false (by rw [List.length_map]; omega)]
      refine iteF ⟨hD, eD, ?_⟩
      rw [eU _ _ hd, List.range_succ, List.filter_append, List.map_append]
      simp [c]
  · rintro D H' ⟨hD, e, hd⟩
    rw [nl] at hd
    exact q D H' e hD hd
end
/-- the houses on all three ways -/
def mids (Fs : List (List (List Nat))) (i j k : Nat) : List Nat := (wy Fs i j).filter fun h => (wy Fs j k).contains h && (wy Fs i k).contains h
theorem Err1.mono {K : PySem.W.Frag} {E : XK} {H H' : Hp} {x f : Str} {v : V} (h : Err1 K E H x f v) (e : Ex H H') : Err1 K E H' x f v := fun d H2 e2 hx => h d H2 (e.trans e2) hx
theorem nbs_at {rs : List (Nat × Nat)} {n a x : Nat} (h : x ∈ M.at_ (nbs n rs) a) : a < n ∧ x < n ∧ adj rs a x = true := by
  unfold M.at_ nbs at h
  rw [List.getElem?_map] at h
  by_cases c : a < n
  · rw [List.getElem?_range c] at h
    have h' : x ∈ nb rs n a := h
    unfold nb at h'
    rw [List.mem_filter, List.mem_range] at h'
    exact ⟨c, h'⟩
  · rw [List.getElem?_eq_none (by rw [List.length_range]; omega)] at h
    cases h
theorem TreeAt.path {K : PySem.W.Frag} {H : Hp} {s : Addr} {n : Nat} {rs Fs} (t : TreeAt K H s n rs Fs) {i j : Nat} (hi : i < n) (h : wy Fs i j ≠ []) : M.Path (nbs n rs) i j (wy Fs i j) := by
  have eF : Fs[i]? = some (Fs[i]'(by rw [t.fl]; exact hi)) := List.getElem?_eq_getElem _
  have e : wy Fs i j = M.at_ (Fs[i]'(by rw [t.fl]; exact hi)) j := by unfold wy; rw [eF]; rfl
  rw [e] at h ⊢
  exact (t.fw i _ eF).pa j h
theorem path_lt {rs : List (Nat × Nat)} {n i j : Nat} {p : List Nat} (P : M.Path (nbs n rs) i j p) (hi : i < n) : ∀ x ∈ p, x < n := by
  intro x hx
  obtain ⟨m, hm, rfl⟩ := List.getElem_of_mem hx
  cases m with
  | zero =>
    have z := P.hd
    rw [List.head?_eq_getElem?, List.getElem?_eq_getElem hm] at z
    cases z; exact hi
  | succ m =>
    have z := P.ch m p[m] p[m + 1] (List.getElem?_eq_getElem (by omega)) (List.getElem?_eq_getElem hm)
    exact (nbs_at z).2.1
theorem TreeAt.wlen {K : PySem.W.Frag} {H : Hp} {s : Addr} {n : Nat} {rs Fs} (t : TreeAt K H s n rs Fs) {i j : Nat} (hi : i < n) : (wy Fs i j).length ≤ n := by
  by_cases c : wy Fs i j = []
  · rw [c]; exact Nat.zero_le _
  · exact nodup_len (t.path hi c).nd (path_lt (t.path hi c) hi)
def sp_middle (K : PySem.W.Frag) : Sp := sp4 fun a b c d H Q E => ∃ s n rs Fs d1 d2 d3, a = .ref s ∧ TreeAt K H s n rs Fs ∧ Dq K H b d1 ∧ Dq K H c d2 ∧ Dq K H d d3 ∧ (∀ (i j k : Nat), d1 = .int i → d2 = .int j → d3 = .int k → i < n → j < n → k < n → ∃ x l, mids Fs i j k = x :: l ∧ ∀ H', Ex H H' → Q (iV x) H') ∧
  (isIdx d1 n = false → Err1 K E H "InvalidHouse" "given" b) ∧ (isIdx d1 n = true → isIdx d2 n = false → Err1 K E H "InvalidHouse" "given" c) ∧ (isIdx d1 n = true → isIdx d2 n = true → isIdx d3 n = false → Err1 K E H "InvalidHouse" "given" d)
section
variable {K : PySem.W.Frag} {mg : Str → Option Value} {P : Program} {w : World} {base : Heap}
theorem ok_middle (T : Tx K mg) : Cal P w K mg base (L2.CX P w) 5 "middle" ["tree", "a", "b", "c"] (sp_middle K) := by
  refine cal_of (fD_middle T) (T.glo 26 rfl) sc_middle (fun _ _ _ _ _ _ us hl => match us, hl with | [_, _, _, _], _ => rfl) (fun vs H Q E h => len4 h) (fun f cdv A outer s H vs Q E hr h => ?_)
  obtain ⟨a, b, c, d, rfl, h⟩ := h
  refine ⟨_, (pss_cons (ps_for (passes_of rfl) rfl (pi_tup (pe_tup (pa_cons (pv 1) (pa_cons (pv 2) (pa_cons (pv 3) pa_nil))))) (pg_name (i := 4) sc_middle.nd rfl (Or.inl rfl)) (pss_one (ps_expr (pe_c (ok_check_house T) (hr.mono (by decide)) rfl (passes_call (E := E) (takes_of rfl rfl rfl rfl) fun _ _ _ _ h => h) (pa_cons (pv 0) (pa_cons (pv 4) pa_nil))))))
      (pss_one (ps_ret (pe_ix (ix_listK (K := K)) (pe_lc (own := [("house", 4)]) rfl sc_middle.nd (pi_tup (pe_ix (ix_tupK (K := K)) (pe_ix (ix_tupK (K := K)) (pe_fldK (K := K) (pv 0)) (pv 1) (fun _ _ => rfl)) (pv 2) (fun _ _ => rfl))) (blkOk_by (own := [("house", 4)]) (N := ["tree", "a", "b", "c", "house"]) (sc := defScope st_middle) (by decide +kernel)) (fun _ _ _ _ _ => (pg_name (i := 4) sc_middle.nd rfl (Or.inl rfl))) (fun _ _ _ _ _ => (pts_one (PW.pt (pw_and (pt_cmpR (op_inK (K := K)) (pv 4) (pe_ix (ix_tupK (K := K)) (pe_ix (ix_tupK (K := K)) (pe_fldK (K := K) (pv 0)) (pv 2) (fun _ _ => rfl)) (pv 3) (fun _ _ => rfl)) (by with_unfolding_all rfl)) (pw_and1 (pt_cmpR (op_inK (K := K)) (pv 4) (pe_ix (ix_tupK (K := K)) (pe_ix (ix_tupK (K := K)) (pe_fldK (K := K) (pv 0)) (pv 1) (fun _ _ => rfl)) (pv 3) (fun _ _ => rfl)) (by with_unfolding_all rfl))))))) (fun _ _ _ _ _ => (pv 4))) pe_int (fun _ _ => rfl))))), ?_⟩
  obtain ⟨s0, n, rs, Fs, d1, d2, d3, rfl, t, h1, h2, h3, q1, q2, q3, q4⟩ := h
  have n16 := t.n16
  refine seq_at ?_
  refine ⟨_, rfl, _, rfl, _, rfl, (by show 3 ≤ sizeLine; decide), fun p hp => ?_⟩
  have ep := Evl.Ex.new (o := .tup [b, c, d]) hp
  refine ⟨p, rfl, ⟨_, SqT.of upd_same⟩, ?_⟩
  refine for_gen (its_t (SqT.of (K := K) (xs := [b, c, d]) upd_same)) (fun k σ' H' => (∃ s4, σ' = [some (.ref s0), some b, some c, some d, s4]) ∧ H' = upd H p (.tup [b, c, d]) ∧ (1 ≤ k → isIdx d1 n = true) ∧ (2 ≤ k → isIdx d2 n = true) ∧ (3 ≤ k → isIdx d3 n = true)) ⟨⟨_, rfl⟩, rfl, by omega, by omega, by omega⟩ (fun k σ' H' z => by rw [z.2.1]; exact Evl.Ex.refl _) ?_ ?_
  · rintro k σ' H' hk ⟨⟨s4, rfl⟩, rfl, i1, i2, i3⟩
    have tp := t.mono ep
    match k, hk with
    | 0, _ =>
      refine ⟨_, rfl, _, rfl, _, _, rfl, s0, n, rs, Fs, d1, rfl, tp, h1.mono ep, fun e => ⟨⟨_, rfl⟩, rfl, fun _ => e, by omega, by omega⟩, fun e => (q2 e).mono ep⟩
    | 1, _ =>
      refine ⟨_, rfl, _, rfl, _, _, rfl, s0, n, rs, Fs, d2, rfl, tp, h2.mono ep, fun e => ⟨⟨_, rfl⟩, rfl, fun _ => i1 (by omega), fun _ => e, by omega⟩, fun e => (q3 (i1 (by omega)) e).mono ep⟩
    | 2, _ =>
      refine ⟨_, rfl, _, rfl, _, _, rfl, s0, n, rs, Fs, d3, rfl, tp, h3.mono ep, fun e => ⟨⟨_, rfl⟩, rfl, fun _ => i1 (by omega), fun _ => i2 (by omega), fun _ => e⟩, fun e => (q4 (i1 (by omega)) (i2 (by omega)) e).mono ep⟩
  · rintro σ' H' ⟨⟨s4, rfl⟩, rfl, i1, i2, i3⟩
    replace i1 := i1 (by show 1 ≤ 3; decide)
    replace i2 := i2 (by show 2 ≤ 3; decide)
    replace i3 := i3 (by show 3 ≤ 3; decide)
    have tp := t.mono ep
    obtain ⟨dx, t1, t2, t3, xs, ys, f⟩ := tp.f
    obtain ⟨r1, rfl, g⟩ := f.g
    obtain ⟨i, rfl, hi⟩ := idx_nat i1
    obtain ⟨j, rfl, hj⟩ := idx_nat i2
    obtain ⟨k, rfl, hk⟩ := idx_nat i3
    obtain ⟨x, l, hm, q⟩ := q1 i j k rfl rfl rfl hi hj hk
    obtain ⟨ta, zs, hya, sz, w⟩ := f.wi i hi
    obtain ⟨tr, hz, st⟩ := w j hj
    obtain ⟨tr3, hz3, st3⟩ := w k hk
    obtain ⟨ta2, zs2, hya2, sz2, w2⟩ := f.wi j hj
    obtain ⟨tr2, hz2, st2⟩ := w2 k hk
    cases h1; cases h2; cases h3
    have wl := t.wlen (j := j) hi
    dsimp only
    refine ret_at ?_
    refine lc_at (n := ((wy Fs i j).map iV).length) (item := G.nth ((wy Fs i j).map iV)) (fun z => (fun h => (wy Fs j k).contains h && (wy Fs i k).contains h) ((wy Fs i j)[z]?.getD 0)) (fun z D y H' => y = iV ((wy Fs i j)[z]?.getD 0)) (line_big (by rw [List.length_map]; omega)) (fun P q => ⟨_, rfl, s0, _, dx, _, _, rfl, g, cl_Tree T, no_Tree_ways T, rfl, _, rfl, t3, ys, _, _, rfl, rfl, f.wx, atI_nat hya, _, rfl, ta, zs, _, _, rfl, rfl, sz, atI_nat hz, tr, rfl, ⟨_, st⟩, q _ _ (Evl.Ex.refl _) (its_t st)⟩) (fun _ _ _ _ _ _ h => h) (fun _ _ _ _ _ _ h => h) ?_ ?_
    · rintro z D H5 hz5 hD e5 ⟨ac, hac⟩ Ny Nn hy hn
      rw [List.length_map] at hz5
      have ez : G.nth ((wy Fs i j).map iV) z = iV ((wy Fs i j)[z]?.getD 0) := by
        unfold G.nth; rw [List.getElem?_map, List.getElem?_eq_getElem hz5]; rfl
      rw [ez]
      generalize (wy Fs i j)[z]?.getD 0 = x' at hy hn ⊢
      refine ⟨rfl, ?_⟩
      refine ⟨_, rfl, _, rfl, s0, _, dx, _, _, rfl, e5 _ _ g, cl_Tree T, no_Tree_ways T, rfl, _, rfl, t3, ys, _, _, rfl, rfl, Evl.ex_t e5 f.wx, atI_nat hya2, _, rfl, ta2, zs2, _, _, rfl, rfl, Evl.ex_t e5 sz2, atI_nat hz2, tr2, _, rfl, .inr (Evl.ex_t e5 st2), rfl, flat_iV _, _, rfl, ?_⟩
      have c1 : (if false = true then !inV (iV x') (List.map iV (wy Fs j k)) else inV (iV x') (List.map iV (wy Fs j k))) = (wy Fs j k).contains x' := inV_iff _ _
      have c2 : (if false = true then !inV (iV x') (List.map iV (wy Fs i k)) else inV (iV x') (List.map iV (wy Fs i k))) = (wy Fs i k).contains x' := inV_iff _ _
      rw [c1]
      cases b1 : (wy Fs j k).contains x' with
      | false => exact hn _ (by show ((wy Fs j k).contains x' && _) = _; rw [b1]; rfl) (Evl.Ex.refl _)
      | true =>
        refine iteT ?_
        refine ⟨_, rfl, _, rfl, s0, _, dx, _, _, rfl, e5 _ _ g, cl_Tree T, no_Tree_ways T, rfl, _, rfl, t3, ys, _, _, rfl, rfl, Evl.ex_t e5 f.wx, atI_nat hya, _, rfl, ta, zs, _, _, rfl, rfl, Evl.ex_t e5 sz, atI_nat hz3, tr3, _, rfl, .inr (Evl.ex_t e5 st3), rfl, flat_iV _, _, rfl, ?_⟩
        rw [c2]
        cases b2 : (wy Fs i k).contains x' with
        | false => exact hn _ (by show ((wy Fs j k).contains x' && (wy Fs i k).contains x') = _; rw [b1, b2]; rfl) (Evl.Ex.refl _)
        | true =>
          refine iteT ?_
          exact ⟨_, rfl, hy _ _ (by show ((wy Fs j k).contains x' && (wy Fs i k).contains x') = _; rw [b1, b2]; rfl) (Evl.Ex.refl _) rfl⟩
    · intro D ys' H5 hD e5 hd5 f5
      have e1 := F2.map_eq (f := fun z => iV ((wy Fs i j)[z]?.getD 0)) f5
      have e2 : ys' = (mids Fs i j k).map iV := by
        rw [e1, List.length_map]
        unfold mids
        rw [← filter_nth (wy Fs i j), List.map_map]; rfl
      rw [hm] at e2
      subst e2
      exact ⟨D, _, 0, _, rfl, rfl, SqL.of hd5, atI_nat (j := 0) rfl, q _ (ep.trans e5)⟩
end

end T1

namespace T1
open PySem PySem.Spec PyProof.Rows L2 G
open Evl (Ex)
local macro_rules | `(tactic| walk_at "dd") => `(tactic| (dsimp only [tCB, tCons, tNil, tC, tOp, tUn, tTest, tB, tVar, tAndV, tOrV, tNotV, tIf, tAnd, tOr, tNot, tSeq, tRet, tRetN, tIfS, tAsg, gName, tDrop, tTup, tLst, tChain, tNext, tCall, L2.start]))
theorem count_add {n c : Nat} {p : Nat → Bool} (hc : c < n) : ((List.range n).filter fun x => p x || decide (x = c)).length = if p c = true then ((List.range n).filter p).length else ((List.range n).filter p).length + 1 := by
  split
  · rename_i h
    congr 1
    refine List.filter_congr ?_
    intro x _
    by_cases e : x = c
    · subst e; simp [h]
    · simp [e]
  · rename_i h
    have nd : ((List.range n).filter p).Nodup := List.nodup_range.filter _
    have pm : ((List.range n).filter fun x => p x || decide (x = c)).Perm (c :: (List.range n).filter p) := by
      refine (List.perm_ext_iff_of_nodup (List.nodup_range.filter _) (List.nodup_cons.mpr ⟨fun z => h (List.mem_filter.mp z).2, nd⟩)).mpr fun x => ?_
      simp only [List.mem_filter, List.mem_range, List.mem_cons, Bool.or_eq_true, decide_eq_true_eq]
      constructor
      · rintro ⟨a, b | b⟩
        · exact .inr ⟨a, b⟩
        · exact .inl b
      · rintro (rfl | ⟨a, b⟩)
        · exact ⟨hc, .inr rfl⟩
        · exact ⟨a, .inl b⟩
    rw [pm.length_eq, List.length_cons]
/-- the set at D holds the houses x with p x -/
def SetHas (w : World) (H : Hp) (D : Addr) (n : Nat) (p : Nat → Bool) : Prop := ∃ S k, H D = some (SetO w D S k) ∧ (∀ z : Int, S z = true ↔ ∃ x : Nat, z = (x : Int) ∧ x < n ∧ p x = true) ∧ k = ((List.range n).filter p).length
theorem SetHas.add {w : World} {H : Hp} {D : Addr} {n c : Nat} {p q : Nat → Bool} {S : Int → Bool} {k : Nat} (hc : c < n) (h : ∀ z : Int, S z = true ↔ ∃ x : Nat, z = (x : Int) ∧ x < n ∧ p x = true) (hk : k = ((List.range n).filter p).length) (e : ∀ x, q x = (p x || decide (x = c))) :
    SetHas w (upd H D (SetO w D (fun j => S j || decide (j = (c : Int))) (if S (c : Int) = true then k else k + 1))) D n q := by
  obtain rfl : q = fun x => p x || decide (x = c) := funext e
  refine ⟨_, _, upd_same, fun z => ?_, ?_⟩
  · rw [Bool.or_eq_true, h, decide_eq_true_eq]
    constructor
    · rintro (⟨x, rfl, a, b⟩ | rfl)
      · exact ⟨x, rfl, a, by show (p x || _) = true; rw [b]; rfl⟩
      · exact ⟨c, rfl, hc, by simp⟩
    · rintro ⟨x, rfl, a, b⟩
      rw [Bool.or_eq_true, decide_eq_true_eq] at b
      rcases b with b | rfl
      · exact .inl ⟨x, rfl, a, b⟩
      · exact .inr rfl
  · have e : S (c : Int) = p c := by
      rw [Bool.eq_iff_iff, h]
      constructor
      · rintro ⟨x, a, _, b⟩
        have : x = c := by omega
        exact this ▸ b
      · exact fun b => ⟨c, rfl, hc, b⟩
    rw [e, count_add hc, hk]
def sp_span (K : PySem.W.Frag) : Sp := sp2 fun a b H Q E => ∃ s n rs Fs d, a = .ref s ∧ TreeAt K H s n rs Fs ∧ Dq K H b d ∧ (items d).length ≤ 100000 ∧
  (∀ (is : List Nat) l H', isSeq d = true → items d = is.map intD → (∀ i ∈ is, i < n) → Ex H H' → H l = none → H' l = some (.lst (((List.range n).filter fun x => is.any fun o => (wy Fs (is.headD 0) o).contains x).map iV)) → Q (.ref l) H') ∧
  (areIdx d n = false → Err1 K E H "InvalidHouseList" "given" b)
section
variable {K : PySem.W.Frag} {mg : Str → Option Value} {P : Program} {w : World} {base : Heap}
theorem ok_span (T : Tx K mg) : Cal P w K mg base (L2.CX P w) 5 "span" ["tree", "houses"] (sp_span K) := by
  refine cal_of (fD_span T) (T.glo 29 rfl) sc_span (fun _ _ _ _ _ _ us hl => match us, hl with | [_, _], _ => rfl) (fun vs H Q E h => len2 h) (fun f cdv A outer s H vs Q E hr h => ?_)
  obtain ⟨a, b, rfl, h⟩ := h
  refine ⟨_, (pss_cons (ps_if (pt_not (pt_val (pe_c (ok_are_indices T) (hr.mono (by decide)) rfl pass0 (pa_cons (pv 1) (pa_cons (pe_fldK (K := K) (pv 0)) pa_nil))))) (pss_one (ps_raise rfl (takes_of rfl rfl rfl rfl) (pmk_InvalidHouseList T hr rfl (pa_cons (pv 1) pa_nil)))) pss_nil)
      (pss_one (ps_ret (pe_callB (cr_sortedSet rfl) (by rfl) (T.free 13 rfl) (by decide +kernel) (pa_cons (pe_sc2 (own := [("other", 2), ("house", 3)]) (vs1 := [3]) rfl sc_span.nd (pi_seq (pv 1)) (blkOk_by (own := [("other", 2), ("house", 3)]) (N := ["tree", "houses", "other", "house"]) (sc := defScope st_span) (by decide +kernel)) (by decide) (fun _ _ _ _ _ => (pg_name (i := 2) sc_span.nd rfl (Or.inl rfl))) (fun _ _ _ _ _ => (pi_tupK (K := K) (pe_ix (ix_tupK (K := K)) (pe_ix (ix_tupK (K := K)) (pe_fldK (K := K) (pv 0)) (pe_ix (ix_seqK (K := K)) (pv 1) pe_int (fun _ _ => rfl)) (fun _ _ => rfl)) (pv 2) (fun _ _ => rfl)))) (fun _ _ _ _ _ => (pg_name (i := 3) sc_span.nd rfl (Or.inl rfl))) (fun _ _ _ _ _ => (pv 3))) pa_nil))))), ?_⟩
  obtain ⟨s0, n, rs, Fs, d, rfl, t, hd, hl, q1, q2⟩ := h
  refine seq_at ?_
  obtain ⟨dx, t1, t2, t3, xs, ys, f⟩ := t.f
  obtain ⟨r1, rfl, g⟩ := f.g
  have n16 := t.n16
  refine ⟨_, rfl, _, rfl, s0, _, dx, _, _, rfl, g, cl_Tree T, no_Tree_houses T, rfl, _, _, rfl, d, n, hd, rfl, hl, fun H1 e1 => ⟨_, rfl, ?_⟩⟩
  cases ea : areIdx d n with
  | false =>
    refine iteT ?_
    exact ⟨_, rfl, _, rfl, fun d H' _ e hx => q2 ea d H' (e1.trans e) hx⟩
  | true =>
  refine iteF ?_
  unfold areIdx at ea
  rw [Bool.and_eq_true] at ea
  obtain ⟨es, ei⟩ := ea
  obtain ⟨is, hi, hlt⟩ : ∃ is : List Nat, items d = is.map intD ∧ ∀ i ∈ is, i < n := by
    have al := List.all_eq_true.mp ei
    generalize items d = ds at al
    clear q1 hl
    induction ds with
    | nil => exact ⟨[], rfl, by simp⟩
    | cons x ds ih =>
      obtain ⟨is, e, h⟩ := ih fun y hy => al y (List.mem_cons_of_mem _ hy)
      obtain ⟨i, rfl, hi⟩ := idx_nat (al x (List.mem_cons_self ..))
      exact ⟨i :: is, by rw [e]; rfl, fun y hy => by rcases List.mem_cons.mp hy with rfl | hy; exact hi; exact h y hy⟩
  obtain ⟨p0, vs, rfl, hx, hds⟩ := dq_seq (hd.mono e1) es
  rw [hi] at hds
  have ev : vs = is.map iV := by
    have : is.map intD = (is.map fun i : Nat => (i : Int)).map PyData.int := by rw [List.map_map]; rfl
    rw [this] at hds
    rw [Dqs.ints_inv hds, List.map_map]; rfl
  subst ev
  have il : is.length ≤ 100000 := by rw [hi, List.length_map] at hl; exact hl
  dsimp only [tNext]
  refine ret_at (cb_at ?_)
  refine sc2_inv (B := H1) (n := (is.map iV).length) (item := G.nth (is.map iV)) (fun P q => w_seq rfl hx (Evl.Ex.refl _) q) (fun D i H' => Ex H1 H' ∧ H1 D = none ∧ SetHas w H' D n fun x => (is.take i).any fun o => (wy Fs (is.headD 0) o).contains x) ?_ ?_ ?_ ?_
  · exact fun D H2 e2 hD => ⟨Evl.Ex.mut e2 (Evl.fresh_back e2 hD), Evl.fresh_back e2 hD, _, _, upd_same, fun z => by simp, by rw [List.filter_eq_nil_iff.mpr (by simp)]; rfl⟩
  · exact fun D i H' z => z.1
  · rintro D i H2 hk ⟨e2, hD, hS⟩
    rw [List.length_map] at hk
    refine ⟨rfl, ?_⟩
    have h0 : 0 < is.length := by omega
    obtain ⟨i0, hi0⟩ : ∃ i0, is[0]? = some i0 := ⟨_, List.getElem?_eq_getElem h0⟩
    have hd0 : is.headD 0 = i0 := by rw [List.headD_eq_head?_getD, List.head?_eq_getElem?, hi0]; rfl
    obtain ⟨o, ho⟩ : ∃ o, is[i]? = some o := ⟨_, List.getElem?_eq_getElem hk⟩
    have l0 := hlt i0 (List.mem_of_getElem? hi0)
    have lo := hlt o (List.mem_of_getElem? ho)
    have en : G.nth (is.map iV) i = iV o := by unfold G.nth; rw [List.getElem?_map, ho]; rfl
    rw [en]
    obtain ⟨ta, zs, hya, sz, wz⟩ := f.wi i0 l0
    obtain ⟨tr, hz, st⟩ := wz o lo
    have e12 := e1.trans e2
    have hx2 : SqL K H2 p0 (is.map iV) ∨ SqT K H2 p0 (is.map iV) := hx.imp (Evl.ex_l e2) (Evl.ex_t e2)
    refine ⟨_, rfl, s0, _, dx, _, _, rfl, e12 _ _ g, cl_Tree T, no_Tree_ways T, rfl, _, rfl, ix_seq_at (i := 0) (v := iV i0) hx2 (by rw [List.getElem?_map, hi0]; rfl) ⟨t3, ys, _, _, rfl, rfl, Evl.ex_t e12 f.wx, atI_nat hya, _, rfl, ta, zs, _, _, rfl, rfl, Evl.ex_t e12 sz, atI_nat hz, tr, rfl, ⟨_, Evl.ex_t e12 st⟩, ?_⟩⟩
    have wlt : ∀ x ∈ wy Fs i0 o, x < n := fun x hx => path_lt (t.path l0 (List.ne_nil_of_mem hx)) l0 x hx
    refine inner_of (its_t (Evl.ex_t e1 st)) (fun j H' => Ex H1 H' ∧ SetHas w H' D n fun x => ((is.take i).any fun o => (wy Fs (is.headD 0) o).contains x) || ((wy Fs i0 o).take j).contains x) ⟨e2, ?_⟩ (fun j H' z => z.1) ?_ ?_
    · simpa using hS
    · rintro H' ⟨e', h'⟩
      refine ⟨e', hD, ?_⟩
      rw [List.length_map, List.take_length] at h'
      have ef : (fun x => (is.take (i + 1)).any fun o => (wy Fs (is.headD 0) o).contains x) = fun x => ((is.take i).any fun o => (wy Fs (is.headD 0) o).contains x) || (wy Fs i0 o).contains x := by
        funext x
        rw [take_snoc' ho, List.any_append, hd0]; simp
      rw [ef]; exact h'
    · rintro j H' hj ⟨e', S, k, hS', hm, hk'⟩
      rw [List.length_map] at hj
      obtain ⟨x, hx⟩ : ∃ x, (wy Fs i0 o)[j]? = some x := ⟨_, List.getElem?_eq_getElem hj⟩
      have ex : G.nth ((wy Fs i0 o).map iV) j = V.int (x : Int) := by unfold G.nth; rw [List.getElem?_map, hx]; rfl
      have lx := wlt x (List.mem_of_getElem? hx)
      refine ⟨rfl, _, rfl, x, S, k, ex, hS', ?_, Evl.Ex.mut e' hD, SetHas.add lx hm hk' fun y => ?_⟩
      · have := List.length_filter_le (fun x => ((is.take i).any fun o => (wy Fs (is.headD 0) o).contains x) || ((wy Fs i0 o).take j).contains x) (List.range n)
        rw [List.length_range] at this
        have : scanBound = 1048576 ∨ 100 < scanBound := by first | exact .inr (by decide) | exact .inl rfl
        omega
      · rw [take_snoc' hx, Bool.eq_iff_iff]
        simp only [Bool.or_eq_true, List.contains_iff_mem, List.mem_append, List.mem_singleton, decide_eq_true_eq]
        exact or_assoc.symm
  · rintro D H2 ⟨e2, hD, S, k, hS, hm, hk⟩
    rw [List.length_map, List.take_length] at hm hk
    refine ⟨D, S, k, rfl, hS, ?_, fun ns p h1 h2 h3 hp => ?_⟩
    · have := List.length_filter_le (fun x => is.any fun o => (wy Fs (is.headD 0) o).contains x) (List.range n)
      rw [List.length_range] at this
      omega
    · have e5 := sorted_is h1 fun z => by rw [h2 z, hm z]
      have e3 := (e1.trans e2)
      refine q1 is p _ es hi hlt (e3.trans (Evl.Ex.new hp)) (Evl.fresh_back e3 hp) ?_
      rw [upd_same, e5, List.map_map]; rfl
end

end T1

namespace T1
open PySem PySem.Spec PyProof.Rows L2 G
open Evl (Ex)
local macro_rules | `(tactic| walk_at "dd") => `(tactic| (dsimp only [tCB, tCons, tNil, tC, tOp, tUn, tTest, tB, tVar, tAndV, tOrV, tNotV, tIf, tAnd, tOr, tNot, tSeq, tRet, tRetN, tIfS, tAsg, gName, tDrop, tTup, tLst, tChain, tNext, tCall, L2.start]))
/-- a box of draws stands at A, with at most c of its own draws taken -/
def BoxAt (H : Hp) (A : Addr) (c : Nat) : Prop := ∃ (x : Int) (b : Bool) (y : Int) (k : Int), H A = some (.lst [.int x, .bl b, .int y, .int k]) ∧ 0 ≤ x ∧ 0 ≤ y ∧ y < 2147483648 ∧ 0 ≤ k ∧ k ≤ c
theorem BoxAt.mono {H H' : Hp} {A : Addr} {c : Nat} (e : Ex H H') (h : BoxAt H A c) : BoxAt H' A c := let ⟨x, b, y, k, z, r⟩ := h; ⟨x, b, y, k, e _ _ z, r⟩
theorem BoxAt.up {H : Hp} {A : Addr} {c d : Nat} (h : BoxAt H A c) (l : c ≤ d) : BoxAt H A d := let ⟨x, b, y, k, z, h1, h2, h3, h4, h5⟩ := h; ⟨x, b, y, k, z, h1, h2, h3, h4, by omega⟩
theorem BoxAt.some {H : Hp} {A : Addr} {c : Nat} (h : BoxAt H A c) : ∃ l, H A = some (.lst l) := let ⟨_, _, _, _, z, _⟩ := h; ⟨_, z⟩
theorem ex_upd_del {H H' : Hp} {A : Addr} {o : HO} (e : Ex (L2.del H A) H') : Ex (L2.del H A) (upd H' A o) := Evl.Ex.mut e del_same
theorem ex_of_del {B H H' : Hp} {A : Addr} (b : Ex B H) (n : B A = none) (e : Ex (L2.del H A) H') : Ex B H' := fun a o z => by
  refine e a o ?_
  rw [del_ne (fun q => by rw [q, n] at z; cases z)]
  exact b a o z
def sp__law_cell (K : PySem.W.Frag) : Sp := sp2 fun a b H Q E => ∃ (p : Addr) (ns : List Int) (k : Nat), a = .ref p ∧ SqL K H p (ns.map V.int) ∧ b = .int (k : Int) ∧ ∀ z H', Ex H H' → Q (.int z) H'
section
variable {K : PySem.W.Frag} {mg : Str → Option Value} {P : Program} {w : World} {base : Heap}
theorem ok__law_cell (T : Tx K mg) : Cal P w K mg base CX0 1 "_law_cell" ["_law_script", "_law_k"] (sp__law_cell K) := by
  refine cal_of (fD__law_cell T) (T.glo 30 rfl) sc__law_cell (fun _ _ _ _ _ _ us hl => match us, hl with | [_, _], _ => rfl) (fun vs H Q E h => len2 h) (fun f cdv A outer s H vs Q E hr h => ?_)
  obtain ⟨a, b, rfl, h⟩ := h
  refine ⟨_, (PSs.nox (pss_one (ps_ret (pe_ifExp (pt_cmpR op_lt (pv 1) (pe_callB (call_lenK (K := K)) (by rfl) (T.free 7 rfl) (by decide +kernel) (pa_cons (pv 0) pa_nil)) (nomark _)) (pe_ix (ix_listK (K := K)) (pv 0) (pv 1) (fun _ _ => rfl)) (pe_op op_add (pe_op op_mul pe_int (pv 1)) (pe_op op_mod (pe_callB (cr_sumK (K := K) rfl) (by rfl) (T.free 14 rfl) (by decide +kernel) (pa_cons (pe_slice (sl_listK (K := K)) (pv 0) po_none (po_some pe_int)) pa_nil)) pe_int)))))), ?_⟩
  obtain ⟨p, ns, k, rfl, hs, rfl, q⟩ := h
  refine ⟨_, rfl, _, rfl, p, _, rfl, .inl hs, _, _, rfl, rfl, _, rfl, ?_⟩
  rw [List.length_map]
  by_cases c : (k : Int) < (ns.length : Int)
  · rw [decide_eq_true c]
    refine iteT ?_
    exact ⟨_, rfl, _, rfl, p, _, _, _, rfl, rfl, hs, atI_nat (j := k) (v := .int (ns[k]'(by omega))) (by rw [List.getElem?_map, List.getElem?_eq_getElem]; rfl), q _ _ (Evl.Ex.refl _)⟩
  · rw [decide_eq_false c]
    refine iteF ?_
    refine ⟨_, rfl, 6007, k, rfl, rfl, .inl (by omega), ?_⟩
    refine ⟨_, rfl, 1, rfl, p, _, rfl, hs, fun l hl => ?_⟩
    have ec : cutV (ns.map V.int) none (some 1) = ((ns.drop (HT.sIx (ns.map V.int).length 0 none)).take (HT.sIx (ns.map V.int).length (ns.map V.int).length (some 1) - HT.sIx (ns.map V.int).length 0 none)).map V.int := by
      unfold cutV; rw [List.map_take, List.map_drop]
    refine ⟨l, _, rfl, SqL.of (by rw [upd_same, ec]), ?_⟩
    exact ⟨_, _, rfl, rfl, by omega, _, _, rfl, rfl, q _ _ (Evl.Ex.new hl)⟩
end
def sp__law_box (K : PySem.W.Frag) : Sp := sp1 fun a H Q E => ∃ i, a = .int i ∧ ∀ A H', H A = none → Ex H H' → BoxAt H' A 0 → Q (.ref A) H'
section
variable {K : PySem.W.Frag} {mg : Str → Option Value} {P : Program} {w : World} {base : Heap}
theorem ok__law_box (T : Tx K mg) : Cal P w K mg base CX0 1 "_law_box" ["_law_great"] (sp__law_box K) := by
  refine cal_of (fD__law_box T) (T.glo 31 rfl) sc__law_box (fun _ _ _ _ _ _ us hl => match us, hl with | [_], _ => rfl) (fun vs H Q E h => len1 h) (fun f cdv A outer s H vs Q E hr h => ?_)
  obtain ⟨a, rfl, h⟩ := h
  refine ⟨_, (PSs.nox (pss_one (ps_ret (pe_lst (pa_cons (pe_callB call_abs (by rfl) (T.free 1 rfl) (by decide +kernel) (pa_cons (pv 0) pa_nil)) (pa_cons (pe_cmpR op_ge (pe_callB call_abs (by rfl) (T.free 1 rfl) (by decide +kernel) (pa_cons (pv 0) pa_nil)) (pe_op op_pow pe_int pe_int) (nomark _)) (pa_cons (pe_op op_mod (pe_callTy call_int1 (by rfl) (T.free 5 rfl) (by decide +kernel) (pa_cons (pe_callB call_abs (by rfl) (T.free 1 rfl) (by decide +kernel) (pa_cons (pv 0) pa_nil)) pa_nil)) pe_int) (pa_cons pe_int pa_nil)))))))), ?_⟩
  obtain ⟨i, rfl, q⟩ := h
  refine ⟨_, rfl, i, rfl, _, rfl, i, rfl, 10, 18, rfl, rfl, ⟨by decide, by decide, by decide⟩, _, _, rfl, rfl, _, rfl, i, rfl, .inl ⟨_, rfl, _, _, rfl, rfl, (by show (0 : Int) < 2147483629; decide), (by show 4 ≤ sizeLine; decide), fun A hA => ?_⟩⟩
  refine q A _ hA (Evl.Ex.new hA) ⟨_, _, _, _, upd_same, ?_, Int.emod_nonneg _ (by decide), ?_, by decide, by decide⟩
  · split <;> omega
  · exact Int.lt_trans (Int.emod_lt_of_pos _ (by decide)) (by decide)
end
theorem take_some {m : Nat} {z : Int} (h1 : 0 ≤ z) (h2 : z < m) : ∃ i : Nat, z = i ∧ i < m := ⟨z.toNat, by omega, by omega⟩
def sp__law_take (K : PySem.W.Frag) : Sp := sp2 fun a b H Q E => ∃ (A : Addr) (m c : Nat), a = .ref A ∧ b = .int (m : Int) ∧ 1 ≤ m ∧ m ≤ 1000000 ∧ c ≤ 1000000 ∧ BoxAt H A c ∧ ∀ (i : Nat) H', i < m → Ex (L2.del H A) H' → BoxAt H' A (c + 1) → Q (.int (i : Int)) H'
section
variable {K : PySem.W.Frag} {mg : Str → Option Value} {P : Program} {w : World} {base : Heap}
theorem ok__law_take (T : Tx K mg) : Cal P w K mg base CX0 1 "_law_take" ["_law_box_here", "_law_many"] (sp__law_take K) := by
  refine cal_of (fD__law_take T) (T.glo 32 rfl) sc__law_take (fun _ _ _ _ _ _ us hl => match us, hl with | [_, _], _ => rfl) (fun vs H Q E h => len2 h) (fun f cdv A outer s H vs Q E hr h => ?_)
  obtain ⟨a, b, rfl, h⟩ := h
  refine ⟨_, (PSs.nox (pss_cons (ps_if (PW.pt (pw_and (pt_val (pe_ix (ix_listK (K := K)) (pv 0) pe_int (fun _ _ => rfl))) (pw_and1 (pt_cmpR op_gt (pe_ix (ix_listK (K := K)) (pv 0) pe_int (fun _ _ => rfl)) pe_int (nomark _))))) (pss_cons (ps_set (i := 2) sc__law_take.nd rfl (Or.inl rfl) (pe_op op_mod (pe_callTy call_int1 (by rfl) (T.free 5 rfl) (by decide +kernel) (pa_cons (pe_ix (ix_listK (K := K)) (pv 0) pe_int (fun _ _ => rfl)) pa_nil)) (pv 1)))
      (pss_cons (ps_asg (pe_op op_fdiv (pe_ix (ix_listK (K := K)) (pv 0) pe_int (fun _ _ => rfl)) (pv 1)) (pg_sub (pv 0) pe_int set_list))
      (pss_one (ps_ret (pv 2))))) pss_nil)
      (pss_cons (ps_asg (pe_op op_add (pe_ix (ix_listK (K := K)) (pv 0) pe_int (fun _ _ => rfl)) pe_int) (pg_sub (pv 0) pe_int set_list))
      (pss_cons (ps_set (i := 3) sc__law_take.nd rfl (Or.inl rfl) (pe_op op_mod (pe_callTy call_int1 (by rfl) (T.free 5 rfl) (by decide +kernel) (pa_cons (pe_op op_pow (pe_op op_add (pe_op op_add (pe_ix (ix_listK (K := K)) (pv 0) pe_int (fun _ _ => rfl)) (pe_op op_mul pe_int (pe_ix (ix_listK (K := K)) (pv 0) pe_int (fun _ _ => rfl)))) pe_int) pe_int) pa_nil)) pe_int))
      (pss_one (ps_ret (pe_op op_mod (pe_op op_fdiv (pe_op op_mod (pe_callTy call_int1 (by rfl) (T.free 5 rfl) (by decide +kernel) (pa_cons (pe_op op_pow (pe_op op_add (pe_op op_mul (pv 3) pe_int) (pe_op op_mul pe_int (pe_ix (ix_listK (K := K)) (pv 0) pe_int (fun _ _ => rfl)))) pe_int) pa_nil)) pe_int) pe_int) (pv 1)))))))), ?_⟩
  obtain ⟨A, m, c, rfl, rfl, m1, m2, c2, ⟨x, b, y, k, hA, x0, y0, y1, k0, k1⟩, q⟩ := h
  refine seq_at ?_
  have lA := SqL.of (K := K) hA
  refine ⟨_, rfl, A, _, 1, _, rfl, rfl, lA, rfl, _, rfl, ?_⟩
  have fin : ∀ (Z : Int) H', Ex (L2.del H A) H' → BoxAt H' A (c + 1) → Q (.int (Z % (m : Int))) H' := fun Z H' e hb => by
    obtain ⟨i, e1, hi⟩ := take_some (m := m) (Int.emod_nonneg Z (by omega)) (Int.emod_lt_of_pos Z (by omega))
    rw [e1]; exact q i H' hi e hb
  cases b with
  | false =>
    refine iteF (iteF ?_)
    dsimp only [tNext]
    refine seq_at ?_
    refine ⟨_, rfl, A, _, 3, _, rfl, rfl, lA, rfl, _, _, rfl, rfl, _, rfl, A, _, 3, 3, rfl, rfl, hA, rfl, ?_⟩
    have hA1 : upd H A (.lst ([V.int x, .bl false, .int y, .int k].set 3 (.int (k + 1)))) A = some (.lst [.int x, .bl false, .int y, .int (k + 1)]) := upd_same
    have eA1 : Ex (L2.del H A) (upd H A (.lst ([V.int x, .bl false, .int y, .int k].set 3 (.int (k + 1))))) := ex_upd_del Ex.ofDel
    generalize upd H A (.lst ([V.int x, .bl false, .int y, .int k].set 3 (.int (k + 1)))) = H1 at hA1 eA1 ⊢
    have l1 := SqL.of (K := K) hA1
    dsimp only
    refine seq_at (asg_at ?_)
    refine ⟨_, rfl, A, _, 2, _, rfl, rfl, l1, rfl, _, rfl, A, _, 3, _, rfl, rfl, l1, rfl, _, _, rfl, rfl, .inl ⟨by decide, by decide⟩, _, _, rfl, rfl, _, _, rfl, rfl, _, 5, rfl, rfl, ⟨by decide, by decide, by omega⟩, .inl ⟨_, rfl, _, 2147483647, rfl, rfl, (by show (0 : Int) < 2147483647; decide), ?_⟩⟩
    have z0 : ∀ z : Int, 0 ≤ z % 2147483647 ∧ z % 2147483647 < 2147483647 := fun z => ⟨Int.emod_nonneg _ (by decide), Int.emod_lt_of_pos _ (by decide)⟩
    generalize ((y + 15485863 * (k + 1) + 179424673) ^ (5 : Int).toNat) = z1
    have z2 := z0 z1
    generalize z1 % 2147483647 = z at z2 ⊢
    dsimp only [gName]
    refine ret_at ?_
    refine ⟨_, rfl, _, _, rfl, rfl, .inr ⟨by decide, by decide⟩, _, rfl, A, _, 3, _, rfl, rfl, l1, rfl, _, _, rfl, rfl, .inl ⟨by decide, by decide⟩, _, _, rfl, rfl, _, 3, rfl, rfl, ⟨by decide, by decide, by omega⟩, .inl ⟨_, rfl, _, 2147483587, rfl, rfl, (by show (0 : Int) < 2147483587; decide), _, 64, rfl, rfl, ⟨by decide, by decide⟩, _, rfl, _, _, rfl, rfl, (by show (0 : Int) < (m : Int); omega), ?_⟩⟩
    exact fin _ _ eA1 ⟨x, false, y, k + 1, hA1, x0, y0, y1, by omega, by omega⟩
  | true =>
    refine iteT ?_
    refine ⟨_, rfl, A, _, 0, _, rfl, rfl, lA, rfl, _, _, rfl, rfl, _, rfl, ?_⟩
    by_cases hx : 0 < x
    · rw [decide_eq_true hx]
      refine iteT ?_
      refine seq_at (asg_at ?_)
      refine ⟨_, rfl, A, _, 0, _, rfl, rfl, lA, rfl, .inl ⟨_, rfl, _, rfl, _, _, rfl, rfl, (by show (0 : Int) < (m : Int); omega), ?_⟩⟩
      dsimp only [gName]
      refine seq_at ?_
      refine ⟨_, rfl, A, _, 0, _, rfl, rfl, lA, rfl, _, rfl, _, _, rfl, rfl, ⟨by omega, by omega⟩, _, rfl, A, _, 0, 0, rfl, rfl, hA, rfl, ?_⟩
      have dv : 0 ≤ x / (m : Int) := Int.ediv_nonneg x0 (by omega)
      exact ⟨_, rfl, fin x _ (ex_upd_del Ex.ofDel) ⟨x / (m : Int), true, y, k, upd_same, dv, y0, y1, k0, by omega⟩⟩
    rw [decide_eq_false hx]
    refine iteF ?_
    dsimp only [tNext]
    refine seq_at ?_
    refine ⟨_, rfl, A, _, 3, _, rfl, rfl, lA, rfl, _, _, rfl, rfl, _, rfl, A, _, 3, 3, rfl, rfl, hA, rfl, ?_⟩
    have hA1 : upd H A (.lst ([V.int x, .bl true, .int y, .int k].set 3 (.int (k + 1)))) A = some (.lst [.int x, .bl true, .int y, .int (k + 1)]) := upd_same
    have eA1 : Ex (L2.del H A) (upd H A (.lst ([V.int x, .bl true, .int y, .int k].set 3 (.int (k + 1))))) := ex_upd_del Ex.ofDel
    generalize upd H A (.lst ([V.int x, .bl true, .int y, .int k].set 3 (.int (k + 1)))) = H1 at hA1 eA1 ⊢
    have l1 := SqL.of (K := K) hA1
    dsimp only
    refine seq_at (asg_at ?_)
    refine ⟨_, rfl, A, _, 2, _, rfl, rfl, l1, rfl, _, rfl, A, _, 3, _, rfl, rfl, l1, rfl, _, _, rfl, rfl, .inl ⟨by decide, by decide⟩, _, _, rfl, rfl, _, _, rfl, rfl, _, 5, rfl, rfl, ⟨by decide, by decide, by omega⟩, .inl ⟨_, rfl, _, 2147483647, rfl, rfl, (by show (0 : Int) < 2147483647; decide), ?_⟩⟩
    have z0 : ∀ z : Int, 0 ≤ z % 2147483647 ∧ z % 2147483647 < 2147483647 := fun z => ⟨Int.emod_nonneg _ (by decide), Int.emod_lt_of_pos _ (by decide)⟩
    generalize ((y + 15485863 * (k + 1) + 179424673) ^ (5 : Int).toNat) = z1
    have z2 := z0 z1
    generalize z1 % 2147483647 = z at z2 ⊢
    dsimp only [gName]
    refine ret_at ?_
    refine ⟨_, rfl, _, _, rfl, rfl, .inr ⟨by decide, by decide⟩, _, rfl, A, _, 3, _, rfl, rfl, l1, rfl, _, _, rfl, rfl, .inl ⟨by decide, by decide⟩, _, _, rfl, rfl, _, 3, rfl, rfl, ⟨by decide, by decide, by omega⟩, .inl ⟨_, rfl, _, 2147483587, rfl, rfl, (by show (0 : Int) < 2147483587; decide), _, 64, rfl, rfl, ⟨by decide, by decide⟩, _, rfl, _, _, rfl, rfl, (by show (0 : Int) < (m : Int); omega), ?_⟩⟩
    exact fin _ _ eA1 ⟨x, true, y, k + 1, hA1, x0, y0, y1, by omega, by omega⟩
end

end T1

namespace T1
open PySem PySem.Spec PyProof.Rows L2 G
open Evl (Ex)
local macro_rules | `(tactic| walk_at "dd") => `(tactic| (dsimp only [tCB, tCons, tNil, tC, tOp, tUn, tTest, tB, tVar, tAndV, tOrV, tNotV, tIf, tAnd, tOr, tNot, tSeq, tRet, tRetN, tIfS, tAsg, gName, tDrop, tTup, tLst, tChain, tNext, tCall, L2.start]))
theorem del_get {H H' : Hp} {A C : Addr} {o : HO} (e : Ex (L2.del H A) H') (n : C ≠ A) (h : H C = some o) : H' C = some o := e C o (by rw [del_ne n]; exact h)
theorem erase_map {α β : Type} (f : α → β) : ∀ (l : List α) (i : Nat), (l.map f).eraseIdx i = (l.eraseIdx i).map f
  | [], _ => rfl
  | _ :: _, 0 => rfl
  | a :: l, i + 1 => by simp only [List.map_cons, List.eraseIdx_cons_succ, erase_map f l i]
theorem erase_perm {α : Type} : ∀ {l : List α} {i : Nat} (h : i < l.length), (l[i] :: l.eraseIdx i).Perm l
  | _ :: _, 0, _ => .refl _
  | a :: l, i + 1, h => by
    have z := erase_perm (l := l) (i := i) (by simpa using h)
    simp only [List.getElem_cons_succ, List.eraseIdx_cons_succ]
    exact (List.Perm.swap ..).trans (z.cons a)
theorem seqIndex_nat {i n : Nat} (h : i < n) : seqIndex? (i : Int) n = some i := by
  unfold seqIndex?
  have h1 : ¬ (i : Int) < 0 := by omega
  simp only [h1, if_false]
  rw [if_pos (by simp; omega)]; rfl
def sp__law_mixed (K : PySem.W.Frag) : Sp := sp2 fun a b H Q E => ∃ (A p : Addr) (ns : List Nat) (c : Nat), a = .ref A ∧ b = .ref p ∧ SqL K H p (ns.map iV) ∧ ns.length ≤ 100 ∧ c + ns.length ≤ 1000000 ∧ BoxAt H A c ∧
  ∀ (f : Addr) (ms : List Nat) H', ms.Perm ns → H f = none → Ex (L2.del H A) H' → H' f = some (.lst (ms.map iV)) → BoxAt H' A (c + ns.length) → Q (.ref f) H'
section
variable {K : PySem.W.Frag} {mg : Str → Option Value} {P : Program} {w : World} {base : Heap}
theorem ok__law_mixed (T : Tx K mg) : Cal P w K mg base CX0 2 "_law_mixed" ["_law_box_here", "_law_items"] (sp__law_mixed K) := by
  refine cal_of (fD__law_mixed T) (T.glo 33 rfl) sc__law_mixed (fun _ _ _ _ _ _ us hl => match us, hl with | [_, _], _ => rfl) (fun vs H Q E h => len2 h) (fun f cdv A outer s H vs Q E hr h => ?_)
  obtain ⟨a, b, rfl, h⟩ := h
  refine ⟨_, (PSs.nox (pss_cons (ps_par (i := 2) (j := 3) rfl sc__law_mixed.nd rfl rfl (by decide) rfl rfl (pa_cons (pe_callTy (call_listK (K := K)) (by rfl) (T.free 8 rfl) (by decide +kernel) (pa_cons (pv 1) pa_nil)) (pa_cons (pe_lst pa_nil) pa_nil)) (by rfl))
      (pss_cons (ps_while PassesOwn.never (pt_cmpR (op_neDK (K := K) (hu64 hr.r)) (pv 2) (pe_lst pa_nil) (nomark _)) (pss_one (ps_expr (pe_bm PySem.F.plainAttrs_list PySem.F.slot_list_append PySem.F.type_list_append mt_append (pv 3) (pa_cons (pe_bm PySem.F.plainAttrs_list PySem.F.slot_list_pop PySem.F.type_list_pop mt_popAt (pv 2) (pa_cons (pe_c (ok__law_take T) (hr.mono (by decide)) rfl pass0 (pa_cons (pv 0) (pa_cons (pe_callB (call_lenK (K := K)) (by rfl) (T.free 7 rfl) (by decide +kernel) (pa_cons (pv 2) pa_nil)) pa_nil))) pa_nil)) pa_nil)))))
      (pss_one (ps_ret (pv 3)))))), ?_⟩
  obtain ⟨A, p, ns, c, rfl, rfl, hp, nl, c2, hb, q⟩ := h
  obtain ⟨l0, hA⟩ := hb.some
  refine seq_at ?_
  refine ⟨_, rfl, p, _, rfl, .inl hp, fun L hL => ⟨Nat.zero_le _, fun F hF => ⟨_, _, rfl, ?_⟩⟩⟩
  have LA : L ≠ A := fun z => by rw [z, hA] at hL; cases hL
  have FA : F ≠ A := fun z => by rw [z, upd_ne LA.symm, hA] at hF; cases hF
  have FL : F ≠ L := fun z => by rw [z, upd_same] at hF; cases hF
  have hF0 : H F = none := by rw [upd_ne FL] at hF; exact hF
  have hFd : L2.del H A F = none := by rw [del_ne FA]; exact hF0
  have hLd : L2.del H A L = none := by rw [del_ne LA]; exact hL
  dsimp only
  refine seq_at ?_
  refine ⟨fun m σ' H' => ∃ ls fs : List Nat, σ' = [some (.ref A), some (.ref p), some (.ref L), some (.ref F)] ∧ Ex (L2.del H A) H' ∧ BoxAt H' A (c + fs.length) ∧ H' L = some (.lst (ls.map iV)) ∧ H' F = some (.lst (fs.map iV)) ∧ (fs ++ ls).Perm ns ∧ m = ls.length,
    ⟨_, ns, [], rfl, Evl.Ex.mut (Evl.Ex.mut Ex.ofDel hLd) hFd, (hb.mono (Evl.Ex.new hL)).mono (Evl.Ex.new hF), ?_, upd_same, .refl _, rfl⟩, ?_⟩
  · rw [upd_ne FL.symm, upd_same]
  rintro m σ' H' ⟨ls, fs, rfl, e, hbx, hLl, hFf, pm, rfl⟩
  refine ⟨_, rfl, Nat.zero_le _, fun d hd => ?_⟩
  have ed := Evl.Ex.new (o := .lst []) hd
  refine ⟨.list (ls.map intD), .list [], dp_list (ed _ _ hLl), dp_list (l := []) upd_same, (shaped_ints ls).1, (shaped_ints []).1, _, rfl, ?_⟩
  have hln : fs.length + ls.length = ns.length := by rw [← List.length_append]; exact pm.length_eq
  by_cases c0 : ls = []
  · subst c0
    show if (!PyData.eqv (.list []) (.list [])) = true then _ else _
    refine iteF ?_
    dsimp only
    refine ⟨_, rfl, q F fs _ (by simpa using pm) hF0 (e.trans ed) (ed _ _ hFf) ?_⟩
    have : fs.length = ns.length := by simpa using hln
    rw [← this]; exact hbx.mono ed
  · have ne : PyData.eqv (.list (ls.map intD)) (.list []) = false := by
      cases ls with
      | nil => exact absurd rfl c0
      | cons x l => rfl
    rw [ne]
    refine iteT ?_
    have lp : 1 ≤ ls.length := by cases ls; exact absurd rfl c0; simp
    refine ⟨fun σ' H' => ∃ m', m' < ls.length ∧ ∃ ls fs : List Nat, σ' = [some (.ref A), some (.ref p), some (.ref L), some (.ref F)] ∧ Ex (L2.del H A) H' ∧ BoxAt H' A (c + fs.length) ∧ H' L = some (.lst (ls.map iV)) ∧ H' F = some (.lst (fs.map iV)) ∧ (fs ++ ls).Perm ns ∧ m' = ls.length, fun σ' H' h => h, ?_⟩
    refine ⟨_, rfl, .inl ⟨rfl, _, SqL.of (ed _ _ hFf)⟩, _, rfl, .inl ⟨rfl, _, SqL.of (ed _ _ hLl)⟩, _, rfl, _, rfl, L, _, rfl, .inl (SqL.of (ed _ _ hLl)), _, _, rfl, A, ls.length, c + fs.length, rfl, by rw [List.length_map], lp, by omega, by omega, hbx.mono ed, fun i H2 hi e2 hb2 => ?_⟩
    have hL2 := del_get e2 LA (ed _ _ hLl)
    have hF2 := del_get e2 FA (ed _ _ hFf)
    have e02 := ex_of_del (e.trans ed) del_same e2
    refine ⟨L, _, (i : Int), i, iV ls[i], rfl, rfl, hL2, by omega, by omega, ?_, ?_, ?_⟩
    · rw [List.length_map]; exact seqIndex_nat hi
    · rw [List.getElem?_map, List.getElem?_eq_getElem hi]; rfl
    · refine ⟨F, fs.map iV, _, rfl, rfl, ?_, ?_, ls.length - 1, by omega, ls.eraseIdx i, fs ++ [ls[i]], rfl, Evl.Ex.mut (Evl.Ex.mut e02 hLd) hFd, ?_, ?_, ?_, ?_, ?_⟩
      · rw [upd_ne FL]; exact hF2
      · rw [List.length_map]; exact line_big (by omega)
      · rw [List.length_append, List.length_singleton, ← Nat.add_assoc]
        obtain ⟨x, b, y, k, z, r⟩ := hb2
        exact ⟨x, b, y, k, by rw [upd_ne FA.symm, upd_ne LA.symm]; exact z, r⟩
      · rw [upd_ne FL.symm, upd_same, erase_map]
      · rw [upd_same, List.map_append]; rfl
      · refine List.Perm.trans ?_ pm
        rw [List.append_assoc]
        exact (erase_perm hi).append_left fs
      · rw [List.length_eraseIdx, if_pos hi]
end

end T1

namespace T1
open PySem PySem.Spec PyProof.Rows L2 G
open Evl (Ex)
local macro_rules | `(tactic| walk_at "dd") => `(tactic| (dsimp only [tCB, tCons, tNil, tC, tOp, tUn, tTest, tB, tVar, tAndV, tOrV, tNotV, tIf, tAnd, tOr, tNot, tSeq, tRet, tRetN, tIfS, tAsg, gName, tDrop, tTup, tLst, tChain, tNext, tCall, L2.start]))
def sp__law_index (K : PySem.W.Frag) : Sp := sp2 fun a b H Q E => ∃ d m, Dq K H a d ∧ b = .int m ∧ Q (.bl (isIdx d m)) H
section
variable {K : PySem.W.Frag} {mg : Str → Option Value} {P : Program} {w : World} {base : Heap}
theorem ok__law_index (T : Tx K mg) : Cal P w K mg base CX0 1 "_law_index" ["_law_value", "_law_many"] (sp__law_index K) := by
  refine cal_of (fD__law_index T) (T.glo 36 rfl) sc__law_index (fun _ _ _ _ _ _ us hl => match us, hl with | [_, _], _ => rfl) (fun vs H Q E h => len2 h) (fun f cdv A outer s H vs Q E hr h => ?_)
  obtain ⟨a, b, rfl, h⟩ := h
  refine ⟨_, (PSs.nox (pss_one (ps_ret (pe_and (pe_callB (call_isiK' (K := K)) (by rfl) (T.free 6 rfl) (by decide +kernel) (pa_cons (pv 0) (pa_cons (pe_bltn (v := .ty "int") (u := .type "int") (by rfl) (T.free 5 rfl) (by decide +kernel) rfl) pa_nil))) (pe_and (pe_not (pe_callB (call_isiK' (K := K)) (by rfl) (T.free 6 rfl) (by decide +kernel) (pa_cons (pv 0) (pa_cons (pe_bltn (v := .ty "bool") (u := .type "bool") (by rfl) (T.free 3 rfl) (by decide +kernel) rfl) pa_nil)))) (pe_one (pe_chain op_le op_lt pe_int (pv 0) (pv 1)))))))), ?_⟩
  obtain ⟨d, m, hd, rfl, q⟩ := h
  refine ⟨_, rfl, ?_⟩
  walk_at "dd"
  refine isi_int hd ⟨_, rfl, ?_⟩
  cases e : isT "int" d with
  | false => 
    have : isIdx d m = false := by cases d <;> first | rfl | cases e
    rw [this] at q; exact q
  | true =>
  refine iteT ?_
  refine ⟨_, rfl, ?_⟩
  refine isi_bool hd ⟨_, rfl, _, rfl, ?_⟩
  cases d with
  | int i =>
    cases hd
    refine iteT ?_
    refine ⟨_, rfl, 0, i, rfl, rfl, _, rfl, ?_⟩
    by_cases c : (0 : Int) ≤ i
    · rw [decide_eq_true c]
      refine ⟨_, rfl, _, _, rfl, rfl, ?_⟩
      simp only [isIdx, decide_eq_true c, Bool.true_and] at q
      exact q
    · rw [decide_eq_false c]
      simp only [isIdx, decide_eq_false c, Bool.false_and] at q
      exact q
  | bool b => exact q
  | _ => cases e
end
def sp__law_is_pair (K : PySem.W.Frag) : Sp := sp2 fun a b H Q E => ∃ d m, Dq K H a d ∧ b = .int m ∧ (items d).length ≤ 100000 ∧ Q (.bl (isRd d m)) H
section
variable {K : PySem.W.Frag} {mg : Str → Option Value} {P : Program} {w : World} {base : Heap}
theorem ok__law_is_pair (T : Tx K mg) : Cal P w K mg base CX0 2 "_law_is_pair" ["_law_value", "_law_many"] (sp__law_is_pair K) := by
  refine cal_of (fD__law_is_pair T) (T.glo 37 rfl) sc__law_is_pair (fun _ _ _ _ _ _ us hl => match us, hl with | [_, _], _ => rfl) (fun vs H Q E h => len2 h) (fun f cdv A outer s H vs Q E hr h => ?_)
  obtain ⟨a, b, rfl, h⟩ := h
  refine ⟨_, (PSs.nox (pss_cons (ps_if (PW.pt (pw_or (pt_not (pt_val (pe_callB (call_isiK' (K := K)) (by rfl) (T.free 6 rfl) (by decide +kernel) (pa_cons (pv 0) (pa_cons (pe_bltn (v := .ty "tuple") (u := .type "tuple") (by rfl) (T.free 15 rfl) (by decide +kernel) rfl) pa_nil))))) (pw_or1 (pt_cmpR op_ne (pe_callB (call_lenK (K := K)) (by rfl) (T.free 7 rfl) (by decide +kernel) (pa_cons (pv 0) pa_nil)) pe_int (nomark _))))) (pss_one (ps_ret pe_bl)) pss_nil)
      (pss_one (ps_ret (pe_and (pe_c (ok__law_index T) (hr.mono (by decide)) rfl pass0 (pa_cons (pe_ix (ix_tupK (K := K)) (pv 0) pe_int (fun _ _ => rfl)) (pa_cons (pv 1) pa_nil))) (pe_and (pe_c (ok__law_index T) (hr.mono (by decide)) rfl pass0 (pa_cons (pe_ix (ix_tupK (K := K)) (pv 0) pe_int (fun _ _ => rfl)) (pa_cons (pv 1) pa_nil))) (pe_one (pe_cmpR op_lt (pe_ix (ix_tupK (K := K)) (pv 0) pe_int (fun _ _ => rfl)) (pe_ix (ix_tupK (K := K)) (pv 0) pe_int (fun _ _ => rfl)) (nomark _))))))))), ?_⟩
  obtain ⟨d, m, hd, rfl, hl, q⟩ := h
  refine seq_at ?_
  refine ⟨_, rfl, ?_⟩
  walk_at "dd"
  refine isi_tup hd ⟨_, rfl, ?_⟩
  by_cases et : isT "tuple" d = true
  · obtain ⟨ds, rfl⟩ : ∃ ds, d = .tuple ds := by cases d <;> first | exact ⟨_, rfl⟩ | cases et
    rw [et]
    cases hd with
    | @tup p xs _ hx hds =>
    have hn := hds.length
    refine iteF ?_
    refine ⟨_, rfl, p, xs, rfl, .inr hx, rfl, _, rfl, ?_⟩
    by_cases c : ds.length = 2
    · rw [decide_eq_true (show V.int (xs.length : Int) = V.int 2 by rw [hn, c]; rfl)]
      obtain ⟨x, y, rfl⟩ : ∃ x y, ds = [x, y] := by
        match ds, c with
        | [x, y], _ => exact ⟨x, y, rfl⟩
      cases hds with
      | cons h1 h2 =>
      cases h2 with
      | cons h2 h3 =>
      cases h3
      rename_i v1 v2
      refine iteF ?_
      rw [isRd_eq] at q
      refine ⟨_, rfl, p, _, 0, _, rfl, rfl, hx, atI_nat (j := 0) rfl, _, rfl, _, _, rfl, x, m, h1, rfl, _, rfl, ?_⟩
      cases e1 : isIdx x m with
      | false => rw [e1, Bool.false_and] at q; exact q
      | true =>
        rw [e1, Bool.true_and] at q
        refine iteT ?_
        refine ⟨_, rfl, p, _, 1, _, rfl, rfl, hx, atI_nat (j := 1) rfl, _, rfl, _, _, rfl, y, m, h2, rfl, _, rfl, ?_⟩
        cases e2 : isIdx y m with
        | false => rw [e2, Bool.false_and] at q; exact q
        | true =>
          rw [e2, Bool.true_and] at q
          obtain ⟨i, rfl, _⟩ := isIdx_int e1
          obtain ⟨j, rfl, _⟩ := isIdx_int e2
          cases h1; cases h2
          refine iteT ?_
          exact ⟨_, rfl, p, _, 0, _, rfl, rfl, hx, atI_nat (j := 0) rfl, _, rfl, p, _, 1, _, rfl, rfl, hx, atI_nat (j := 1) rfl, i, j, rfl, rfl, q⟩
    · rw [decide_eq_false (show ¬ V.int (xs.length : Int) = V.int 2 from fun z => c (by have := V.int.inj z; omega))]
      have : isRd (.tuple ds) m = false := by
        unfold isRd; split
        · rename_i u v e; cases e; exact absurd rfl c
        · rfl
      rw [this] at q
      exact q
  · rw [Bool.not_eq_true] at et
    rw [et]
    have : isRd d m = false := by unfold isRd; cases d <;> first | rfl | cases et
    rw [this] at q
    exact q
end
def sp__law_are_pairs (K : PySem.W.Frag) : Sp := sp2 fun a b H Q E => ∃ d m, Dq K H a d ∧ b = .int m ∧ (items d).length ≤ 100000 ∧ (∀ x ∈ items d, (items x).length ≤ 100000) ∧ ∀ H', Ex H H' → Q (.bl (areRds d m)) H'
section
variable {K : PySem.W.Frag} {mg : Str → Option Value} {P : Program} {w : World} {base : Heap}
theorem ok__law_are_pairs (T : Tx K mg) : Cal P w K mg base CX0 3 "_law_are_pairs" ["_law_value", "_law_many"] (sp__law_are_pairs K) := by
  refine cal_of (fD__law_are_pairs T) (T.glo 38 rfl) sc__law_are_pairs (fun _ _ _ _ _ _ us hl => match us, hl with | [_, _], _ => rfl) (fun vs H Q E h => len2 h) (fun f cdv A outer s H vs Q E hr h => ?_)
  obtain ⟨a, b, rfl, h⟩ := h
  refine ⟨_, (PSs.nox (pss_cons (ps_if (PW.pt (pw_or (pt_not (pt_val (pe_callB (call_isiTK (K := K)) (by rfl) (T.free 6 rfl) (by decide +kernel) (pa_cons (pv 0) (pa_cons (pe_tup (pa_cons (pe_bltn (v := .ty "list") (u := .type "list") (by rfl) (T.free 8 rfl) (by decide +kernel) rfl) (pa_cons (pe_bltn (v := .ty "tuple") (u := .type "tuple") (by rfl) (T.free 15 rfl) (by decide +kernel) rfl) pa_nil))) pa_nil))))) (pw_or1 (pt_cmpR op_ne (pe_callB (call_lenK (K := K)) (by rfl) (T.free 7 rfl) (by decide +kernel) (pa_cons (pv 0) pa_nil)) (pe_op op_sub (pv 1) pe_int) (nomark _))))) (pss_one (ps_ret pe_bl)) pss_nil)
      (pss_cons (ps_for PassesOwn.never rfl (pi_range1 (by rfl) (T.free 11 rfl) (pa_cons (pe_callB (call_lenK (K := K)) (by rfl) (T.free 7 rfl) (by decide +kernel) (pa_cons (pv 0) pa_nil)) pa_nil)) (pg_name (i := 2) sc__law_are_pairs.nd rfl (Or.inl rfl)) (pss_cons (ps_if (pt_not (pt_val (pe_c (ok__law_is_pair T) (hr.mono (by decide)) rfl pass0 (pa_cons (pe_ix (ix_seqK (K := K)) (pv 0) (pv 2) (fun _ _ => rfl)) (pa_cons (pv 1) pa_nil))))) (pss_one (ps_ret pe_bl)) pss_nil)
      (pss_one (ps_if (PW.pt (pw_and (pt_cmpR op_gt (pv 2) pe_int (nomark _)) (pw_and1 (pt_not (pt_cmpR (op_ltTK (K := K) (hu0 hr.r)) (pe_ix (ix_seqK (K := K)) (pv 0) (pe_op op_sub (pv 2) pe_int) (fun _ _ => rfl)) (pe_ix (ix_seqK (K := K)) (pv 0) (pv 2) (fun _ _ => rfl)) (nomark _)))))) (pss_one (ps_ret pe_bl)) pss_nil))))
      (pss_one (ps_ret pe_bl))))), ?_⟩
  obtain ⟨d, m, hd, rfl, hl, hl2, q⟩ := h
  refine seq_at ?_
  refine ⟨_, rfl, (by show 2 ≤ sizeLine; decide), fun p hp => ?_⟩
  have ep := Evl.Ex.new (o := .tup [.ty "list", .ty "tuple"]) hp
  dsimp only [tNil]
  refine isi_seq (hd.mono ep) upd_same ⟨_, rfl, ?_⟩
  rw [isSeq_eq]
  cases es : isSeq d with
  | false =>
    refine iteT (iteT ?_)
    have z := q _ ep
    unfold areRds at z; rw [es] at z; exact z
  | true =>
  refine iteF ?_
  obtain ⟨p0, xs, rfl, hx, hds⟩ := dq_seq (hd.mono ep) es
  have hn := hds.length
  refine ⟨_, rfl, p0, xs, rfl, hx, _, rfl, _, _, rfl, rfl, rfl, _, rfl, ?_⟩
  by_cases c : ¬ ((items d).length : Int) = m - 1
  · rw [decide_eq_false (show ¬ V.int (xs.length : Int) = V.int (m - 1) from fun z => c (by have := V.int.inj z; omega))]
    refine iteT ?_
    have z := q _ ep
    unfold areRds at z; rw [decide_eq_false c, Bool.false_and, Bool.and_false] at z; exact z
  replace c := Decidable.not_not.mp c
  rw [decide_eq_true (show V.int (xs.length : Int) = V.int (m - 1) by rw [hn, c])]
  refine iteF ?_
  dsimp only [tNext]
  refine seq_at ?_
  generalize hH1 : upd H p (.tup [.ty "list", .ty "tuple"]) = H1 at ep hx hds ⊢
  have no : ∀ i x H', Ex H1 H' → (items d)[i]? = some x → isRd x m = false → Q (.bl false) H' := fun i x H' e hi hx => by
    have z := q _ (ep.trans e)
    have : (items d).all (isRd · m) = false := by
      rw [Bool.eq_false_iff]; intro z
      have := List.all_eq_true.mp z x (List.mem_of_getElem? hi)
      rw [hx] at this; cases this
    unfold areRds at z; rw [this, Bool.false_and, Bool.and_false, Bool.and_false] at z; exact z
  have g : ∀ j : Nat, rd ((items d)[j]?.getD .none) = ((items d).map rd)[j]?.getD (0, 0) := fun j => by
    rw [List.getElem?_map]; cases (items d)[j]? <;> rfl
  have asc_of : ∀ {n : Nat}, n = xs.length → (∀ j, j + 1 < n → ltR (((items d).map rd)[j]?.getD (0, 0)) (((items d).map rd)[j + 1]?.getD (0, 0)) = true) → asc ((items d).map rd) = true := fun {n} e h => by
    unfold asc
    rw [all_range_map, decide_eq_true_eq]
    intro i hi
    rw [List.length_map, ← hn] at hi
    exact h i (by omega)
  refine for_at (B := H1) (n := xs.length) (item := fun i => .int (0 + i)) (fun P q => w_rng1 (fun Q q => ⟨_, rfl, p0, xs, rfl, hx, q⟩) (by omega) q) (fun k σ' H' => (∃ s2, σ' = [some (.ref p0), some (.int m), s2]) ∧ Ex H1 H' ∧ (∀ j x, j < k → (items d)[j]? = some x → isRd x m = true) ∧ ∀ j, j + 1 < k → ltR (((items d).map rd)[j]?.getD (0, 0)) (((items d).map rd)[j + 1]?.getD (0, 0)) = true) ?_ ?_ ?_ ?_
  · exact fun H2 e2 => ⟨⟨_, rfl⟩, e2, by omega, by omega⟩
  · exact fun k σ' H' z => z.2.1
  · rintro k σ' H' hk ⟨⟨s2, rfl⟩, e', a1, a2⟩
    obtain ⟨x, hx1, hq1⟩ := dqs_nth hds hk
    have ek : ((0 : Int) + (k : Int)) = ((k : Nat) : Int) := by omega
    rw [ek]
    have hx' : SqL K H' p0 xs ∨ SqT K H' p0 xs := hx.imp (Evl.ex_l e') (Evl.ex_t e')
    refine seq_at ?_
    refine ⟨_, rfl, _, rfl, ix_seq_at hx' (nth_at hk) ⟨_, rfl, _, _, rfl, x, m, hq1.mono e', rfl, hl2 x (List.mem_of_getElem? hx1), _, rfl, ?_⟩⟩
    cases er : isRd x m with
    | false => refine iteT ?_; exact no k x H' e' hx1 er
    | true =>
    refine iteF ?_
    have a1' : ∀ j y, j < k + 1 → (items d)[j]? = some y → isRd y m = true := fun j y hj hy => by
      by_cases c : j = k
      · subst c; rw [hx1] at hy; cases hy; exact er
      · exact a1 j y (by omega) hy
    dsimp only [tNext]
    refine ⟨_, rfl, _, _, rfl, rfl, _, rfl, ?_⟩
    by_cases c0 : (0 : Int) < (k : Int)
    · rw [decide_eq_true c0]
      refine iteT ?_
      obtain ⟨k', rfl⟩ : ∃ k', k = k' + 1 := ⟨k - 1, by omega⟩
      obtain ⟨y, hy1, hq2⟩ := dqs_nth hds (i := k') (by omega)
      obtain ⟨u1, v1, rfl, _⟩ := isRd_of (a1 k' y (by omega) hy1)
      obtain ⟨u2, v2, rfl, _⟩ := isRd_of er
      obtain ⟨w1, q1, s1⟩ := pair_at hq2
      obtain ⟨w2, q2, s2'⟩ := pair_at hq1
      refine ⟨_, rfl, _, rfl, _, _, rfl, rfl, ?_⟩
      show rIx K (.ref p0) (.int (((k' + 1 : Nat) : Int) - 1)) H' _
      rw [show (((k' + 1 : Nat) : Int) - 1) = ((k' : Nat) : Int) by omega]
      refine ix_seq_at hx' (nth_at (by omega)) ⟨_, rfl, _, rfl, ix_seq_at hx' (nth_at hk) ?_⟩
      refine ⟨w1, w2, [u1, v1], [u2, v2], q1, q2, Evl.ex_t e' s1, Evl.ex_t e' s2', _, rfl, ?_⟩
      rw [lex_ltR]
      cases el : ltR (u1, v1) (u2, v2) with
      | true =>
        refine iteF ?_
        refine ⟨⟨_, rfl⟩, e', a1', fun j hj => ?_⟩
        by_cases c : j = k'
        · subst c
          rw [← g, ← g, hy1, hx1]; exact el
        · exact a2 j (by omega)
      | false =>
        refine iteT ?_
        have z := q _ (ep.trans e')
        have : asc ((items d).map rd) = false := by
          rw [Bool.eq_false_iff]; intro z
          unfold asc at z
          rw [all_range_map, decide_eq_true_eq] at z
          have := z k' (by rw [List.length_map, ← hn]; omega)
          rw [← g, ← g, hy1, hx1] at this
          exact absurd (el.symm.trans this) (by decide)
        unfold areRds at z; rw [this, Bool.and_false, Bool.and_false, Bool.and_false] at z; exact z
    · rw [decide_eq_false c0]
      refine iteF (iteF ?_)
      exact ⟨⟨_, rfl⟩, e', a1', fun j hj => by omega⟩
  · rintro σ' H' ⟨⟨s2, rfl⟩, e', a1, a2⟩
    have z := q _ (ep.trans e')
    have h1 : (items d).all (isRd · m) = true := List.all_eq_true.mpr fun x hx => by
      have ⟨i, hi, ex⟩ := List.getElem_of_mem hx
      subst ex
      exact a1 i _ (by omega) (List.getElem?_eq_getElem hi)
    unfold areRds at z
    rw [es, decide_eq_true c, h1, asc_of rfl a2] at z
    exact z
end

end T1

namespace T1
open PySem PySem.Spec PyProof.Rows L2 G
open Evl (Ex)
local macro_rules | `(tactic| walk_at "dd") => `(tactic| (dsimp only [tCB, tCons, tNil, tC, tOp, tUn, tTest, tB, tVar, tAndV, tOrV, tNotV, tIf, tAnd, tOr, tNot, tSeq, tRet, tRetN, tIfS, tAsg, gName, tDrop, tTup, tLst, tChain, tNext, tCall, L2.start]))
open M (at_)
def accs (n : Nat) (rs : List (Nat × Nat)) : List (List Nat) := (List.range n).map (acc rs)
theorem accs_at {n : Nat} {rs : List (Nat × Nat)} {a : Nat} (h : a < n) : at_ (accs n rs) a = acc rs a := by
  unfold M.at_ accs; rw [List.getElem?_map, List.getElem?_range h]; rfl
theorem at_mem_nbs {n : Nat} {rs : List (Nat × Nat)} (G : Good n rs) (a x : Nat) : x ∈ at_ (accs n rs) a ↔ x ∈ at_ (nbs n rs) a := by
  unfold M.at_ accs nbs
  iterate 2 rw [List.getElem?_map]
  by_cases c : a < n
  · rw [List.getElem?_range c]
    exact (nb_perm G a).mem_iff.symm
  · rw [List.getElem?_eq_none (by rw [List.length_range]; omega)]; rfl
theorem ways_same {ls ms : List (List Nat)} {h : Nat} {F : List (List Nat)} (l : ls.length = ms.length) (e : ∀ a x, x ∈ at_ ls a ↔ x ∈ at_ ms a) (W : M.Ways ls h F) : M.Ways ms h F :=
  ⟨W.len.trans l, W.st, fun v hv => let P := W.pa v hv; ⟨P.hd, P.la, P.nd, fun i a b h1 h2 => (e a b).mp (P.ch i a b h1 h2)⟩, fun v hv w hw => W.cl v hv w ((e v w).mpr hw)⟩
def dirs (p : Nat × Nat) : List (Nat × Nat) := [(p.1, p.2), (p.2, p.1)]
def accD (a : Nat) (ds : List (Nat × Nat)) : List Nat := ds.flatMap fun p => if p.1 = a then [p.2] else []
theorem accD_app (a : Nat) (xs ys : List (Nat × Nat)) : accD a (xs ++ ys) = accD a xs ++ accD a ys := by simp [accD]
theorem acc_dirs (a : Nat) (rs : List (Nat × Nat)) : acc rs a = accD a (rs.flatMap dirs) := by
  induction rs with
  | nil => rfl
  | cons p rs ih =>
    have e : acc (p :: rs) a = ((if p.1 = a then [p.2] else []) ++ (if p.2 = a then [p.1] else [])) ++ acc rs a := rfl
    rw [e, ih, List.flatMap_cons, accD_app]
    congr 1
    simp [accD, dirs]
theorem accD_next {a : Nat} {D P R : List (Nat × Nat)} {p : Nat × Nat} (e : D = P ++ p :: R) (h : p.1 = a) : (accD a D)[(accD a P).length]? = some p.2 := by
  subst e
  rw [accD_app, List.getElem?_append_right (Nat.le_refl _), Nat.sub_self]
  simp [accD, h]
theorem accD_snoc_eq {a : Nat} {P : List (Nat × Nat)} {p : Nat × Nat} (h : p.1 = a) : (accD a (P ++ [p])).length = (accD a P).length + 1 := by
  rw [accD_app, List.length_append]; simp [accD, h]
theorem accD_snoc_ne {a : Nat} {P : List (Nat × Nat)} {p : Nat × Nat} (h : p.1 ≠ a) : (accD a (P ++ [p])).length = (accD a P).length := by
  rw [accD_app, List.length_append]; simp [accD, h]
theorem f2_repl {H : Hp} {v : V} (h : TupAt H [] v) : ∀ n, F2 (TupAt H) (List.replicate n []) (List.replicate n v)
  | 0 => .nil
  | n + 1 => .cons h (f2_repl h n)
theorem split_at {α : Type} {l : List α} {i : Nat} {x : α} (h : l[i]? = some x) : l = l.take i ++ x :: l.drop (i + 1) := by
  have ⟨lt, e⟩ := List.getElem?_eq_some_iff.mp h
  have parts := (List.take_append_drop i l).symm
  rwa [List.drop_eq_getElem_cons lt, e] at parts
def sp__law_from (K : PySem.W.Frag) : Sp := sp2 fun a b H Q E => ∃ (n h : Nat) (rs : List (Nat × Nat)) (dp : PyData), Dq K H a (.list [intD n, dp]) ∧ isSeq dp = true ∧ items dp = rs.map pairD ∧ b = .int (h : Int) ∧ h < n ∧ n ≤ 100 ∧ rs.length ≤ 200 ∧ Good n rs ∧
  ∀ r H' F, Ex H H' → M.Ways (nbs n rs) h F → H r = none → FA H' r F → Q (.ref r) H'
section
variable {K : PySem.W.Frag} {mg : Str → Option Value} {P : Program} {w : World} {base : Heap}
theorem ok__law_from (T : Tx K mg) : Cal P w K mg base CX0 1 "_law_from" ["_law_world_here", "_law_start"] (sp__law_from K) := by
  refine cal_of (fD__law_from T) (T.glo 35 rfl) sc__law_from (fun _ _ _ _ _ _ us hl => match us, hl with | [_, _], _ => rfl) (fun vs H Q E h => len2 h) (fun f cdv A outer s H vs Q E hr h => ?_)
  obtain ⟨a, b, rfl, h⟩ := h
  refine ⟨_, (PSs.nox (pss_cons (ps_par (i := 2) (j := 3) rfl sc__law_from.nd rfl rfl (by decide) rfl rfl (pa_cons (pe_op op_rep (pe_lst (pa_cons (pe_tup pa_nil) pa_nil)) (pe_ix (ix_listK (K := K)) (pv 0) pe_int (fun _ _ => rfl))) (pa_cons (pe_lst (pa_cons (pv 1) pa_nil)) pa_nil)) (by rfl))
      (pss_cons (ps_asg (pe_tup (pa_cons (pv 1) pa_nil)) (pg_sub (pv 2) (pv 1) set_list))
      (pss_cons (ps_for PassesOwn.never rfl (pi_range1 (by rfl) (T.free 11 rfl) (pa_cons (pe_ix (ix_listK (K := K)) (pv 0) pe_int (fun _ _ => rfl)) pa_nil)) (pg_name (i := 4) sc__law_from.nd rfl (Or.inl rfl)) (pss_cons (ps_if (pt_cmpR (op_eqDK (K := K) (hu64 hr.r)) (pv 3) (pe_lst pa_nil) (nomark _)) (pss_one (ps_ret (pv 2))) pss_nil)
      (pss_cons (ps_set (i := 5) sc__law_from.nd rfl (Or.inl rfl) (pe_bm0 PySem.F.plainAttrs_list PySem.F.slot_list_pop PySem.F.type_list_pop mt_pop (pv 3)))
      (pss_one (ps_for PassesOwn.never rfl (pi_seq (pe_ix (ix_listK (K := K)) (pv 0) pe_int (fun _ _ => rfl))) (pg_name (i := 6) sc__law_from.nd rfl (Or.inl rfl)) (pss_one (ps_for PassesOwn.never rfl (pi_list (pe_lst (pa_cons (pv 6) (pa_cons (pe_tup (pa_cons (pe_ix (ix_tupK (K := K)) (pv 6) pe_int (fun _ _ => rfl)) (pa_cons (pe_ix (ix_tupK (K := K)) (pv 6) pe_int (fun _ _ => rfl)) pa_nil))) pa_nil)))) (pg_tup rfl (pgs_cons (pg_name (i := 7) sc__law_from.nd rfl (Or.inl rfl)) (pgs_cons (pg_name (i := 8) sc__law_from.nd rfl (Or.inl rfl)) pgs_nil))) (pss_one (ps_if (PW.pt (pw_and (pt_cmpR op_eq (pv 7) (pv 5) (nomark _)) (pw_and1 (pt_cmpR (op_eqDK (K := K) (hu64 hr.r)) (pe_ix (ix_listK (K := K)) (pv 2) (pv 8) (fun _ _ => rfl)) (pe_tup pa_nil) (nomark _))))) (pss_cons (ps_asg (pe_op (op_catAK (K := K)) (pe_ix (ix_listK (K := K)) (pv 2) (pv 5) (fun _ _ => rfl)) (pe_tup (pa_cons (pv 8) pa_nil))) (pg_sub (pv 2) (pv 8) set_list))
      (pss_one (ps_expr (pe_bm PySem.F.plainAttrs_list PySem.F.slot_list_append PySem.F.type_list_append mt_append (pv 3) (pa_cons (pv 8) pa_nil))))) pss_nil)))))))))
      (pss_one (ps_ret (pv 2))))))), ?_⟩
  obtain ⟨n, h, rs, dp, hd, es, ei, rfl, hh, n100, r200, G, q⟩ := h
  obtain ⟨W, v1, rfl, hW, hdp⟩ : ∃ W v1, a = .ref W ∧ SqL K H W [iV n, v1] ∧ Dq K H v1 dp := by
    cases hd with
    | lst h hs =>
      cases hs with
      | cons a1 a2 => cases a1; cases a2 with
        | cons b1 b2 => cases b2; exact ⟨_, _, rfl, h, b1⟩
  obtain ⟨p0, xs, rfl, hx, hds⟩ := dq_seq hdp es
  rw [ei] at hds
  have xl : xs.length = rs.length := by rw [hds.length, List.length_map]
  refine seq_at ?_
  have ee : ∀ {H1 : Hp} {x : Addr} {o : HO}, H1 x = none → Ex H1 (upd H1 x o) := fun h => Evl.Ex.new h
  refine ⟨Nat.zero_le _, fun e he => ⟨(by show 1 ≤ sizeLine; decide), fun l hl => ?_⟩⟩
  have e1 : Ex H (upd (upd H e (.tup [])) l (.lst [.ref e])) := (ee he).trans (ee hl)
  refine ⟨_, rfl, W, _, 0, _, rfl, rfl, Evl.ex_l e1 hW, rfl, l, (n : Int), [.ref e], rfl, rfl, upd_same, by omega, by omega, ?_, fun A hA => ?_⟩
  · have : ((n : Int)).toNat = n := by omega
    rw [this, List.length_singleton, Nat.one_mul, sizeLine_eq]; omega
  have en : (List.replicate ((n : Int)).toNat [V.ref e]).flatten = List.replicate n (.ref e) := by
    have : ((n : Int)).toNat = n := by omega
    rw [this, List.flatten_replicate_singleton]
  rw [en]
  have hA0 : H A = none := Evl.fresh_back e1 hA
  have e2 := e1.trans (ee (o := .lst (List.replicate n (.ref e))) hA)
  have eT : upd (upd (upd H e (.tup [])) l (.lst [.ref e])) A (.lst (List.replicate n (.ref e))) e = some (.tup []) := (ee hA) _ _ ((ee hl) _ _ upd_same)
  have fa0 : FA (upd (upd (upd H e (.tup [])) l (.lst [.ref e])) A (.lst (List.replicate n (.ref e)))) A (List.replicate n []) := by
    exact ⟨_, upd_same, f2_repl ⟨e, rfl, eT⟩ n⟩
  generalize upd (upd (upd H e (.tup [])) l (.lst [.ref e])) A (.lst (List.replicate n (.ref e))) = H2 at e2 fa0 ⊢
  refine ⟨_, rfl, (by show 1 ≤ sizeLine; decide), fun B hB => ⟨_, _, rfl, ?_⟩⟩
  have hB0 : H B = none := Evl.fresh_back e2 hB
  have e3 := e2.trans (ee (o := .lst [.int (h : Int)]) hB)
  have fa1 := fa0.mono (ee (o := .lst [.int (h : Int)]) hB)
  obtain ⟨vs0, hvs0, f20⟩ := id fa1
  have AB : A ≠ B := fun z => by
    obtain ⟨w, hw, _⟩ := fa0
    rw [z, hB] at hw; cases hw
  have hBl : upd H2 B (.lst [.int (h : Int)]) B = some (.lst [.int (h : Int)]) := upd_same
  dsimp only
  refine seq_at ?_
  have vl0 := fa1.len hvs0
  rw [List.length_replicate] at vl0
  refine ⟨_, rfl, (by show 1 ≤ sizeLine; decide), fun U hU => ⟨_, rfl, _, rfl, A, vs0, _, h, rfl, rfl, (ee hU) _ _ hvs0, Evl.ixN_nat (by omega), ?_⟩⟩
  have fa2 := (fa1.mono (ee (o := .tup [.int (h : Int)]) hU)).set (v := h) (t := U) (p := [h]) ((ee hU) _ _ hvs0) upd_same
  have e4 := Evl.Ex.mut (o := .lst (vs0.set h (.ref U))) (e3.trans (ee (o := .tup [.int (h : Int)]) hU)) hA0
  have hB4 : upd (upd (upd H2 B (.lst [.int (h : Int)])) U (.tup [.int (h : Int)])) A (.lst (vs0.set h (.ref U))) B = some (.lst ([h].map iV)) := by
    rw [upd_ne AB.symm]; exact (ee hU) _ _ hBl
  have fa2' : FA (upd (upd (upd H2 B (.lst [.int (h : Int)])) U (.tup [.int (h : Int)])) A (.lst (vs0.set h (.ref U)))) A ((List.replicate n []).set h [h]) := fa2
  generalize upd (upd (upd H2 B (.lst [.int (h : Int)])) U (.tup [.int (h : Int)])) A (.lst (vs0.set h (.ref U))) = H4 at e4 fa2' hB4 ⊢
  have aln : (accs n rs).length = n := by unfold accs; rw [List.length_map, List.length_range]
  have PI0 : M.PI (accs n rs) h ((List.replicate n []).set h [h]) [h] := by
    have z := M.pi_start (ls := accs n rs) (h := h) (by rw [aln]; exact hh)
    rw [aln] at z; exact z
  have un0 : M.un ((List.replicate n []).set h [h]) + 1 = n := by
    have z := M.un_set (List.replicate n []) h [h] (by rw [List.length_replicate]; exact hh) (by unfold M.at_; rw [List.getElem?_replicate]; simp [hh]) (by simp)
    rw [z]; simp [M.un]
  have done : ∀ F H', Ex H H' → FA H' A F → M.PI (accs n rs) h F [] → Q (.ref A) H' := fun F H' e fa pi => q A H' F e (ways_same (by rw [aln]; unfold nbs; rw [List.length_map, List.length_range]) (at_mem_nbs G) (M.pi_end pi)) hA0 fa
  dsimp only
  refine seq_at ?_
  refine for_at (B := H) (n := n) (item := fun i => .int (0 + i)) (fun P q => ⟨_, rfl, W, _, 0, _, rfl, rfl, Evl.ex_l e4 hW, rfl, _, rfl, by omega, by omega, (by rw [show ((n : Int)).toNat = n by omega]; exact q _ _ (Evl.Ex.refl _) (its_r 0 n))⟩) (fun k σ' H' => ∃ F S s4 s5 s6 s7 s8, σ' = [some (.ref W), some (iV h), some (.ref A), some (.ref B), s4, s5, s6, s7, s8] ∧ Ex H H' ∧ FA H' A F ∧ H' B = some (.lst (S.map iV)) ∧ M.PI (accs n rs) h F S ∧ M.un F + S.length + k = n) ?_ ?_ ?_ ?_
  · exact fun H1 e1 => ⟨_, [h], _, _, _, _, _, rfl, e4.trans e1, fa2'.mono e1, e1 _ _ hB4, PI0, by rw [List.length_singleton]; omega⟩
  · rintro k σ' H' ⟨_, _, _, _, _, _, _, _, e, _⟩; exact e
  · rintro k σ' H' hk ⟨F, S, s4, s5, s6, s7, s8, rfl, e, fa, hBS, pi, um⟩
    dsimp only [gName]
    refine seq_at ?_
    refine ⟨_, rfl, Nat.zero_le _, fun d hd => ?_⟩
    have ed := ee (o := .lst []) hd
    refine ⟨.list (S.map intD), .list [], dp_list (ed _ _ hBS), dp_list (l := []) upd_same, (shaped_ints S).1, (shaped_ints []).1, _, rfl, ?_⟩
    replace e := e.trans ed
    replace fa := fa.mono ed
    replace hBS := ed _ _ hBS
    generalize upd H' d (.lst []) = H5 at e fa hBS ⊢
    by_cases c0 : S = []
    · subst c0
      refine iteT ?_
      exact ⟨_, rfl, done F H5 e fa pi⟩
    obtain ⟨S', a, rfl⟩ : ∃ S' a, S = S' ++ [a] := ⟨S.dropLast, S.getLast c0, (List.dropLast_concat_getLast c0).symm⟩
    have ne : PyData.eqv (.list ((S' ++ [a]).map intD)) (.list []) = false := by cases S' <;> rfl
    rw [ne]
    refine iteF ?_
    dsimp only [tNext]
    have pj := M.pj_start pi
    have al := pj.al
    rw [aln] at al
    have eB : (S' ++ [a]).map iV = S'.map iV ++ [iV a] := by rw [List.map_append]; rfl
    rw [eB] at hBS
    refine seq_at (asg_at ?_)
    refine ⟨_, rfl, .inl ⟨rfl, _, SqL.of hBS⟩, B, _, iV a, rfl, rfl, hBS, by simp, ?_⟩
    rw [List.dropLast_concat]
    have fa5 := FA.updL (zs := S'.map iV) hBS AB fa
    have e5 : Ex H (upd H5 B (.lst (S'.map iV))) := Evl.Ex.mut e hB0
    have hB5 : upd H5 B (.lst (S'.map iV)) B = some (.lst (S'.map iV)) := upd_same
    generalize upd H5 B (.lst (S'.map iV)) = H6 at fa5 e5 hB5 ⊢
    rw [List.length_append, List.length_singleton] at um
    dsimp only [gName]
    refine for_at (B := H) (n := xs.length) (item := nth xs) (fun P q => hx.elim (fun hx => .inl ⟨_, rfl, W, _, 1, _, rfl, rfl, Evl.ex_l e5 hW, rfl, p0, rfl, ⟨xs, Evl.ex_l e5 hx⟩, q _ _ (Evl.Ex.refl _) (its_l hx)⟩) fun hx => .inr ⟨_, rfl, W, _, 1, _, rfl, rfl, Evl.ex_l e5 hW, rfl, p0, rfl, ⟨xs, Evl.ex_t e5 hx⟩, q _ _ (Evl.Ex.refl _) (its_t hx)⟩)
      (fun kk σ' H' => ∃ F2 S2 s6 s7 s8, σ' = [some (.ref W), some (iV h), some (.ref A), some (.ref B), some (.int (0 + (k : Int))), some (iV a), s6, s7, s8] ∧ Ex H H' ∧ FA H' A F2 ∧ H' B = some (.lst (S2.map iV)) ∧ M.PJ (accs n rs) h a (accD a ((rs.take kk).flatMap dirs)).length F2 S2 ∧ M.un F2 + S2.length = M.un F + S'.length) ?_ ?_ ?_ ?_
    · exact fun H1 e1 => ⟨F, S', _, _, _, rfl, e5.trans e1, fa5.mono e1, e1 _ _ hB5, by simpa [accD] using pj, rfl⟩
    · rintro kk σ' H' ⟨_, _, _, _, _, _, e, _⟩; exact e
    · rintro kk σ' H7 hkk ⟨F2, S2, s6', s7', s8', rfl, e7, fa7, hB7, pj7, um7⟩
      obtain ⟨d', g1, g2⟩ := dqs_nth hds hkk
      rw [List.getElem?_map] at g1
      obtain ⟨⟨u, v⟩, hr, rfl⟩ := Option.map_eq_some_iff.mp g1
      obtain ⟨tp, q1, sp⟩ := pair_at g2
      obtain ⟨lu, lv⟩ := G.lt (u, v) (List.mem_of_getElem? hr)
      simp only at lu lv
      rw [q1]
      have sp7 := Evl.ex_t e7 sp
      dsimp only [gName]
      refine ⟨_, rfl, _, rfl, tp, _, 1, _, rfl, rfl, sp7, atI_nat (j := 1) rfl, _, rfl, tp, _, 0, _, rfl, rfl, sp7, atI_nat (j := 0) rfl, (by show 2 ≤ sizeLine; decide), fun U2 hU2 => ⟨(by show 2 ≤ sizeLine; decide), fun l2 hl2 => ⟨l2, rfl, ⟨_, SqL.of upd_same⟩, ?_⟩⟩⟩
      have e8 := (ee (o := .tup [.int (v : Int), .int (u : Int)]) hU2).trans (ee (o := .lst [.ref tp, .ref U2]) hl2)
      have hU8 : upd (upd H7 U2 (.tup [.int (v : Int), .int (u : Int)])) l2 (.lst [.ref tp, .ref U2]) U2 = some (.tup [.int (v : Int), .int (u : Int)]) := (ee hl2) _ _ upd_same
      have hl8 : upd (upd H7 U2 (.tup [.int (v : Int), .int (u : Int)])) l2 (.lst [.ref tp, .ref U2]) l2 = some (.lst [.ref tp, .ref U2]) := upd_same
      obtain ⟨vs7, hvs7, _⟩ := id fa7
      have lA : l2 ≠ A := fun z => by rw [z, (ee hU2) _ _ hvs7] at hl2; cases hl2
      have lB : l2 ≠ B := fun z => by rw [z, (ee hU2) _ _ hB7] at hl2; cases hl2
      generalize upd (upd H7 U2 (.tup [.int (v : Int), .int (u : Int)])) l2 (.lst [.ref tp, .ref U2]) = H8 at e8 hU8 hl8 ⊢
      have e78 := e7.trans e8
      have UA : U2 ≠ A := fun z => by rw [z, e8 _ _ hvs7] at hU8; cases hU8
      have UB : U2 ≠ B := fun z => by rw [z, e8 _ _ hB7] at hU8; cases hU8
      have lx : L2.del (L2.del H8 A) B l2 = some (.lst [.ref tp, .ref U2]) := by rw [del_ne lB, del_ne lA]; exact hl8
      have Ux : L2.del (L2.del H8 A) B U2 = some (.tup [.int (v : Int), .int (u : Int)]) := by rw [del_ne UB, del_ne UA]; exact hU8
      have xA : L2.del (L2.del H8 A) B A = none := by rw [del_ne AB]; exact del_same
      have xB : L2.del (L2.del H8 A) B B = none := del_same
      have xe : Ex (L2.del (L2.del H8 A) B) H8 := Ex.ofDel.trans Ex.ofDel
      generalize L2.del (L2.del H8 A) B = Bx at lx Ux xA xB xe
      refine for_gen (its_l (SqL.of (K := K) lx)) (fun tt σ' H' => ∃ F3 S3 s7 s8, σ' = [some (.ref W), some (iV h), some (.ref A), some (.ref B), some (.int (0 + (k : Int))), some (iV a), some (.ref tp), s7, s8] ∧ Ex H H' ∧ Ex Bx H' ∧ FA H' A F3 ∧ H' B = some (.lst (S3.map iV)) ∧ M.PJ (accs n rs) h a (accD a ((rs.take kk).flatMap dirs ++ (dirs (u, v)).take tt)).length F3 S3 ∧ M.un F3 + S3.length = M.un F + S'.length)
        ⟨F2, S2, _, _, rfl, e78, xe, fa7.mono e8, e8 _ _ hB7, by simpa using pj7, um7⟩ (fun tt σ' H' ⟨_, _, _, _, _, _, z, _⟩ => z) ?_ ?_
      · rintro tt σ' H9 htt ⟨F3, S3, s7'', s8'', rfl, e9, x9, fa9, hB9, pj9, um9⟩
        obtain ⟨tr, x, y, eq, st, hd2, lx', ly⟩ : ∃ (tr : Addr) (x y : Nat), nth [V.ref tp, V.ref U2] tt = .ref tr ∧ SqT K H9 tr [.int (x : Int), .int (y : Int)] ∧ (dirs (u, v))[tt]? = some (x, y) ∧ x < n ∧ y < n := by
          match tt, htt with
          | 0, _ => exact ⟨tp, u, v, rfl, Evl.ex_t e9 sp, rfl, by omega, by omega⟩
          | 1, _ => exact ⟨U2, v, u, rfl, SqT.of (x9 _ _ Ux), rfl, by omega, by omega⟩
        rw [eq]
        have eD : rs.flatMap dirs = ((rs.take kk).flatMap dirs ++ (dirs (u, v)).take tt) ++ (x, y) :: ((dirs (u, v)).drop (tt + 1) ++ (rs.drop (kk + 1)).flatMap dirs) := by
          have h1 := split_at hr
          have h2 := split_at hd2
          conv => lhs; rw [h1]
          rw [List.flatMap_append, List.flatMap_cons]
          conv => lhs; rw [h2]
          simp
        have tk : (dirs (u, v)).take (tt + 1) = (dirs (u, v)).take tt ++ [(x, y)] := take_snoc' hd2
        refine ⟨tr, _, rfl, st, rfl, _, _, rfl, _, _, rfl, rfl, ?_⟩
        refine ⟨_, rfl, _, rfl, rfl, _, rfl, ?_⟩
        by_cases cx : x = a
        · rw [decide_eq_true (show V.int (x : Int) = iV a by rw [cx]; rfl)]
          refine iteT ?_
          have hw : (at_ (accs n rs) a)[(accD a ((rs.take kk).flatMap dirs ++ (dirs (u, v)).take tt)).length]? = some y := by
            rw [accs_at al, acc_dirs]; exact accD_next eD cx
          have hlen : (accD a ((rs.take kk).flatMap dirs ++ (dirs (u, v)).take (tt + 1))).length = (accD a ((rs.take kk).flatMap dirs ++ (dirs (u, v)).take tt)).length + 1 := by
            rw [tk, ← List.append_assoc]; exact accD_snoc_eq cx
          obtain ⟨ws, tw, hws, hv, htu⟩ := fa9.get (v := y) (by rw [pj9.len, aln]; exact ly)
          refine ⟨_, rfl, _, rfl, A, ws, _, _, rfl, rfl, SqL.of hws, atI_nat hv, Nat.zero_le _, fun p2 hp2 => ?_⟩
          have ex2 := ee (o := .tup []) hp2
          refine ⟨.tuple ((at_ F3 y).map intD), .tuple [], dp_tup (ex2 _ _ htu), dp_tup (l := []) upd_same, (shaped_ints _).2, (shaped_ints []).2, _, rfl, ?_⟩
          have fa6 := fa9.mono ex2
          have hB6 := ex2 _ _ hB9
          have hvs6 := ex2 _ _ hws
          by_cases c2 : at_ F3 y = []
          · rw [c2]
            refine iteT ?_
            obtain ⟨ws', ta, hvs', hva, hta⟩ := fa9.get (v := a) (by rw [pj9.len]; exact pj9.al)
            rw [hws] at hvs'; cases hvs'
            obtain ⟨pj10, hm10⟩ := M.pj_add pj9 hw (by rw [aln]; exact ly) c2
            have ane : at_ F3 a ≠ [] := pj9.af
            have wlen : (at_ F3 a).length ≤ 5000 := by
              have sub : ∀ x ∈ at_ F3 a, x < n := fun x hx => by
                have z := pj9.on a x hx
                by_cases y : x < F3.length
                · rw [← aln, ← pj9.len]; exact y
                · unfold M.at_ at z; rw [List.getElem?_eq_none (by omega)] at z; exact absurd rfl z
              have := nodup_len (pj9.pa a pj9.af).nd sub
              omega
            refine seq_at ?_
            refine ⟨_, rfl, _, rfl, A, ws, _, _, rfl, rfl, SqL.of hvs6, atI_nat hva, _, rfl, (by show 1 ≤ sizeLine; decide), fun p3 hp3 => ?_⟩
            have ex3 := ex2.trans (ee (o := .tup [.int (y : Int)]) hp3)
            refine ⟨ta, p3, (at_ F3 a).map iV, [.int (y : Int)], rfl, rfl, SqT.of (ex3 _ _ hta), SqT.of upd_same, ?_, fun z => absurd (List.map_eq_nil_iff.mp z) ane, fun _ z => (by cases z), fun _ _ t8 ht8 => ?_⟩
            · rw [List.length_map, List.length_singleton, sizeLine_eq]; omega
            have ex8 := ex3.trans (ee (o := .tup ((at_ F3 a).map iV ++ [.int (y : Int)])) ht8)
            have hv8 := ex8 _ _ hws
            refine ⟨_, rfl, _, rfl, A, ws, _, y, rfl, rfl, hv8, Evl.ixN_nat (by rw [fa9.len hws, pj9.len, aln]; exact ly), ?_⟩
            have fa8 := (fa9.mono ex8).set (v := y) (t := t8) (p := at_ F3 a ++ [y]) hv8 (by rw [upd_same, List.map_append]; rfl)
            have e8' := Evl.Ex.mut (o := .lst (ws.set y (.ref t8))) (e9.trans ex8) hA0
            have x8 := Evl.Ex.mut (o := .lst (ws.set y (.ref t8))) (x9.trans ex8) xA
            have hB8 : (upd (upd (upd (upd H9 p2 (.tup [])) p3 (.tup [.int (y : Int)])) t8 (.tup ((at_ F3 a).map iV ++ [.int (y : Int)]))) A (.lst (ws.set y (.ref t8)))) B = some (.lst (S3.map iV)) := by
              rw [upd_ne AB.symm]; exact ex8 _ _ hB9
            have Sl : S3.length ≤ 3000 := by
              have := nodup_len pj9.sn fun x hx => (pj9.sf x hx).1
              omega
            refine ⟨_, rfl, .inl ⟨rfl, _, SqL.of hB8⟩, _, rfl, B, _, _, rfl, rfl, hB8, by rw [List.length_map]; exact line_big (by omega), ?_⟩
            refine ⟨_, S3 ++ [y], _, _, rfl, Evl.Ex.mut e8' hB0, Evl.Ex.mut x8 xB, fa8.updL hB8 AB, by rw [upd_same, List.map_append]; rfl, ?_, by omega⟩
            rw [hlen]; exact pj10
          · have ne2 : PyData.eqv (.tuple ((at_ F3 y).map intD)) (.tuple []) = false := by
              cases e : at_ F3 y with
              | nil => exact absurd e c2
              | cons x l => rfl
            rw [ne2]
            refine iteF ?_
            exact ⟨F3, S3, _, _, rfl, e9.trans ex2, x9.trans ex2, fa6, hB6, by rw [hlen]; exact M.pj_skip pj9 hw c2, um9⟩
        · rw [decide_eq_false (show ¬ V.int (x : Int) = iV a from fun z => cx (by have := V.int.inj z; omega))]
          refine iteF (iteF ?_)
          refine ⟨F3, S3, _, _, rfl, e9, x9, fa9, hB9, ?_, um9⟩
          rw [tk, ← List.append_assoc, accD_snoc_ne cx]; exact pj9
      · rintro σ' H9 ⟨F3, S3, s7'', s8'', rfl, e9, x9, fa9, hB9, pj9, um9⟩
        refine ⟨F3, S3, _, _, _, rfl, e9, fa9, hB9, ?_, um9⟩
        rw [take_snoc' hr, List.flatMap_append]
        simpa [dirs] using pj9
    · rintro σ' H' ⟨F2, S2, s6', s7', s8', rfl, e7, fa7, hB7, pj7, um7⟩
      have ea : (accD a ((rs.take xs.length).flatMap dirs)).length = (at_ (accs n rs) a).length := by
        rw [xl, List.take_length, accs_at al, acc_dirs]
      rw [ea] at pj7
      exact ⟨F2, S2, _, _, _, _, _, rfl, e7, fa7, hB7, M.pj_end pj7, by omega⟩
  · rintro σ' H' ⟨F, S, s4, s5, s6, s7, s8, rfl, e, fa, hBS, pi, um⟩
    have : S = [] := List.eq_nil_of_length_eq_zero (by omega)
    subst this
    exact ⟨_, rfl, done F H' e fa pi⟩
end

end T1

namespace T1
open PySem PySem.Spec PyProof.Rows L2 G
open Evl (Ex)
local macro_rules | `(tactic| walk_at "dd") => `(tactic| (dsimp only [tCB, tCons, tNil, tC, tOp, tUn, tTest, tB, tVar, tAndV, tOrV, tNotV, tIf, tAnd, tOr, tNot, tSeq, tRet, tRetN, tIfS, tAsg, gName, tDrop, tTup, tLst, tChain, tNext, tCall, L2.start]))
def edge (x y : Nat) : Nat × Nat := if x ≤ y then (x, y) else (y, x)
/-- a tree grown house by house: the k-th of ns hangs at an earlier one -/
def Grown (n : Nat) (rs : List (Nat × Nat)) : Prop := ∃ (ns : List Nat) (b : Nat → Nat), ns.Perm (List.range n) ∧ (∀ k, 1 ≤ k → k < n → b k < k) ∧ rs.Perm ((List.range (n - 1)).map fun k => edge (ns[k + 1]?.getD 0) (ns[b (k + 1)]?.getD 0))
def ltN (p q : Nat × Nat) : Bool := ltR ((p.1 : Int), (p.2 : Int)) ((q.1 : Int), (q.2 : Int))
structure WorldOk (n : Nat) (rs : List (Nat × Nat)) : Prop where
  n1 : 1 ≤ n
  n16 : n ≤ 16
  gr : Grown n rs
  as : rs.Pairwise fun p q => ltN q p = false
/-- a world stands at w, both lists made here (none of them in B) -/
structure WorldAt (K : PySem.W.Frag) (H : Hp) (w : V) (n : Nat) (rs : List (Nat × Nat)) : Prop where
  at_ : ∃ a s ts, w = .ref a ∧ H a = some (.lst [iV n, .ref s]) ∧ H s = some (.lst ts) ∧ F2 (fun p v => ∃ t, v = V.ref t ∧ H t = some (.tup [iV p.1, iV p.2])) rs ts
  ok : WorldOk n rs
theorem WorldAt.mono {K : PySem.W.Frag} {H H' : Hp} {w : V} {n : Nat} {rs} (e : Ex H H') (h : WorldAt K H w n rs) : WorldAt K H' w n rs :=
  let ⟨a, s, ts, h1, h2, h3, h4⟩ := h.at_; ⟨⟨a, s, ts, h1, e _ _ h2, e _ _ h3, h4.imp fun _ _ ⟨t, a, b⟩ => ⟨t, a, e _ _ b⟩⟩, h.ok⟩
/-- the pair p stands at v -/
def TP (H : Hp) (p : Nat × Nat) (v : V) : Prop := ∃ t, v = .ref t ∧ H t = some (.tup [iV p.1, iV p.2])
theorem TP.mono {H H' : Hp} {p : Nat × Nat} {v : V} (e : Ex H H') (h : TP H p v) : TP H' p v := let ⟨t, a, b⟩ := h; ⟨t, a, e _ _ b⟩
theorem TP.updL {H : Hp} {p : Nat × Nat} {v : V} {B : Addr} {ys zs : List V} (hB : H B = some (.lst ys)) (h : TP H p v) : TP (upd H B (.lst zs)) p v :=
  let ⟨t, a, b⟩ := h; ⟨t, a, by rw [upd_ne (ne_of b hB (by intro z; cases z))]; exact b⟩
theorem TP.take {H H' : Hp} {A : Addr} {l : List V} {p : Nat × Nat} {v : V} (hA : H A = some (.lst l)) (e : Ex (L2.del H A) H') (h : TP H p v) : TP H' p v :=
  let ⟨t, a, b⟩ := h; ⟨t, a, del_get e (ne_of b hA (by intro z; cases z)) b⟩
theorem sort2 {ns : List Int} {x y : Nat} (p : ns.Perm [(x : Int), (y : Int)]) (s : ns.Pairwise (· ≤ ·)) : ns = [((edge x y).1 : Int), ((edge x y).2 : Int)] := by
  refine sort_unique (p.trans ?_) s ?_
  · unfold edge; split
    · exact .refl _
    · exact List.Perm.swap ..
  · unfold edge; split
    · simp; omega
    · simp; omega
theorem range_snoc_map {α : Type} (f : Nat → α) (k : Nat) : (List.range (k + 1)).map f = (List.range k).map f ++ [f k] := by rw [List.range_succ, List.map_append]; rfl
theorem tp_all {H : Hp} {kf : V → Int × Int} (tpk : ∀ {p : Nat × Nat} {v : V}, TP H p v → kf v = ((p.1 : Int), (p.2 : Int))) : ∀ ys : List V, (∀ v ∈ ys, ∃ p, TP H p v) → F2 (TP H) (ys.map fun v => rdN (kf v)) ys
  | [], _ => .nil
  | v :: ys, h => by
    refine .cons ?_ (tp_all tpk ys fun u hu => h u (List.mem_cons_of_mem _ hu))
    obtain ⟨p, hp⟩ := h v List.mem_cons_self
    show TP H (rdN (kf v)) v
    rw [tpk hp]
    exact hp
theorem tp_dqs {K : PySem.W.Frag} {H : Hp} : ∀ {rs : List (Nat × Nat)} {ys : List V}, F2 (TP H) rs ys → Dqs K H ys (rs.map pairD)
  | _, _, .nil => .nil
  | _, _, .cons ⟨t, e, z⟩ h => .cons (e ▸ .tup (SqT.of z) (.cons (.int _) (.cons (.int _) .nil))) (tp_dqs h)
def sp__law_world (K : PySem.W.Frag) : Sp := sp1 fun a H Q E => ∃ (A : Addr) (c : Nat), a = .ref A ∧ c ≤ 900000 ∧ BoxAt H A c ∧ ∀ w n rs H', Ex (L2.del H A) H' → BoxAt H' A (c + 40) → WorldAt K H' w n rs → (∀ B l, H B = some (.lst l) → WorldAt K (L2.del H' B) w n rs) → Q w H'
section
variable {K : PySem.W.Frag} {mg : Str → Option Value} {P : Program} {w : World} {base : Heap}
theorem ok__law_world (T : Tx K mg) : Cal P w K mg base CX0 3 "_law_world" ["_law_box_here"] (sp__law_world K) := by
  refine cal_of (fD__law_world T) (T.glo 34 rfl) sc__law_world (fun _ _ _ _ _ _ us hl => match us, hl with | [_], _ => rfl) (fun vs H Q E h => len1 h) (fun f cdv A outer s H vs Q E hr h => ?_)
  obtain ⟨a, rfl, h⟩ := h
  refine ⟨_, (PSs.nox (pss_cons (ps_par (i := 1) (j := 2) rfl sc__law_world.nd rfl rfl (by decide) rfl rfl (pa_cons (pe_c (ok__law_take T) (hr.mono (by decide)) rfl pass0 (pa_cons (pv 0) (pa_cons pe_int pa_nil))) (pa_cons (pe_c (ok__law_take T) (hr.mono (by decide)) rfl pass0 (pa_cons (pv 0) (pa_cons pe_int pa_nil))) pa_nil)) (by rfl))
      (pss_cons (ps_set (i := 3) sc__law_world.nd rfl (Or.inl rfl) (pe_ifExp (pt_cmpR op_lt (pv 1) pe_int (nomark _)) (pe_ix (ix_listK (K := K)) (pe_lst (pa_cons pe_int (pa_cons pe_int (pa_cons pe_int (pa_cons pe_int (pa_cons pe_int (pa_cons pe_int (pa_cons pe_int pa_nil)))))))) (pv 1) (fun _ _ => rfl)) (pe_op op_add pe_int (pe_c (ok__law_take T) (hr.mono (by decide)) rfl pass0 (pa_cons (pv 0) (pa_cons pe_int pa_nil))))))
      (pss_cons (ps_par (i := 4) (j := 5) rfl sc__law_world.nd rfl rfl (by decide) rfl rfl (pa_cons (pe_c (ok__law_mixed T) (hr.mono (by decide)) rfl pass0 (pa_cons (pv 0) (pa_cons (pe_listRg rfl rfl (T.free 8 rfl) (prg_1 rfl (T.free 11 rfl) (pv 3))) pa_nil))) (pa_cons (pe_lst pa_nil) pa_nil)) (by rfl))
      (pss_cons (ps_for PassesOwn.never rfl (pi_range2 (by rfl) (T.free 11 rfl) (pa_cons pe_int (pa_cons (pv 3) pa_nil))) (pg_name (i := 6) sc__law_world.nd rfl (Or.inl rfl)) (pss_cons (ps_set (i := 7) sc__law_world.nd rfl (Or.inl rfl) (pe_ifExp (pt_cmpR op_eq (pv 2) pe_int (nomark _)) (pe_c (ok__law_take T) (hr.mono (by decide)) rfl pass0 (pa_cons (pv 0) (pa_cons (pv 6) pa_nil))) (pe_ix (ix_listK (K := K)) (pe_lst (pa_cons (pe_op op_sub (pv 6) pe_int) (pa_cons pe_int (pa_cons pe_int (pa_cons (pe_callB (call_max2 rfl) (by rfl) (T.free 9 rfl) (by decide +kernel) (pa_cons pe_int (pa_cons (pe_op op_sub (pv 6) pe_int) pa_nil))) pa_nil))))) (pv 2) (fun _ _ => rfl))))
      (pss_one (ps_expr (pe_bm PySem.F.plainAttrs_list PySem.F.slot_list_append PySem.F.type_list_append mt_append (pv 5) (pa_cons (pe_callTy (call_tupK (K := K)) (by rfl) (T.free 15 rfl) (by decide +kernel) (pa_cons (pe_callB (cr_sortedIK (K := K)) (by rfl) (T.free 13 rfl) (by decide +kernel) (pa_cons (pe_lst (pa_cons (pe_ix (ix_listK (K := K)) (pv 4) (pv 6) (fun _ _ => rfl)) (pa_cons (pe_ix (ix_listK (K := K)) (pv 4) (pv 7) (fun _ _ => rfl)) pa_nil))) pa_nil)) pa_nil)) pa_nil))))))
      (pss_one (ps_ret (pe_lst (pa_cons (pv 3) (pa_cons (pe_callB (cr_sortedPOK (K := K)) (by rfl) (T.free 13 rfl) (by decide +kernel) (pa_cons (pv 5) pa_nil)) pa_nil)))))))))), ?_⟩
  obtain ⟨A, c, rfl, c9, hb, q⟩ := h
  have m8 : ∀ {j : Nat}, j ≤ 16 → j ≤ 1000000 := fun h => by omega
  refine seq_at ?_
  refine ⟨_, rfl, _, _, rfl, A, 8, c, rfl, rfl, by decide, by decide, by omega, hb, fun w1 H1 hw e1 hb1 => ?_⟩
  refine ⟨_, rfl, _, _, rfl, A, 4, c + 1, rfl, rfl, by decide, by decide, by omega, hb1, fun kd H2 hkd e2 hb2 => ⟨_, _, rfl, ?_⟩⟩
  have e02 := ex_of_del e1 del_same e2
  dsimp only
  refine seq_at (asg_split (fun v H3 => ∃ m : Nat, v = iV m ∧ 1 ≤ m ∧ m ≤ 16 ∧ Ex (L2.del H A) H3 ∧ BoxAt H3 A (c + 3)) ?_ ?_)
  rotate_left
  · intro R hR
    refine ⟨_, rfl, _, _, rfl, rfl, _, rfl, ?_⟩
    by_cases w7 : (w1 : Int) < 7
    · rw [decide_eq_true w7]
      refine iteT ?_
      refine ⟨(by show 7 ≤ sizeLine; decide), fun l hl => ?_⟩
      obtain ⟨m, hm, m1, m2⟩ : ∃ m : Nat, [V.int 3, V.int 4, V.int 2, V.int 16, V.int 5, V.int 1, V.int 7][w1]? = some (iV m) ∧ 1 ≤ m ∧ m ≤ 16 := by
        have w7' : w1 < 7 := by omega
        match w1, w7' with
        | 0, _ => exact ⟨3, rfl, by decide, by decide⟩
        | 1, _ => exact ⟨4, rfl, by decide, by decide⟩
        | 2, _ => exact ⟨2, rfl, by decide, by decide⟩
        | 3, _ => exact ⟨16, rfl, by decide, by decide⟩
        | 4, _ => exact ⟨5, rfl, by decide, by decide⟩
        | 5, _ => exact ⟨1, rfl, by decide, by decide⟩
        | 6, _ => exact ⟨7, rfl, by decide, by decide⟩
      have el := Evl.Ex.new (o := .lst [V.int 3, V.int 4, V.int 2, V.int 16, V.int 5, V.int 1, V.int 7]) hl
      exact ⟨_, rfl, l, _, _, _, rfl, rfl, SqL.of upd_same, atI_nat hm, hR _ _ ⟨m, rfl, m1, m2, e02.trans el, (hb2.mono el).up (by omega)⟩⟩
    · rw [decide_eq_false w7]
      refine iteF ?_
      refine ⟨_, rfl, _, _, rfl, A, 16, c + 2, rfl, rfl, by decide, by decide, by omega, hb2, fun i H3 hi e3 hb3 => ?_⟩
      refine ⟨_, _, rfl, rfl, hR _ _ ⟨i + 1, ?_, by omega, by omega, ex_of_del e02 del_same e3, hb3⟩⟩
      show V.int (1 + (i : Int)) = V.int ((i + 1 : Nat) : Int)
      rw [show (1 + (i : Int)) = ((i + 1 : Nat) : Int) by omega]
  rintro _ H3 ⟨m, rfl, m1, m2, e3, hb3⟩
  dsimp only [gName]
  refine seq_at ?_
  obtain ⟨lA, hlA⟩ := hb3.some
  refine ⟨_, rfl, _, rfl, m, rfl, ⟨by decide, by decide, by omega, by omega, by omega⟩, fun p hp => ⟨_, _, rfl, A, p, List.range m, c + 3, rfl, rfl, SqL.of (by rw [upd_same, rgV_nat]; rfl), by rw [List.length_range]; omega, by rw [List.length_range]; omega, hb3.mono (Evl.Ex.new hp), fun f ms H5 pm hf e5 hms hb5 => ⟨Nat.zero_le _, fun P hP => ⟨_, _, rfl, ?_⟩⟩⟩⟩
  have e3p := e3.trans (Evl.Ex.new (o := .lst (rgV 0 (m : Int))) hp)
  have e05 := ex_of_del e3p del_same e5
  have pA : upd H3 p (.lst (rgV 0 (m : Int))) A = some (.lst lA) := Evl.Ex.new hp _ _ hlA
  have fA : f ≠ A := fun z => by rw [z, pA] at hf; cases hf
  obtain ⟨l5, hl5⟩ := hb5.some
  have PA' : P ≠ A := fun z => by rw [z, hl5] at hP; cases hP
  have Pf : P ≠ f := fun z => by rw [z, hms] at hP; cases hP
  have Pd : L2.del H A P = none := Evl.fresh_back e05 hP
  rw [List.length_range] at hb5
  have ml : ms.length = m := by rw [pm.length_eq, List.length_range]
  dsimp only
  refine seq_at ?_
  refine for_at (B := L2.del H A) (n := m - 1) (item := fun i => .int (1 + i)) (fun P q => ⟨_, rfl, 1, m, rfl, ⟨by decide, by decide, by omega, by omega⟩, (by rw [show ((m : Int) - 1).toNat = m - 1 by omega]; exact q _ _ (Evl.Ex.refl _) (its_r 1 (m - 1)))⟩)
    (fun k σ' H' => ∃ (b : Nat → Nat) (ts : List V) (s6 s7 : Option V), σ' = [some (.ref A), some (.int (w1 : Int)), some (.int (kd : Int)), some (iV m), some (.ref f), some (.ref P), s6, s7] ∧ Ex (L2.del H A) H' ∧ BoxAt H' A (c + 3 + m + k) ∧ H' f = some (.lst (ms.map iV)) ∧ H' P = some (.lst ts) ∧ (∀ j, 1 ≤ j → j ≤ k → b j < j) ∧
      F2 (TP H') ((List.range k).map fun j => edge (ms[j + 1]?.getD 0) (ms[b (j + 1)]?.getD 0)) ts) ?_ ?_ ?_ ?_
  · intro H7 e7
    have e6 := Evl.Ex.new (o := .lst []) hP
    exact ⟨fun _ => 0, [], _, _, rfl, (e05.trans e6).trans e7, (hb5.mono e6).mono e7, e7 _ _ (e6 _ _ hms), e7 _ _ upd_same, by omega, .nil⟩
  · rintro k σ' H' ⟨_, _, _, _, _, e, _⟩; exact e
  · rintro k σ' H' hk ⟨b, ts, s6, s7, rfl, e, hbx, hfx, hPx, hbj, tp⟩
    have ek : (1 : Int) + (k : Int) = ((k + 1 : Nat) : Int) := by omega
    rw [ek]
    dsimp only [gName]
    have tl : ts.length = k := by rw [← tp.length, List.length_map, List.length_range]
    refine seq_at (asg_split (fun v H7 => ∃ bk : Nat, v = iV bk ∧ bk < k + 1 ∧ Ex (L2.del H A) H7 ∧ BoxAt H7 A (c + 3 + m + (k + 1)) ∧ H7 f = some (.lst (ms.map iV)) ∧ H7 P = some (.lst ts) ∧ F2 (TP H7) ((List.range k).map fun j => edge (ms[j + 1]?.getD 0) (ms[b (j + 1)]?.getD 0)) ts) ?_ ?_)
    rotate_left
    · intro R hR
      refine ⟨_, rfl, rfl, _, rfl, ?_⟩
      by_cases k2 : kd = 2
      · rw [decide_eq_true (show V.int (kd : Int) = V.int 2 by rw [k2]; rfl)]
        refine iteT ?_
        obtain ⟨lx, hlx⟩ := hbx.some
        refine ⟨_, rfl, _, rfl, _, _, rfl, A, k + 1, c + 3 + m + k, rfl, rfl, by omega, by omega, by omega, hbx, fun i H7 hi e7 hb7 => hR _ _ ⟨i, rfl, hi, ex_of_del e del_same e7, hb7, del_get e7 fA hfx, del_get e7 PA' hPx, tp.imp fun _ _ z => z.take hlx e7⟩⟩
      · rw [decide_eq_false (show ¬ V.int (kd : Int) = V.int 2 from fun z => k2 (by have := V.int.inj z; omega))]
        refine iteF ?_
        refine ⟨_, rfl, _, _, rfl, rfl, _, rfl, _, _, rfl, rfl, _, _, rfl, (by show 4 ≤ sizeLine; decide), fun l hl => ?_⟩
        have el := Evl.Ex.new (H := H') (o := .lst [V.int (((k + 1 : Nat) : Int) - 1), V.int 0, V.int 0, V.int (if ((k + 1 : Nat) : Int) - 2 > 0 then ((k + 1 : Nat) : Int) - 2 else 0)]) hl
        obtain ⟨bk, hbk, lbk⟩ : ∃ bk : Nat, [V.int (((k + 1 : Nat) : Int) - 1), V.int 0, V.int 0, V.int (if ((k + 1 : Nat) : Int) - 2 > 0 then ((k + 1 : Nat) : Int) - 2 else 0)][kd]? = some (iV bk) ∧ bk < k + 1 := by
          match kd, hkd with
          | 0, _ => exact ⟨k, by show some (V.int (((k + 1 : Nat) : Int) - 1)) = some (V.int (k : Int)); rw [show (((k + 1 : Nat) : Int) - 1) = (k : Int) by omega], by omega⟩
          | 1, _ => exact ⟨0, rfl, by omega⟩
          | 2, _ => exact absurd rfl k2
          | 3, _ =>
            by_cases c3 : ((k + 1 : Nat) : Int) - 2 > 0
            · exact ⟨k - 1, by rw [if_pos c3]; show some (V.int (((k + 1 : Nat) : Int) - 2)) = some (V.int ((k - 1 : Nat) : Int)); rw [show (((k + 1 : Nat) : Int) - 2) = ((k - 1 : Nat) : Int) by omega], by omega⟩
            · exact ⟨0, by rw [if_neg c3]; rfl, by omega⟩
        exact ⟨_, rfl, l, _, _, _, rfl, rfl, SqL.of upd_same, atI_nat hbk, hR _ _ ⟨bk, rfl, lbk, e.trans el, (hbx.mono el).up (by omega), el _ _ hfx, el _ _ hPx, tp.imp fun _ _ z => z.mono el⟩⟩
    rintro _ H7 ⟨bk, rfl, lbk, e7, hb7, hf7, hP7, tp7⟩
    dsimp only [gName]
    obtain ⟨x, hx⟩ : ∃ x, ms[k + 1]? = some x := ⟨_, List.getElem?_eq_getElem (by omega)⟩
    obtain ⟨y, hy⟩ : ∃ y, ms[bk]? = some y := ⟨_, List.getElem?_eq_getElem (by omega)⟩
    have gx : (ms.map iV)[k + 1]? = some (iV x) := by rw [List.getElem?_map, hx]; rfl
    have gy : (ms.map iV)[bk]? = some (iV y) := by rw [List.getElem?_map, hy]; rfl
    refine ⟨_, rfl, .inl ⟨rfl, _, SqL.of hP7⟩, _, rfl, _, rfl, f, _, _, _, rfl, rfl, SqL.of hf7, atI_nat gx, _, rfl, _, rfl, f, _, _, _, rfl, rfl, SqL.of hf7, atI_nat gy, (by show 2 ≤ sizeLine; decide), fun l hl => ⟨l, [(x : Int), (y : Int)], rfl, SqL.of upd_same, fun ns' q0 pn sn hq => ⟨q0, _, rfl, .inl ⟨SqL.of upd_same, fun t ht => ?_⟩⟩⟩⟩
    rw [sort2 pn sn] at ht ⊢
    have ex := ((Evl.Ex.new (o := .lst [iV x, iV y]) hl).trans (Evl.Ex.new (o := .lst ([((edge x y).1 : Int), ((edge x y).2 : Int)].map V.int)) hq)).trans (Evl.Ex.new (o := .tup ([((edge x y).1 : Int), ((edge x y).2 : Int)].map V.int)) ht)
    refine ⟨P, ts, _, rfl, rfl, ex _ _ hP7, line_big (by omega), ?_⟩
    refine ⟨fun j => if j = k + 1 then bk else b j, ts ++ [.ref t], _, _, rfl, Evl.Ex.mut (e7.trans ex) Pd, ?_, ?_, upd_same, ?_, ?_⟩
    · obtain ⟨x0, b0, y0, k0, z, r⟩ := hb7.mono ex
      exact ⟨x0, b0, y0, k0, by rw [upd_ne PA'.symm]; exact z, r⟩
    · rw [upd_ne Pf.symm]; exact ex _ _ hf7
    · intro j j1 jk
      by_cases c : j = k + 1
      · show (if j = k + 1 then bk else b j) < j
        rw [if_pos c]; omega
      · show (if j = k + 1 then bk else b j) < j
        rw [if_neg c]; exact hbj j j1 (by omega)
    · rw [range_snoc_map]
      have em : (List.range k).map (fun j => edge (ms[j + 1]?.getD 0) (ms[(if j + 1 = k + 1 then bk else b (j + 1))]?.getD 0)) = (List.range k).map fun j => edge (ms[j + 1]?.getD 0) (ms[b (j + 1)]?.getD 0) :=
        List.map_congr_left fun j hj => by rw [if_neg (by have := List.mem_range.mp hj; omega)]
      rw [em]
      refine F2.snoc ?_ (tp7.imp fun _ _ z => (z.mono ex).updL (ex _ _ hP7))
      have eb : (fun j => if j = k + 1 then bk else b j) (k + 1) = bk := if_pos rfl
      rw [hx, eb, hy]
      exact TP.updL (ex _ _ hP7) ⟨t, rfl, upd_same⟩
  · rintro σ' H' ⟨b, ts, s6, s7, rfl, e, hbx, hfx, hPx, hbj, tp⟩
    dsimp only
    refine ret_at ?_
    have kT : ∀ {t : Addr} {i j : Int}, H' t = some (.tup [.int i, .int j]) → (fun v : V => match v with | .ref t => (match H' t with | some (.tup [.int i, .int j]) => (i, j) | _ => (0, 0)) | _ => ((0, 0) : Int × Int)) (.ref t) = (i, j) := fun h => by simp only [h]
    generalize (fun v : V => match v with | .ref t => (match H' t with | some (.tup [.int i, .int j]) => (i, j) | _ => (0, 0)) | _ => ((0, 0) : Int × Int)) = kf at kT
    have tpk : ∀ {p : Nat × Nat} {v : V}, TP H' p v → kf v = ((p.1 : Int), (p.2 : Int)) := fun h => by obtain ⟨t, rfl, z⟩ := h; exact kT z
    have gm : ∀ {ps : List (Nat × Nat)} {vs : List V}, F2 (TP H') ps vs → (∀ v ∈ vs, ∃ p, TP H' p v) ∧ vs.map (fun v => rdN (kf v)) = ps := by
      intro ps vs h
      induction h with
      | nil => exact ⟨by simp, rfl⟩
      | cons h _ ih =>
        refine ⟨fun v hv => ?_, ?_⟩
        · rcases List.mem_cons.mp hv with rfl | hv
          · exact ⟨_, h⟩
          · exact ih.1 v hv
        · rw [List.map_cons, ih.2, tpk h]; rfl
    obtain ⟨g1, g2⟩ := gm tp
    refine ⟨_, rfl, _, rfl, P, ts, kf, rfl, SqL.of hPx, fun v hv => ?_, fun ys q0 hs hst hq => ?_⟩
    · obtain ⟨p, hp⟩ := g1 v hv
      have z := tpk hp
      obtain ⟨t, rfl, ht⟩ := hp
      exact ⟨t, rfl, by rw [z]; exact ht⟩
    refine ⟨(by show 2 ≤ sizeLine; decide), fun w hw => ?_⟩
    have ey := (Evl.Ex.new (o := .lst ys) hq).trans (Evl.Ex.new (o := .lst [iV m, .ref q0]) hw)
    have all : ∀ v ∈ ys, ∃ p, TP H' p v := fun v hv => g1 v (hst.perm.mem_iff.mp hv)
    have tps := tp_all tpk ys all
    have ok : WorldOk m (ys.map fun v => rdN (kf v)) := by
      refine ⟨m1, m2, ⟨ms, b, pm, fun k k1 km => hbj k k1 (by omega), ?_⟩, ?_⟩
      · rw [← g2]; exact hst.perm.map _
      · rw [List.pairwise_map]
        refine hs.imp_of_mem fun {x y} hx hy z => ?_
        obtain ⟨p, hp⟩ := g1 x (hst.perm.mem_iff.mp hx)
        obtain ⟨p', hp'⟩ := g1 y (hst.perm.mem_iff.mp hy)
        have z' : SrtO.lexB (kf y) (kf x) = false := z
        rw [tpk hp, tpk hp'] at z'
        rw [tpk hp, tpk hp']
        have no := SrtO.lexB_no.mp z'
        unfold ltN ltR rdN
        simp only [Int.toNat_natCast, Bool.or_eq_false_iff, Bool.and_eq_false_iff, decide_eq_false_iff_not] at no ⊢
        omega
    refine q (.ref w) m (ys.map fun v => rdN (kf v)) _ (e.trans ey) ((hbx.mono ey).up (by omega)) ⟨⟨w, q0, ys, rfl, upd_same, Evl.Ex.new hw _ _ upd_same, tps.imp fun _ _ z => z.mono ey⟩, ok⟩ fun B l hB => ⟨⟨w, q0, ys, rfl, ?_, ?_, tps.imp fun _ _ ⟨t, z1, z2⟩ => ⟨t, z1, ?_⟩⟩, ok⟩
    all_goals
      obtain ⟨l', hB'⟩ : ∃ l', H' B = some (.lst l') := by
        by_cases z : B = A
        · obtain ⟨l', z'⟩ := hbx.some
          exact ⟨l', by rw [z]; exact z'⟩
        · exact ⟨l, e B _ (by rw [del_ne z]; exact hB)⟩
    · rw [del_ne (fun z => by rw [z, Evl.Ex.new hq _ _ hB'] at hw; cases hw)]; exact upd_same
    · rw [del_ne (fun z => by rw [z, hB'] at hq; cases hq)]; exact Evl.Ex.new hw _ _ upd_same
    · rw [del_ne (fun z => by rw [z, hB'] at z2; cases z2)]; exact ey _ _ z2
end

end T1

namespace T1
open PySem PySem.Spec PyProof.Rows L2 G
open Evl (Ex)
local macro_rules | `(tactic| walk_at "dd") => `(tactic| (dsimp only [tCB, tCons, tNil, tC, tOp, tUn, tTest, tB, tVar, tAndV, tOrV, tNotV, tIf, tAnd, tOr, tNot, tSeq, tRet, tRetN, tIfS, tAsg, gName, tDrop, tTup, tLst, tChain, tNext, tCall, L2.start]))
theorem vals_app : ∀ {xs ys : List V} {us ws : List Value}, Vals xs us → Vals ys ws → Vals (xs ++ ys) (us ++ ws)
  | _, _, _, _, .nil, h => h
  | _, _, _, _, .cons r t, h => .cons r (vals_app t h)
theorem vals_rev {xs : List V} {us : List Value} (h : Vals xs us) : Vals xs.reverse us.reverse := by
  induction h with
  | nil => exact .nil
  | cons r _ ih => rw [List.reverse_cons, List.reverse_cons]; exact vals_app ih (.cons r .nil)
section
variable {X : Cx} {W : WX} {K : PySem.W.Frag}
/-- Tree(a, b) in a try's body -/
theorem tree_mkW {a b : Expr} {ta : TA} {p pos : Pos} (T : Tx X.K X.mg) (hr : RG 6 X.A) (hg : Gl X "Tree") (hx : Takes X W) (ha : PA X [a, b] ta) (h : X.K = K := by rfl)
    (one : OneByOne X a [b] pos := by exact ⟨rfl, rfl⟩) :
    PE X (.Call (.Name "Tree" p) [a, b] [] pos) (tGMW (He.ga K "Tree") 2 0 (sp_Tree___init__ K) (fun us _ => us) W ta tNil) := by
  subst h
  obtain ⟨fd, F, G⟩ := ok_Tree___init__ (P := X.prog) (w := X.w) (base := X.base) T
  exact pe_gmkW (mk_Tree T) G hr hg (T.glo 9 rfl) (kb_of F 3 [] (fun us _ => us) (fun r _ => r) fun _ _ _ _ _ _ us ws hl hl2 => match us, ws, hl, hl2 with | [_, _, _], [], _, _ => rfl) hx ha (by decide) one
end
section
variable {X : Cx} {W : WX} {K : PySem.W.Frag}
/-- Tree(roads=b, houses=a) in a try's body -/
theorem tree_mkKW {kws : List Keyword} {tk : TA} {p pos : Pos} (T : Tx X.K X.mg) (hr : RG 6 X.A) (hg : Gl X "Tree") (hx : Takes X W) (hkw : PK X kws tk) (h : X.K = K := by rfl)
    (nk : NamedOnly X kws pos ["roads", "houses"] := by exact ⟨rfl, rfl, rfl⟩) :
    PE X (.Call (.Name "Tree" p) [] kws pos) (tGMW (He.ga K "Tree") 0 2 (sp_Tree___init__ K) (fun us ws => us ++ ws.reverse) W tNil tk) := by
  subst h
  obtain ⟨fd, F, G⟩ := ok_Tree___init__ (P := X.prog) (w := X.w) (base := X.base) T
  exact pe_gmk0W (ks := ["roads", "houses"]) (mk_Tree T) G hr hg (T.glo 9 rfl) (kb_of F 1 ["roads", "houses"] (fun us ws => us ++ ws.reverse) (fun r r' => vals_app r (vals_rev r')) fun _ _ _ _ _ _ us ws hl hl2 => match us, ws, hl, hl2 with | [_], [_, _], _, _ => rfl) hx hkw nk (by decide)
end

end T1

namespace T1
open PySem PySem.Spec PyProof.Rows L2 G
open Evl (Ex)
local macro_rules | `(tactic| walk_at "dd") => `(tactic| (dsimp only [tCB, tCons, tNil, tC, tOp, tUn, tTest, tB, tVar, tAndV, tOrV, tNotV, tIf, tAnd, tOr, tNot, tSeq, tRet, tRetN, tIfS, tAsg, gName, tDrop, tTup, tLst, tChain, tNext, tCall, L2.start]))
def sp__law_made (K : PySem.W.Frag) : Sp := sp3 fun a b c H Q E => ∃ (d1 d2 : PyData) (k : Int), Dq K H a d1 ∧ Dq K H b d2 ∧ (items d2).length ≤ 100000 ∧ (∀ x ∈ items d2, (items x).length ≤ 100000) ∧ c = .int k ∧
  (okN d1 = false → ∀ l H', Ex H H' → H l = none → H' l = some (.lst [.str "houses", a]) → Q (.ref l) H') ∧
  (∀ n : Nat, d1 = .int n → 1 ≤ n → n ≤ 16 → areRds d2 n = false → ∀ l H', Ex H H' → H l = none → H' l = some (.lst [.str "roads", b]) → Q (.ref l) H') ∧
  (∀ (n : Nat) F j, d1 = .int n → 1 ≤ n → n ≤ 16 → areRds d2 n = true → M.Ways (nbs n (rdsOf d2)) 0 F → j < n → M.at_ F j = [] → (∀ m, m < j → M.at_ F m ≠ []) → ∀ l H', Ex H H' → H l = none → H' l = some (.lst [.str "joined", iV j]) → Q (.ref l) H') ∧
  (∀ (n : Nat) Fs t l H', d1 = .int n → areRds d2 n = true → TreeAt K H' t n (rdsOf d2) Fs → H t = none → (∀ F, Fs[0]? = some F → ∀ v, v < n → M.at_ F v ≠ []) → Ex H H' → H l = none → H' l = some (.lst [.str "told", .ref t]) → Q (.ref l) H')
section
variable {K : PySem.W.Frag} {mg : Str → Option Value} {P : Program} {w : World} {base : Heap}
theorem ok__law_made (T : Tx K mg) : Cal P w K mg base CX0 7 "_law_made" ["_law_many", "_law_pairs", "_law_kind"] (sp__law_made K) := by
  refine cal_of (fD__law_made T) (T.glo 39 rfl) sc__law_made (fun _ _ _ _ _ _ us hl => match us, hl with | [_, _, _], _ => rfl) (fun vs H Q E h => len3 h) (fun f cdv A outer s H vs Q E hr h => ?_)
  obtain ⟨a, b, c, rfl, h⟩ := h
  refine ⟨_, (PSs.nox (pss_one (ps_tryAs (i := 3) rfl rfl sc__law_made.nd rfl rfl (fun W pn xe tk po => (pss_cons (ps_if (pt_cmpR op_eq (pv 2) pe_int (nomark _)) (pss_one (ps_ret (pe_lst (pa_cons pe_str (pa_cons (tree_mkW (K := K) T (hr.mono (by decide)) rfl tk (pa_cons (pv 0) (pa_cons (pv 1) pa_nil))) pa_nil))))) pss_nil)
      (pss_one (ps_ret (pe_lst (pa_cons pe_str (pa_cons (tree_mkKW (K := K) T (hr.mono (by decide)) rfl tk (pk_cons (pv 1) (pk_cons (pv 0) pk_nil))) pa_nil))))))) (HdsAs.cons ⟨rfl, by decide, .inl (T.glo 1 rfl)⟩ (fun ax oe cls dx pn hz hf => (pss_one (ps_ret (pe_lst (pa_cons pe_str (pa_cons (pe_xf (T.err 0 rfl).xf ((T.err 0 rfl).no "given" (by simp)) hz hf (pv 3)) pa_nil)))))) (HdsAs.cons ⟨rfl, by decide, .inl (T.glo 2 rfl)⟩ (fun ax oe cls dx pn hz hf => (pss_one (ps_ret (pe_lst (pa_cons pe_str (pa_cons (pe_xf (T.err 1 rfl).xf ((T.err 1 rfl).no "given" (by simp)) hz hf (pv 3)) pa_nil)))))) (HdsAs.cons ⟨rfl, by decide, .inl (T.glo 7 rfl)⟩ (fun ax oe cls dx pn hz hf => (pss_one (ps_ret (pe_lst (pa_cons pe_str (pa_cons (pe_xf (T.err 6 rfl).xf ((T.err 6 rfl).no "house" (by simp)) hz hf (pv 3)) pa_nil)))))) HdsAs.nil)))))), ?_⟩
  obtain ⟨d1, d2, k, h1, h2, b1, b2, rfl, q1, q2, q3, q4⟩ := h
  refine seq_at ?_
  refine ⟨_, rfl, rfl, _, rfl, ?_⟩
  by_cases k0 : k = 0
  · rw [decide_eq_true (show V.int k = V.int 0 by rw [k0])]
    refine iteT ?_
    refine ⟨_, rfl, _, rfl, rfl, rfl, fun x dx hx hdx ne => ?_⟩
    have eX : Ex H (upd (upd H dx (.own x)) x (.ins (He.ga K "Tree") dx [])) := fun b z e => by rw [upd_ne (ne_of_none e hx), upd_ne (ne_of_none e hdx)]; exact e
    refine ⟨_, _, _, rfl, H, x, dx, rfl, eX, hx, upd_same, d1, d2, h1, h2, b1, b2, fun ok d H' e hd => ?_, fun n e1 n1 n16 ar d H' e hd => ?_, fun n F j e1 n1 n16 ar W jn z1 z2 d H' e hd => ?_, fun n Fs H' e1 ar e t al => ⟨rfl, (by show 2 ≤ sizeLine; decide), fun l hl => q4 n Fs x l _ e1 ar (t.mono (Evl.Ex.new hl)) hx al (e.trans (Evl.Ex.new hl)) (Evl.fresh_back e hl) upd_same⟩⟩
    · exact ⟨true, T.exm (x := "InvalidHouses") (y := "InvalidHouses") 0 0 rfl rfl rfl, fun _ ax hax => ⟨_, rfl, rfl, rfl, d, _, _, rfl, hd, rfl, (by show 2 ≤ sizeLine; decide), fun l hl => q1 ok l _ (e.trans (Evl.Ex.new hl)) (Evl.fresh_back e hl) upd_same⟩, fun z => (nomatch z)⟩
    · exact ⟨false, T.exm (x := "InvalidRoads") (y := "InvalidHouses") 1 0 rfl rfl rfl, fun z => (nomatch z), fun _ => ⟨true, T.exm (x := "InvalidRoads") (y := "InvalidRoads") 1 1 rfl rfl rfl, fun _ ax hax => ⟨_, rfl, rfl, rfl, d, _, _, rfl, hd, rfl, (by show 2 ≤ sizeLine; decide), fun l hl => q2 n e1 n1 n16 ar l _ (e.trans (Evl.Ex.new hl)) (Evl.fresh_back e hl) upd_same⟩, fun z => (nomatch z)⟩⟩
    · exact ⟨false, T.exm (x := "NotJoined") (y := "InvalidHouses") 6 0 rfl rfl rfl, fun z => (nomatch z), fun _ => ⟨false, T.exm (x := "NotJoined") (y := "InvalidRoads") 6 1 rfl rfl rfl, fun z => (nomatch z), fun _ => ⟨true, T.exm (x := "NotJoined") (y := "NotJoined") 6 6 rfl rfl rfl, fun _ ax hax => ⟨_, rfl, rfl, rfl, d, _, _, rfl, hd, rfl, (by show 2 ≤ sizeLine; decide), fun l hl => q3 n F j e1 n1 n16 ar W jn z1 z2 l _ (e.trans (Evl.Ex.new hl)) (Evl.fresh_back e hl) upd_same⟩, fun z => (nomatch z)⟩⟩⟩
  · rw [decide_eq_false (show ¬ V.int k = V.int 0 from fun z => k0 (V.int.inj z))]
    refine iteF ?_
    dsimp only [tNext]
    refine ret_at ?_
    refine ⟨_, rfl, _, rfl, rfl, rfl, fun x dx hx hdx ne => ?_⟩
    have eX : Ex H (upd (upd H dx (.own x)) x (.ins (He.ga K "Tree") dx [])) := fun b z e => by rw [upd_ne (ne_of_none e hx), upd_ne (ne_of_none e hdx)]; exact e
    refine ⟨_, _, _, rfl, H, x, dx, rfl, eX, hx, upd_same, d1, d2, h1, h2, b1, b2, fun ok d H' e hd => ?_, fun n e1 n1 n16 ar d H' e hd => ?_, fun n F j e1 n1 n16 ar W jn z1 z2 d H' e hd => ?_, fun n Fs H' e1 ar e t al => ⟨rfl, (by show 2 ≤ sizeLine; decide), fun l hl => q4 n Fs x l _ e1 ar (t.mono (Evl.Ex.new hl)) hx al (e.trans (Evl.Ex.new hl)) (Evl.fresh_back e hl) upd_same⟩⟩
    · exact ⟨true, T.exm (x := "InvalidHouses") (y := "InvalidHouses") 0 0 rfl rfl rfl, fun _ ax hax => ⟨_, rfl, rfl, rfl, d, _, _, rfl, hd, rfl, (by show 2 ≤ sizeLine; decide), fun l hl => q1 ok l _ (e.trans (Evl.Ex.new hl)) (Evl.fresh_back e hl) upd_same⟩, fun z => (nomatch z)⟩
    · exact ⟨false, T.exm (x := "InvalidRoads") (y := "InvalidHouses") 1 0 rfl rfl rfl, fun z => (nomatch z), fun _ => ⟨true, T.exm (x := "InvalidRoads") (y := "InvalidRoads") 1 1 rfl rfl rfl, fun _ ax hax => ⟨_, rfl, rfl, rfl, d, _, _, rfl, hd, rfl, (by show 2 ≤ sizeLine; decide), fun l hl => q2 n e1 n1 n16 ar l _ (e.trans (Evl.Ex.new hl)) (Evl.fresh_back e hl) upd_same⟩, fun z => (nomatch z)⟩⟩
    · exact ⟨false, T.exm (x := "NotJoined") (y := "InvalidHouses") 6 0 rfl rfl rfl, fun z => (nomatch z), fun _ => ⟨false, T.exm (x := "NotJoined") (y := "InvalidRoads") 6 1 rfl rfl rfl, fun z => (nomatch z), fun _ => ⟨true, T.exm (x := "NotJoined") (y := "NotJoined") 6 6 rfl rfl rfl, fun _ ax hax => ⟨_, rfl, rfl, rfl, d, _, _, rfl, hd, rfl, (by show 2 ≤ sizeLine; decide), fun l hl => q3 n F j e1 n1 n16 ar W jn z1 z2 l _ (e.trans (Evl.Ex.new hl)) (Evl.fresh_back e hl) upd_same⟩, fun z => (nomatch z)⟩⟩⟩
end

end T1

namespace T1
open PySem PySem.Spec PyProof.Rows L2 G
open Evl (Ex)
local macro_rules | `(tactic| walk_at "dd") => `(tactic| (dsimp only [tCB, tCons, tNil, tC, tOp, tUn, tTest, tB, tVar, tAndV, tOrV, tNotV, tIf, tAnd, tOr, tNot, tSeq, tRet, tRetN, tIfS, tAsg, gName, tDrop, tTup, tLst, tChain, tNext, tCall, L2.start]))
def sp__law_made_due (K : PySem.W.Frag) : Sp := sp2 fun a b H Q E => ∃ (d1 d2 : PyData), Dq K H a d1 ∧ Dq K H b d2 ∧ (items d2).length ≤ 100000 ∧ (∀ x ∈ items d2, (items x).length ≤ 100000) ∧
  (okN d1 = false → ∀ l H', Ex H H' → H l = none → H' l = some (.lst [.str "houses", a]) → Q (.ref l) H') ∧
  (∀ n : Nat, d1 = .int n → 1 ≤ n → n ≤ 16 → areRds d2 n = false → ∀ l H', Ex H H' → H l = none → H' l = some (.lst [.str "roads", b]) → Q (.ref l) H') ∧
  (∀ (n : Nat) F j, d1 = .int n → 1 ≤ n → n ≤ 16 → areRds d2 n = true → M.Ways (nbs n (rdsOf d2)) 0 F → j < n → M.at_ F j = [] → (∀ m, m < j → M.at_ F m ≠ []) → ∀ l H', Ex H H' → H l = none → H' l = some (.lst [.str "joined", iV j]) → Q (.ref l) H') ∧
  (∀ (n : Nat) F l H', d1 = .int n → 1 ≤ n → n ≤ 16 → areRds d2 n = true → M.Ways (nbs n (rdsOf d2)) 0 F → (∀ v, v < n → M.at_ F v ≠ []) → Ex H H' → H l = none → H' l = some (.lst [.str "told"]) → Q (.ref l) H')
section
variable {K : PySem.W.Frag} {mg : Str → Option Value} {P : Program} {w : World} {base : Heap}
theorem ok__law_made_due (T : Tx K mg) : Cal P w K mg base CX0 4 "_law_made_due" ["_law_many", "_law_pairs"] (sp__law_made_due K) := by
  refine cal_of (fD__law_made_due T) (T.glo 40 rfl) sc__law_made_due (fun _ _ _ _ _ _ us hl => match us, hl with | [_, _], _ => rfl) (fun vs H Q E h => len2 h) (fun f cdv A outer s H vs Q E hr h => ?_)
  obtain ⟨a, b, rfl, h⟩ := h
  refine ⟨_, (PSs.nox (pss_cons (ps_if (PW.pt (pw_or (pt_not (pt_val (pe_c (ok__law_index T) (hr.mono (by decide)) rfl pass0 (pa_cons (pv 0) (pa_cons pe_int pa_nil))))) (pw_or1 (pt_cmpR op_eq (pv 0) pe_int (nomark _))))) (pss_one (ps_ret (pe_lst (pa_cons pe_str (pa_cons (pv 0) pa_nil))))) pss_nil)
      (pss_cons (ps_if (pt_not (pt_val (pe_c (ok__law_are_pairs T) (hr.mono (by decide)) rfl pass0 (pa_cons (pv 1) (pa_cons (pv 0) pa_nil))))) (pss_one (ps_ret (pe_lst (pa_cons pe_str (pa_cons (pv 1) pa_nil))))) pss_nil)
      (pss_cons (ps_set (i := 2) sc__law_made_due.nd rfl (Or.inl rfl) (pe_c (ok__law_from T) (hr.mono (by decide)) rfl pass0 (pa_cons (pe_lst (pa_cons (pv 0) (pa_cons (pv 1) pa_nil))) (pa_cons pe_int pa_nil))))
      (pss_one (ps_ret (pe_ifExp (pt_cmpR (op_inD (hu65 hr.r)) (pe_tup pa_nil) (pv 2) (by with_unfolding_all rfl)) (pe_lst (pa_cons pe_str (pa_cons (pe_bm PySem.F.plainAttrs_list PySem.F.slot_list_index PySem.F.type_list_index (mt_indexD (hu65 hr.r)) (pv 2) (pa_cons (pe_tup pa_nil) pa_nil)) pa_nil))) (pe_lst (pa_cons pe_str pa_nil))))))))), ?_⟩
  obtain ⟨d1, d2, h1, h2, b1, b2, q1, q2, q3, q4⟩ := h
  refine seq_at ?_
  refine ⟨_, rfl, _, _, rfl, d1, 17, h1, rfl, _, rfl, ?_⟩
  cases hi : isIdx d1 17 with
  | false =>
    refine iteT (iteT ?_)
    exact ⟨_, rfl, (by show 2 ≤ sizeLine; decide), fun l hl => q1 (by cases d1 <;> first | rfl | (simp [isIdx] at hi; simp [okN]; omega)) l _ (Evl.Ex.new hl) hl upd_same⟩
  | true =>
  refine iteF ?_
  obtain ⟨n, rfl, n17⟩ := idx_nat (n := 17) hi
  have ha : a = .int (n : Int) := by cases h1; rfl
  subst ha
  refine ⟨_, rfl, rfl, _, rfl, ?_⟩
  by_cases n0 : n = 0
  · subst n0
    rw [decide_eq_true (show V.int ((0 : Nat) : Int) = V.int 0 from rfl)]
    refine iteT ?_
    exact ⟨_, rfl, (by show 2 ≤ sizeLine; decide), fun l hl => q1 rfl l _ (Evl.Ex.new hl) hl upd_same⟩
  rw [decide_eq_false (show ¬ V.int (n : Int) = V.int 0 from fun z => n0 (by have := V.int.inj z; omega))]
  refine iteF ?_
  dsimp only [tNext]
  refine seq_at ?_
  refine ⟨_, rfl, _, rfl, _, _, rfl, d2, n, h2, rfl, b1, b2, fun H1 e1 => ⟨_, rfl, ?_⟩⟩
  cases ar : areRds d2 n with
  | false =>
    refine iteT ?_
    exact ⟨_, rfl, (by show 2 ≤ sizeLine; decide), fun l hl => q2 n rfl (by omega) (by omega) ar l _ (e1.trans (Evl.Ex.new hl)) (Evl.fresh_back e1 hl) upd_same⟩
  | true =>
  refine iteF ?_
  obtain ⟨isq, G, ie, rl⟩ := rds_good ar
  dsimp only [tNext]
  refine seq_at (asg_at ?_)
  refine ⟨_, rfl, _, rfl, (by show 2 ≤ sizeLine; decide), fun l hl => ?_⟩
  have el := Evl.Ex.new (o := .lst [.int (n : Int), b]) hl
  refine ⟨_, _, rfl, n, 0, rdsOf d2, d2, .lst (SqL.of upd_same) (.cons (.int _) (.cons (h2.mono (e1.trans el)) .nil)), isq, ie, rfl, by omega, by omega, by omega, G, fun A H2 F e2 W hA fa => ?_⟩
  have e02 := (e1.trans el).trans e2
  obtain ⟨vs, hvs, f2⟩ := id fa
  have fd := FA.dq fa hvs (K := K)
  have lF : F.length = n := by rw [W.len]; unfold nbs; rw [List.length_map, List.length_range]
  have sh : SeqAt.shaped (.list (F.map rowD)) = true := by
    have z := shaped_rows F
    unfold rowsD SeqAt.shaped at z; unfold SeqAt.shaped
    simpa [PyData.canLay0, PyData.depth] using z
  dsimp only [gName]
  refine ret_at ?_
  refine ⟨Nat.zero_le _, fun p hp => ?_⟩
  have ep := Evl.Ex.new (o := .tup []) hp
  refine ⟨_, rfl, .tuple [], F.map rowD, dp_tup (l := []) upd_same, (Dq.lst (SqL.of (ep _ _ hvs)) (fd.mono ep)).dp (SeqAt.canLay_of_shaped sh), (shaped_ints []).2, sh, _, rfl, ?_⟩
  rw [any_row]
  cases ea : F.any (·.isEmpty) with
  | false =>
    refine iteF ⟨(by show 1 ≤ sizeLine; decide), fun l2 hl2 => ?_⟩
    refine q4 n F l2 _ rfl (by omega) (by omega) ar W (fun v hv z => ?_) ((e02.trans ep).trans (Evl.Ex.new hl2)) (Evl.fresh_back (e02.trans ep) hl2) upd_same
    have hm : F[v]? = some F[v] := List.getElem?_eq_getElem (by omega)
    rw [at_of hm] at z
    have : F.any (·.isEmpty) = true := List.any_eq_true.mpr ⟨_, List.mem_of_getElem? hm, by rw [z]; rfl⟩
    rw [ea] at this; cases this
  | true =>
    refine iteT ?_
    have jl : F.findIdx (·.isEmpty) < F.length := List.findIdx_lt_length.mpr (by simpa using List.any_eq_true.mp ea)
    have jn := List.findIdx_getElem (w := jl)
    refine ⟨_, rfl, .inl ⟨rfl, _, SqL.of (ep _ _ hvs)⟩, Nat.zero_le _, fun p9 hp9 => ?_⟩
    have e9 := ep.trans (Evl.Ex.new (o := .tup []) hp9)
    refine ⟨A, _, .tuple [], F.map rowD, F.findIdx (·.isEmpty), rowD (F[F.findIdx (·.isEmpty)]), rfl, rfl, (Dq.lst (SqL.of (e9 _ _ hvs)) (fd.mono e9)).dp (SeqAt.canLay_of_shaped sh), dp_tup (l := []) upd_same, sh, (shaped_ints []).2, ?_, ?_, ?_, ?_⟩
    · rw [List.getElem?_map, List.getElem?_eq_getElem jl]; rfl
    · rw [eqv_row]; exact jn
    · intro m z' hm hz
      rw [List.getElem?_map] at hz
      obtain ⟨l, h1, rfl⟩ := Option.map_eq_some_iff.mp hz
      rw [eqv_row]
      have := List.not_of_lt_findIdx hm
      obtain ⟨hml, h2⟩ := List.getElem?_eq_some_iff.mp h1
      rw [h2] at this
      simpa using this
    · refine ⟨(by show 2 ≤ sizeLine; decide), fun l2 hl2 => q3 n F (F.findIdx (·.isEmpty)) rfl (by omega) (by omega) ar W (by omega) ?_ ?_ l2 _ ((e02.trans e9).trans (Evl.Ex.new hl2)) (Evl.fresh_back (e02.trans e9) hl2) upd_same⟩
      · rw [at_of (List.getElem?_eq_getElem jl)]; simpa using jn
      · intro m hm z
        have hml : m < F.length := by omega
        rw [at_of (List.getElem?_eq_getElem hml)] at z
        have := List.not_of_lt_findIdx hm
        rw [z] at this; simp at this
end

end T1

namespace T1
open PySem PySem.Spec PyProof.Rows L2 G
open Evl (Ex)
local macro_rules | `(tactic| walk_at "dd") => `(tactic| (dsimp only [tCB, tCons, tNil, tC, tOp, tUn, tTest, tB, tVar, tAndV, tOrV, tNotV, tIf, tAnd, tOr, tNot, tSeq, tRet, tRetN, tIfS, tAsg, gName, tDrop, tTup, tLst, tChain, tNext, tCall, L2.start]))
def pickL (n : Nat) : List PyData := [.int (-1), .int n, .int ((n : Int) + 3), .bool true, .bool false, .none, .str "0", .tuple [.int 0], .list [.int 0], .dict [], .int (10 ^ 19)]
/-- what _law_pick may give -/
def Picked (n : Nat) (d : PyData) : Prop := (∃ i : Nat, i < n ∧ d = .int (i : Int)) ∨ d ∈ pickL n
def sp__law_pick (K : PySem.W.Frag) : Sp := sp2 fun a b H Q E => ∃ (A : Addr) (n c : Nat), a = .ref A ∧ b = .int (n : Int) ∧ 1 ≤ n ∧ n ≤ 16 ∧ c ≤ 900000 ∧ BoxAt H A c ∧ ∀ v d H', Ex (L2.del H A) H' → BoxAt H' A (c + 2) → Dq K H' v d → (∀ B C, H B ≠ none → H C ≠ none → Dq K (L2.del (L2.del H' B) C) v d) → Picked n d → Q v H'
section
variable {K : PySem.W.Frag} {mg : Str → Option Value} {P : Program} {w : World} {base : Heap}
theorem ok__law_pick (T : Tx K mg) : Cal P w K mg base CX0 2 "_law_pick" ["_law_box_here", "_law_many"] (sp__law_pick K) := by
  refine cal_of (fD__law_pick T) (T.glo 48 rfl) sc__law_pick (fun _ _ _ _ _ _ us hl => match us, hl with | [_, _], _ => rfl) (fun vs H Q E h => len2 h) (fun f cdv A outer s H vs Q E hr h => ?_)
  obtain ⟨a, b, rfl, h⟩ := h
  refine ⟨_, (PSs.nox (pss_cons (ps_if (pt_cmpR op_gt (pe_c (ok__law_take T) (hr.mono (by decide)) rfl pass0 (pa_cons (pv 0) (pa_cons pe_int pa_nil))) pe_int (nomark _)) (pss_one (ps_ret (pe_c (ok__law_take T) (hr.mono (by decide)) rfl pass0 (pa_cons (pv 0) (pa_cons (pv 1) pa_nil))))) pss_nil)
      (pss_one (ps_ret (pe_ix (ix_listK (K := K)) (pe_lst (pa_cons (pe_un un_neg pe_int) (pa_cons (pv 1) (pa_cons (pe_op op_add (pv 1) pe_int) (pa_cons pe_bl (pa_cons pe_bl (pa_cons pe_non (pa_cons pe_str (pa_cons (pe_tup (pa_cons pe_int pa_nil)) (pa_cons (pe_lst (pa_cons pe_int pa_nil)) (pa_cons pe_dnewK (pa_cons (pe_op op_pow pe_int pe_int) pa_nil)))))))))))) (pe_c (ok__law_take T) (hr.mono (by decide)) rfl pass0 (pa_cons (pv 0) (pa_cons pe_int pa_nil))) (fun _ _ => rfl)))))), ?_⟩
  obtain ⟨A, n, c, rfl, rfl, n1, n16, c9, hb, q⟩ := h
  refine seq_at ?_
  refine ⟨_, rfl, _, _, rfl, A, 6, c, rfl, rfl, by decide, by decide, by omega, hb, fun i H1 hi e1 hb1 => ⟨_, _, rfl, rfl, _, rfl, ?_⟩⟩
  by_cases i0 : (0 : Int) < (i : Int)
  · rw [decide_eq_true i0]
    refine iteT ?_
    exact ⟨_, rfl, _, rfl, _, _, rfl, A, n, c + 1, rfl, rfl, n1, by omega, by omega, hb1, fun j H2 hj e2 hb2 => q _ (.int (j : Int)) H2 (ex_of_del e1 del_same e2) hb2 (.int _) (fun _ _ _ _ => .int _) (.inl ⟨j, hj, rfl⟩)⟩
  · rw [decide_eq_false i0]
    refine iteF ?_
    dsimp only [tNext]
    refine ret_at ?_
    obtain ⟨lA, hlA⟩ := hb1.some
    refine ⟨1, rfl, _, rfl, _, rfl, _, _, rfl, rfl, (by show 1 ≤ sizeLine; decide), fun t1 ht1 => ⟨(by show 1 ≤ sizeLine; decide), fun l1 hl1 => fun dd hdd => ⟨10, 19, rfl, rfl, ⟨by decide, by decide, by decide⟩, (by show 11 ≤ sizeLine; decide), fun L hL => ?_⟩⟩⟩
    have x1 := Evl.Ex.new (o := .tup [.int 0]) ht1
    have x2 := Evl.Ex.new (o := .lst [.int 0]) hl1
    have x3 := Evl.Ex.new (o := .dK []) hdd
    generalize hLo : HO.lst [V.int (-1), V.int (n : Int), V.int ((n : Int) + 3), V.bl true, V.bl false, V.non, V.str "0", V.ref t1, V.ref l1, V.ref dd, V.int (10 ^ (19 : Int).toNat)] = oL
    have x4 := Evl.Ex.new (o := oL) hL
    have gt := x4 _ _ (x3 _ _ (x2 _ _ (upd_same (H := H1) (a := t1) (o := .tup [.int 0]))))
    have gl := x4 _ _ (x3 _ _ (upd_same (H := upd H1 t1 (.tup [.int 0])) (a := l1) (o := .lst [.int 0])))
    have gd := x4 _ _ (upd_same (H := upd (upd H1 t1 (.tup [.int 0])) l1 (.lst [.int 0])) (a := dd) (o := .dK []))
    have gL : upd (upd (upd (upd H1 t1 (.tup [.int 0])) l1 (.lst [.int 0])) dd (.dK [])) L oL L = some oL := upd_same
    have xx := ((x1.trans x2).trans x3).trans x4
    have gA := xx _ _ hlA
    have a1 : t1 ≠ A := fun z => by rw [z, hlA] at ht1; cases ht1
    have a2 : l1 ≠ A := fun z => by rw [z, x1 _ _ hlA] at hl1; cases hl1
    have a3 : dd ≠ A := fun z => by rw [z, (x1.trans x2) _ _ hlA] at hdd; cases hdd
    have a4 : L ≠ A := fun z => by rw [z, ((x1.trans x2).trans x3) _ _ hlA] at hL; cases hL
    generalize upd (upd (upd (upd H1 t1 (.tup [.int 0])) l1 (.lst [.int 0])) dd (.dK [])) L oL = H5 at gt gl gd gL xx gA ⊢
    refine ⟨_, rfl, _, _, rfl, A, 11, c + 1, rfl, rfl, by decide, by decide, by omega, hb1.mono xx, fun j H2 hj e2 hb2 => ?_⟩
    have ht2 := del_get e2 a1 gt
    have hl2 := del_get e2 a2 gl
    have hd2 := del_get e2 a3 gd
    have hL2 := del_get e2 a4 gL
    subst hLo
    have e5 := ex_of_del (e1.trans xx) del_same e2
    have nb : ∀ B, H B ≠ none → H1 B ≠ none := fun B hB => by
      by_cases z : B = A
      · rw [z, hlA]; exact fun y => by cases y
      · obtain ⟨o, ho⟩ := Option.ne_none_iff_exists'.mp hB
        rw [e1 B o (by rw [del_ne z]; exact ho)]; exact fun y => by cases y
    have far : ∀ {p : Addr} {o : HO}, H1 p = none → H2 p = some o → ∀ B C, H B ≠ none → H C ≠ none → L2.del (L2.del H2 B) C p = some o := fun {p o} n z B C hB hC => by
      rw [del_ne (show p ≠ C from fun y => nb C hC (by rw [← y]; exact n)), del_ne (show p ≠ B from fun y => nb B hB (by rw [← y]; exact n))]; exact z
    have f1 := far ht1 ht2
    have f2 := far (Evl.fresh_back x1 hl1) hl2
    have f3 := far (Evl.fresh_back (x1.trans x2) hdd) hd2
    obtain ⟨v, d, hv, hdq, hfar, hd⟩ : ∃ v d, [V.int (-1), V.int (n : Int), V.int ((n : Int) + 3), V.bl true, V.bl false, V.non, V.str "0", V.ref t1, V.ref l1, V.ref dd, V.int (10 ^ (19 : Int).toNat)][j]? = some v ∧ Dq K H2 v d ∧ (∀ B C, H B ≠ none → H C ≠ none → Dq K (L2.del (L2.del H2 B) C) v d) ∧ d ∈ pickL n := by
      match j, hj with
      | 0, _ => exact ⟨_, _, rfl, .int _, fun _ _ _ _ => .int _, by simp [pickL]⟩
      | 1, _ => exact ⟨_, _, rfl, .int _, fun _ _ _ _ => .int _, by simp [pickL]⟩
      | 2, _ => exact ⟨_, _, rfl, .int _, fun _ _ _ _ => .int _, by simp [pickL]⟩
      | 3, _ => exact ⟨_, _, rfl, .bl _, fun _ _ _ _ => .bl _, by simp [pickL]⟩
      | 4, _ => exact ⟨_, _, rfl, .bl _, fun _ _ _ _ => .bl _, by simp [pickL]⟩
      | 5, _ => exact ⟨_, _, rfl, .non, fun _ _ _ _ => .non, by simp [pickL]⟩
      | 6, _ => exact ⟨_, _, rfl, .str _, fun _ _ _ _ => .str _, by simp [pickL]⟩
      | 7, _ => exact ⟨_, _, rfl, .tup (SqT.of ht2) (.cons (.int _) .nil), fun B C b c => .tup (SqT.of (f1 B C b c)) (.cons (.int _) .nil), by simp [pickL]⟩
      | 8, _ => exact ⟨_, _, rfl, .lst (SqL.of hl2) (.cons (.int _) .nil), fun B C b c => .lst (SqL.of (f2 B C b c)) (.cons (.int _) .nil), by simp [pickL]⟩
      | 9, _ => exact ⟨_, _, rfl, .dic hd2, fun B C b c => .dic (f3 B C b c), by simp [pickL]⟩
      | 10, _ => exact ⟨_, .int (10 ^ 19), rfl, .int _, fun _ _ _ _ => .int _, by simp [pickL]⟩
    exact ⟨L, _, _, v, rfl, rfl, SqL.of hL2, atI_nat hv, q v d H2 e5 hb2 hdq hfar (.inr hd)⟩
end

end T1

namespace T1
open PySem PySem.Spec PyProof.Rows L2 G
open Evl (Ex)
local macro_rules | `(tactic| walk_at "dd") => `(tactic| (dsimp only [tCB, tCons, tNil, tC, tOp, tUn, tTest, tB, tVar, tAndV, tOrV, tNotV, tIf, tAnd, tOr, tNot, tSeq, tRet, tRetN, tIfS, tAsg, gName, tDrop, tTup, tLst, tChain, tNext, tCall, L2.start]))
/-- the ways of all houses, as the law keeps them, stand at w -/
def WaysAt (H : Hp) (w : V) (n : Nat) (Fs : List (List (List Nat))) : Prop := ∃ a vs, w = .ref a ∧ H a = some (.lst vs) ∧ ∀ i, i < n → ∃ A ws, vs[i]? = some (.ref A) ∧ H A = some (.lst ws) ∧ ∀ j, j < n → ∃ t, ws[j]? = some (.ref t) ∧ H t = some (.tup ((wy Fs i j).map iV))
theorem WaysAt.mono {H H' : Hp} {w : V} {n : Nat} {Fs} (e : Ex H H') (h : WaysAt H w n Fs) : WaysAt H' w n Fs := by
  obtain ⟨a, vs, h1, h2, h3⟩ := h
  refine ⟨a, vs, h1, e _ _ h2, fun i hi => ?_⟩
  obtain ⟨A, ws, g1, g2, g3⟩ := h3 i hi
  refine ⟨A, ws, g1, e _ _ g2, fun j hj => ?_⟩
  obtain ⟨t, k1, k2⟩ := g3 j hj
  exact ⟨t, k1, e _ _ k2⟩
/-- houses that lie on ways between those of is -/
def spanN (Fs : List (List (List Nat))) (is : List Nat) (x : Nat) : Bool := is.any fun i => is.any fun j => (wy Fs i j).contains x
def sp__law_span (K : PySem.W.Frag) : Sp := sp2 fun a b H Q E => ∃ (n : Nat) (Fs : List (List (List Nat))) (is : List Nat) (d : PyData), WaysAt H a n Fs ∧ Dq K H b d ∧ isSeq d = true ∧ items d = is.map intD ∧ (∀ i ∈ is, i < n) ∧ n ≤ 16 ∧ is.length ≤ 1000 ∧ (∀ i j, i < n → j < n → (wy Fs i j).Nodup ∧ ∀ x ∈ wy Fs i j, x < n) ∧
  ∀ l H', Ex H H' → H l = none → H' l = some (.lst (((List.range n).filter (spanN Fs is)).map iV)) → Q (.ref l) H'
section
variable {K : PySem.W.Frag} {mg : Str → Option Value} {P : Program} {w : World} {base : Heap}
theorem ok__law_span (T : Tx K mg) : Cal P w K mg base CX0 1 "_law_span" ["_law_ways", "_law_some"] (sp__law_span K) := by
  refine cal_of (fD__law_span T) (T.glo 46 rfl) sc__law_span (fun _ _ _ _ _ _ us hl => match us, hl with | [_, _], _ => rfl) (fun vs H Q E h => len2 h) (fun f cdv A outer s H vs Q E hr h => ?_)
  obtain ⟨a, b, rfl, h⟩ := h
  refine ⟨_, (PSs.nox (pss_cons (ps_set (i := 2) sc__law_span.nd rfl (Or.inr rfl) (pe_lst pa_nil))
      (pss_cons (ps_for PassesOwn.never rfl (pi_seq (pv 1)) (pg_name (i := 3) sc__law_span.nd rfl (Or.inl rfl)) (pss_one (ps_for PassesOwn.never rfl (pi_seq (pv 1)) (pg_name (i := 4) sc__law_span.nd rfl (Or.inl rfl)) (pss_one (ps_set (i := 2) sc__law_span.nd rfl (Or.inr rfl) (pe_op op_cat (pv 2) (pe_lc (own := [("_law_spot", 5)]) rfl sc__law_span.nd (pi_tup (pe_ix (ix_listK (K := K)) (pe_ix (ix_listK (K := K)) (pv 0) (pv 3) (fun _ _ => rfl)) (pv 4) (fun _ _ => rfl))) (blkOk_by (own := [("_law_spot", 5)]) (N := ["_law_ways", "_law_some", "_law_found", "_law_one", "_law_other_here", "_law_spot"]) (sc := defScope st__law_span) (by decide +kernel)) (fun _ _ _ _ _ => (pg_name (i := 5) sc__law_span.nd rfl (Or.inl rfl))) (fun _ _ _ _ _ => (pts_one (pt_cmpR (op_ninK (K := K)) (pv 5) (pv 2) (by with_unfolding_all rfl)))) (fun _ _ _ _ _ => (pv 5)))))))))
      (pss_one (ps_ret (pe_callB (cr_sortedIK (K := K)) (by rfl) (T.free 13 rfl) (by decide +kernel) (pa_cons (pv 2) pa_nil))))))), ?_⟩
  obtain ⟨n, Fs, is, d, hw, hd, es, ei, hlt, n16, il, ok, q⟩ := h
  obtain ⟨p0, xs, rfl, hx, hds⟩ := dq_seq hd es
  rw [ei] at hds
  have ev : xs = is.map iV := by
    have : is.map intD = (is.map fun i : Nat => (i : Int)).map PyData.int := by rw [List.map_map]; rfl
    rw [this] at hds
    rw [Dqs.ints_inv hds, List.map_map]; rfl
  subst ev
  obtain ⟨a0, vs, rfl, ha0, hwi⟩ := hw
  have nthi : ∀ {i x : Nat}, is[i]? = some x → nth (is.map iV) i = iV x := fun h => by unfold nth; rw [List.getElem?_map, h]; rfl
  refine seq_at (asg_at ?_)
  refine ⟨Nat.zero_le _, fun P0 hP0 => ?_⟩
  dsimp only [gName]
  refine seq_at ?_
  refine for_at (B := H) (n := (is.map iV).length) (item := nth (is.map iV)) (fun P q => w_seq rfl hx (Evl.Ex.new hP0) q) (fun k σ' H' => ∃ (fs : List Nat) (p : Addr) (s3 s4 s5 : Option V), σ' = [some (.ref a0), some (.ref p0), some (.ref p), s3, s4, s5] ∧ Ex H H' ∧ H' p = some (.lst (fs.map iV)) ∧ fs.Nodup ∧ (∀ x ∈ fs, x < n) ∧ ∀ x, x ∈ fs ↔ ((is.take k).any fun i => is.any fun j => (wy Fs i j).contains x) = true) ?_ ?_ ?_ ?_
  · exact fun H1 e1 => ⟨[], P0, _, _, _, rfl, (Evl.Ex.new hP0).trans e1, e1 _ _ upd_same, by simp, by simp, by simp⟩
  · rintro k σ' H' ⟨_, _, _, _, _, _, e, _⟩; exact e
  · rintro k σ' H' hk ⟨fs, p, s3, s4, s5, rfl, e, hp, nd, fl, mem⟩
    rw [List.length_map] at hk
    obtain ⟨i, hi⟩ : ∃ i, is[k]? = some i := ⟨_, List.getElem?_eq_getElem hk⟩
    have li := hlt i (List.mem_of_getElem? hi)
    rw [nthi hi]
    dsimp only [gName]
    refine for_at (B := H) (n := (is.map iV).length) (item := nth (is.map iV)) (fun P q => w_seq rfl hx e q) (fun k2 σ' H' => ∃ (fs : List Nat) (p : Addr) (s4 s5 : Option V), σ' = [some (.ref a0), some (.ref p0), some (.ref p), some (iV i), s4, s5] ∧ Ex H H' ∧ H' p = some (.lst (fs.map iV)) ∧ fs.Nodup ∧ (∀ x ∈ fs, x < n) ∧ ∀ x, x ∈ fs ↔ (((is.take k).any fun i => is.any fun j => (wy Fs i j).contains x) || (is.take k2).any fun j => (wy Fs i j).contains x) = true) ?_ ?_ ?_ ?_
    · exact fun H1 e1 => ⟨fs, p, _, _, rfl, e.trans e1, e1 _ _ hp, nd, fl, by simpa using mem⟩
    · rintro k σ' H' ⟨_, _, _, _, _, e, _⟩; exact e
    · rintro k2 σ' H5 hk2 ⟨gs, p2, s4', s5', rfl, e5, hp5, nd5, fl5, mem5⟩
      rw [List.length_map] at hk2
      obtain ⟨j, hj⟩ : ∃ j, is[k2]? = some j := ⟨_, List.getElem?_eq_getElem hk2⟩
      have lj := hlt j (List.mem_of_getElem? hj)
      rw [nthi hj]
      obtain ⟨A, ws, g1, g2, g3⟩ := hwi i li
      obtain ⟨t, k1, kt⟩ := g3 j lj
      obtain ⟨ndw, ltw⟩ := ok i j li lj
      dsimp only [gName]
      refine asg_at ?_
      have wl : (wy Fs i j).length ≤ n := nodup_len ndw ltw
      have gl : gs.length ≤ n := nodup_len nd5 fl5
      have st := SqT.of (K := K) (e5 _ _ kt)
      refine ⟨_, rfl, ?_⟩
      refine lc_at (n := ((wy Fs i j).map iV).length) (item := nth ((wy Fs i j).map iV)) (fun z => (fun h => !gs.contains h) ((wy Fs i j)[z]?.getD 0)) (fun z D y H' => y = iV ((wy Fs i j)[z]?.getD 0)) (line_big (by rw [List.length_map]; omega))
        (fun P q => ⟨_, rfl, _, rfl, a0, vs, _, _, rfl, rfl, SqL.of (e5 _ _ ha0), atI_nat g1, _, rfl, A, ws, _, _, rfl, rfl, SqL.of (e5 _ _ g2), atI_nat k1, t, rfl, ⟨_, st⟩, q _ _ (Evl.Ex.refl _) (its_t st)⟩) (fun _ _ _ _ _ _ h => h) (fun _ _ _ _ _ _ h => h) ?_ ?_
      · rintro z D H6 hz hD e6 ⟨ac, hac⟩ Ny Nn hy hn
        rw [List.length_map] at hz
        have ez : nth ((wy Fs i j).map iV) z = iV ((wy Fs i j)[z]?.getD 0) := by
          unfold nth; rw [List.getElem?_map, List.getElem?_eq_getElem hz]; rfl
        rw [ez]
        generalize (wy Fs i j)[z]?.getD 0 = x' at hy hn ⊢
        refine ⟨rfl, _, rfl, _, rfl, p2, _, rfl, .inl (SqL.of (e6 _ _ hp5)), rfl, flat_iV _, _, rfl, ?_⟩
        have c1 : (if true = true then !inV (iV x') (gs.map iV) else inV (iV x') (gs.map iV)) = !gs.contains x' := by rw [if_pos rfl, inV_iff]
        rw [c1]
        cases b1 : gs.contains x' with
        | true => refine iteF ?_; exact hn _ (by show (!gs.contains x') = _; rw [b1]; rfl) (Evl.Ex.refl _)
        | false => refine iteT ?_; exact ⟨_, rfl, hy _ _ (by show (!gs.contains x') = _; rw [b1]; rfl) (Evl.Ex.refl _) rfl⟩
      · intro D ys H6 hD e6 hd6 f6
        have e1 := F2.map_eq (f := fun z => iV ((wy Fs i j)[z]?.getD 0)) f6
        have e2 : ys = ((wy Fs i j).filter fun h => !gs.contains h).map iV := by
          rw [e1, List.length_map, ← filter_nth (wy Fs i j), List.map_map]; rfl
        subst e2
        have fll : ((wy Fs i j).filter fun h => !gs.contains h).length ≤ n := Nat.le_trans (List.length_filter_le _ _) wl
        refine ⟨p2, D, _, _, rfl, rfl, e6 _ _ hp5, hd6, by rw [List.length_map, List.length_map, sizeLine_eq]; omega, fun p3 hp3 => ?_⟩
        refine ⟨gs ++ (wy Fs i j).filter fun h => !gs.contains h, p3, _, _, rfl, (e5.trans e6).trans (Evl.Ex.new hp3), by rw [upd_same, List.map_append], ?_, ?_, ?_⟩
        · rw [List.nodup_append]
          refine ⟨nd5, ndw.filter _, fun x hx y hy e => ?_⟩
          subst e
          have := (List.mem_filter.mp hy).2
          simp [hx] at this
        · intro x hx
          rcases List.mem_append.mp hx with h | h
          · exact fl5 x h
          · exact ltw x (List.mem_filter.mp h).1
        · intro x
          rw [List.mem_append, take_snoc' hj, List.any_append, ← Bool.or_assoc, Bool.or_eq_true, ← mem5, List.mem_filter]
          by_cases hg : x ∈ gs
          · simp [hg]
          · simp [hg]
    · rintro σ' H5 ⟨gs, p2, s4', s5', rfl, e5, hp5, nd5, fl5, mem5⟩
      rw [List.length_map, List.take_length] at mem5
      refine ⟨gs, p2, _, _, _, rfl, e5, hp5, nd5, fl5, fun x => ?_⟩
      rw [mem5, take_snoc' hi, List.any_append]; simp
  · rintro σ' H' ⟨fs, p, s3, s4, s5, rfl, e, hp, nd, fl, mem⟩
    rw [List.length_map, List.take_length] at mem
    dsimp only
    refine ret_at ?_
    refine ⟨_, rfl, p, fs.map fun x : Nat => (x : Int), rfl, SqL.of (by rw [hp, List.map_map]; rfl), fun ns' l pm so hl => ?_⟩
    have as : ns'.Pairwise (· < ·) := by
      have nd' : ns'.Nodup := (pm.nodup_iff).mpr (by
        rw [List.Nodup, List.pairwise_map]
        exact nd.imp fun h z => h (by omega))
      exact so.imp₂ (fun a b h1 h2 => by omega) nd'
    have e2 := sorted_is (n := n) (p := spanN Fs is) as fun z => by
      rw [pm.mem_iff, List.mem_map]
      constructor
      · rintro ⟨x, hx, rfl⟩; exact ⟨x, rfl, fl x hx, (mem x).mp hx⟩
      · rintro ⟨x, rfl, _, hx⟩; exact ⟨x, (mem x).mpr hx, rfl⟩
    refine q l _ (e.trans (Evl.Ex.new hl)) (Evl.fresh_back e hl) ?_
    rw [upd_same, e2, List.map_map]; rfl
end

end T1

namespace T1
open PySem PySem.Spec PyProof.Rows L2 G
open Evl (Ex)
local macro_rules | `(tactic| walk_at "dd") => `(tactic| (dsimp only [tCB, tCons, tNil, tC, tOp, tUn, tTest, tB, tVar, tAndV, tOrV, tNotV, tIf, tAnd, tOr, tNot, tSeq, tRet, tRetN, tIfS, tAsg, gName, tDrop, tTup, tLst, tChain, tNext, tCall, L2.start]))
def sp_Store___init__ (K : PySem.W.Frag) : Sp := sp4 fun a b c d H Q E => ∃ H0 s dx t n rs Fs, a = .ref s ∧ Ex H0 H ∧ H0 s = none ∧ H s = some (.ins (He.ga K "Store") dx []) ∧ b = .ref t ∧ TreeAt K H0 t n rs Fs ∧ Dq K H0 c (.list []) ∧ d = .non ∧
  ∀ r1 r2 H', Ex H0 H' → H' s = some (.ins (He.ga K "Store") dx [("tree", .ref t), ("homes", r1), ("cells", r2)]) → Q .non H'
section
variable {K : PySem.W.Frag} {mg : Str → Option Value} {P : Program} {w : World} {base : Heap}
theorem ok_Store___init__ (T : Tx K mg) : ∃ fd, FunD K "__init__" "Store.__init__" (defArgs st_Store___init__) (defBody st_Store___init__) (defScope st_Store___init__) [] [("cells", .non)] (He.ma K (He.ga K "Store") "__init__") fd ∧ FG P w K mg base (L2.CX P w) 4 (He.ma K (He.ga K "Store") "__init__") fd ["self", "tree", "homes", "cells"] (sp_Store___init__ K) := by
  obtain ⟨fd, F⟩ := fD_Store___init__ T
  refine ⟨fd, F, fg_of F sc_Store___init__ (fun vs H Q E h => len4 h) (fun cdv A outer s H vs Q E hr h => ?_)⟩
  obtain ⟨a, b, c, d, rfl, h⟩ := h
  refine ⟨_, (pss_cons (ps_if (PW.pt (pw_or (pt_not (pt_val (pe_c (ok_are_indices T) (hr.mono (by decide)) rfl pass0 (pa_cons (pv 2) (pa_cons (pe_callB (tree_len (K := K) T (hr.mono (by decide))) (by rfl) (T.free 7 rfl) (by decide +kernel) (pa_cons (pv 1) pa_nil)) pa_nil))))) (pw_or1 (pt_cmpR op_gt (pe_callB (call_lenK (K := K)) (by rfl) (T.free 7 rfl) (by decide +kernel) (pa_cons (pv 2) pa_nil)) (pe_glob (v := .int 12) rfl (T.con_MOST_WRITES).choose_spec ⟨_, rfl⟩) (nomark _))))) (pss_one (ps_raise rfl (takes_of rfl rfl rfl rfl) (pmk_InvalidHomes T hr rfl (pa_cons (pv 2) pa_nil)))) pss_nil)
      (pss_cons (ps_if (PW.pt (pw_and (pt_cmpR op_notN (pv 3) pe_non (nomark _)) (pw_and1 (PW.pt (pw_or (pt_not (pt_val (pe_c (ok_are_indices T) (hr.mono (by decide)) rfl pass0 (pa_cons (pv 3) (pa_cons (pe_glob (v := .int 6) rfl (T.con_CELLS).choose_spec ⟨_, rfl⟩) pa_nil))))) (pw_or1 (pt_cmpR op_ne (pe_callB (call_lenK (K := K)) (by rfl) (T.free 7 rfl) (by decide +kernel) (pa_cons (pv 3) pa_nil)) (pe_callB (call_lenK (K := K)) (by rfl) (T.free 7 rfl) (by decide +kernel) (pa_cons (pv 2) pa_nil)) (nomark _)))))))) (pss_one (ps_raise rfl (takes_of rfl rfl rfl rfl) (pmk_InvalidCells T hr rfl (pa_cons (pv 3) pa_nil)))) pss_nil)
      (pss_cons (ps_fld (pv 0) (pv 1) rfl)
      (pss_cons (ps_fld (pv 0) (pe_callTy (call_tupK (K := K)) (by rfl) (T.free 15 rfl) (by decide +kernel) (pa_cons (pv 2) pa_nil)) rfl)
      (pss_one (ps_fld (pv 0) (pe_ifExp (pt_cmpR op_isN (pv 3) pe_non (nomark _)) (pe_op (op_rep0 (K := K)) (pe_tup (pa_cons pe_int pa_nil)) (pe_callB (call_lenK (K := K)) (by rfl) (T.free 7 rfl) (by decide +kernel) (pa_cons (pv 2) pa_nil))) (pe_callTy (call_tupK (K := K)) (by rfl) (T.free 15 rfl) (by decide +kernel) (pa_cons (pv 3) pa_nil))) rfl)))))), ?_⟩
  obtain ⟨H0, s0, dx, t, n, rs, Fs, rfl, e0, hs0, hs, rfl, tr, hd, rfl, q⟩ := h
  refine seq_at ?_
  have n16 := tr.n16
  obtain ⟨p, rfl, hp⟩ : ∃ p, c = .ref p ∧ SqL K H0 p [] := by
    cases hd with
    | lst h hs => cases hs; exact ⟨_, rfl, h⟩
  refine ⟨_, rfl, _, rfl, t, rfl, tr.ins.mono e0, _, rfl, t, n, rs, Fs, rfl, tr.mono e0, n, rfl, ⟨by omega, by omega⟩, _, _, rfl, .list [], n, hd.mono e0, rfl, by simp [items], fun H1 e1 => ⟨_, rfl, ?_⟩⟩
  have e01 := e0.trans e1
  refine iteF ?_
  refine ⟨_, rfl, p, [], rfl, .inl (Evl.ex_l e01 hp), _, _, rfl, rfl, _, rfl, iteF ?_⟩
  dsimp only [tNext]
  refine seq_at ?_
  refine ⟨_, rfl, rfl, _, rfl, iteF (iteF ?_)⟩
  dsimp only [tNext]
  refine seq_at ?_
  refine ⟨_, rfl, _, rfl, s0, _, dx, [], rfl, e1 _ _ hs, cl_Store T, no_Store_tree T, by decide, ?_⟩
  have e02 := Evl.Ex.mut (o := .ins (He.ga K "Store") dx (putF "tree" (.ref t) [])) e01 hs0
  dsimp only
  refine seq_at (fld_at (cb_at ⟨_, rfl, ?_⟩))
  refine tup_any (.inl (Evl.ex_l e02 hp)) .nil fun r1 H2 e2 _ => ?_
  have g2 := e2 _ _ (upd_same (H := H1) (a := s0) (o := .ins (He.ga K "Store") dx (putF "tree" (.ref t) [])))
  refine ⟨_, rfl, s0, _, dx, _, rfl, g2, cl_Store T, no_Store_homes T, (by show 1 < 1000; decide), ?_⟩
  have e03 := Evl.Ex.mut (o := .ins (He.ga K "Store") dx (putF "homes" r1 (putF "tree" (.ref t) []))) (e02.trans e2) hs0
  dsimp only
  refine fld_at ?_
  refine ⟨_, rfl, rfl, _, rfl, iteT ?_⟩
  refine ⟨(by show 1 ≤ sizeLine; decide), fun z hz => ?_⟩
  have hg := upd_same (H := H2) (a := s0) (o := .ins (He.ga K "Store") dx (putF "homes" r1 (putF "tree" (.ref t) [])))
  have ez := Evl.Ex.new (o := .tup [.int 0]) hz
  refine ⟨_, rfl, p, [], rfl, .inl (Evl.ex_l (e03.trans ez) hp), z, [.int 0], rfl, rfl, SqT.of upd_same, by simp, fun w hw => ?_⟩
  have ew := ez.trans (Evl.Ex.new (o := .tup []) hw)
  exact ⟨_, rfl, s0, _, dx, _, rfl, ew _ _ hg, cl_Store T, no_Store_cells T, (by show 2 < 1000; decide), q r1 (.ref w) _ (Evl.Ex.mut (e03.trans ew) hs0) upd_same⟩
end

end T1

namespace T1
open PySem PySem.Spec PyProof.Rows L2 G
open Evl (Ex)
local macro_rules | `(tactic| walk_at "dd") => `(tactic| (dsimp only [tCB, tCons, tNil, tC, tOp, tUn, tTest, tB, tVar, tAndV, tOrV, tNotV, tIf, tAnd, tOr, tNot, tSeq, tRet, tRetN, tIfS, tAsg, gName, tDrop, tTup, tLst, tChain, tNext, tCall, L2.start]))
section
variable {X : Cx} {K : PySem.W.Frag}
theorem tree_eq (T : Tx X.K X.mg) (hr : RG 1 X.A) (h : X.K = K := by rfl) : OpR X (compareOp .Eq) (rCmpO K (He.ga K "Tree") false (sp_Tree___eq__ K) E0) := by
  subst h
  obtain ⟨fd, F, G⟩ := ok_Tree___eq__ (P := X.prog) (w := X.w) (base := X.base) T
  exact op_eqO ⟨(me_Tree___eq__ T).at_, (me_Tree___eq__ T).fn.symm⟩ G hr (F.bindsN fun _ _ _ _ _ _ us hl => match us, hl with | [_, _], _ => rfl) pass0
theorem tree_ne (T : Tx X.K X.mg) (hr : RG 2 X.A) (h : X.K = K := by rfl) : OpR X (compareOp .NotEq) (rCmpO K (He.ga K "Tree") true (sp_Tree___eq__ K) E0) := by
  subst h
  obtain ⟨fd, F, G⟩ := ok_Tree___eq__ (P := X.prog) (w := X.w) (base := X.base) T
  exact op_neO ⟨(me_Tree___eq__ T).at_, (me_Tree___eq__ T).fn.symm⟩ (T.own 0 rfl).ne (T.own 0 rfl).hm G hr (F.bindsN fun _ _ _ _ _ _ us hl => match us, hl with | [_, _], _ => rfl) pass0
end
def sp_Store___eq__ (K : PySem.W.Frag) : Sp := sp2 fun a b H Q E => ∃ s t, a = .ref s ∧ InsAt (He.ga K "Store") s H ∧ b = .ref t ∧ InsAt (He.ga K "Tree") t H ∧ Q (.bl false) H
section
variable {K : PySem.W.Frag} {mg : Str → Option Value} {P : Program} {w : World} {base : Heap}
theorem ok_Store___eq__ (T : Tx K mg) : ∃ fd, FunD K "__eq__" "Store.__eq__" (defArgs st_Store___eq__) (defBody st_Store___eq__) (defScope st_Store___eq__) [] [] (He.ma K (He.ga K "Store") "__eq__") fd ∧ FG P w K mg base CX0 3 (He.ma K (He.ga K "Store") "__eq__") fd ["self", "other"] (sp_Store___eq__ K) := by
  obtain ⟨fd, F⟩ := fD_Store___eq__ T
  refine ⟨fd, F, fg_of F sc_Store___eq__ (fun vs H Q E h => len2 h) (fun cdv A outer s H vs Q E hr h => ?_)⟩
  obtain ⟨a, b, rfl, h⟩ := h
  refine ⟨_, (PSs.nox (pss_cons (ps_if (PW.pt (pw_or (pt_not (pt_val (pe_callB (call_isiK' (K := K)) (by rfl) (T.free 6 rfl) (by decide +kernel) (pa_cons (pv 1) (pa_cons (pe_glob (v := .ref (He.ga K "Store")) rfl (T.glo 10 rfl) rfl) pa_nil))))) (pw_or1 (pt_cmpR (tree_ne (K := K) T (hr.mono (by decide))) (pe_fldK (K := K) (pv 0)) (pe_fldK (K := K) (pv 1)) (nomark _))))) (pss_one (ps_ret pe_bl)) pss_nil)
      (pss_one (ps_ret (pe_and (pe_cmpR (op_eqDK (K := K) (hu64 hr.r)) (pe_fldK (K := K) (pv 0)) (pe_fldK (K := K) (pv 1)) (nomark _)) (pe_one (pe_cmpR (op_eqDK (K := K) (hu64 hr.r)) (pe_fldK (K := K) (pv 0)) (pe_fldK (K := K) (pv 1)) (nomark _)))))))), ?_⟩
  obtain ⟨s0, t, rfl, hs, rfl, ht, q⟩ := h
  refine seq_at ?_
  refine ⟨_, rfl, ?_⟩
  walk_at "dd"
  refine isi_own_o (y := "Tree") (T.own 1 rfl) (T.own 0 rfl) (cl_Tree T) (by decide) ht ⟨_, rfl, ?_⟩
  exact q
end

end T1

namespace T1
open PySem PySem.Spec PyProof.Rows L2 G
open Evl (Ex)
local macro_rules | `(tactic| walk_at "dd") => `(tactic| (dsimp only [tCB, tCons, tNil, tC, tOp, tUn, tTest, tB, tVar, tAndV, tOrV, tNotV, tIf, tAnd, tOr, tNot, tSeq, tRet, tRetN, tIfS, tAsg, gName, tDrop, tTup, tLst, tChain, tNext, tCall, L2.start]))
open M (at_)
theorem mem_nbs {rs : List (Nat × Nat)} {n a x : Nat} : x ∈ at_ (nbs n rs) a ↔ a < n ∧ x < n ∧ adj rs a x = true := by
  refine ⟨nbs_at, fun ⟨h1, h2, h3⟩ => ?_⟩
  unfold M.at_ nbs
  rw [List.getElem?_map, List.getElem?_range h1]
  show x ∈ nb rs n a
  unfold nb
  rw [List.mem_filter, List.mem_range]
  exact ⟨h2, h3⟩
theorem adj_sym {rs : List (Nat × Nat)} {a x : Nat} (h : adj rs a x = true) : adj rs x a = true := by
  unfold adj at *
  rw [Bool.or_comm]; exact h
theorem nbs_len {rs : List (Nat × Nat)} {n : Nat} : (nbs n rs).length = n := by unfold nbs; rw [List.length_map, List.length_range]
/-- what the ways between houses are like in a tree -/
structure TreeG (n : Nat) (rs : List (Nat × Nat)) : Prop where
  sym : ∀ a b, b ∈ at_ (nbs n rs) a → a ∈ at_ (nbs n rs) b
  one : M.OneWay (nbs n rs)
  con : ∀ x y, x < n → y < n → ∃ p, M.Path (nbs n rs) x y p
theorem edge_mem {x y u v : Nat} : edge x y = (u, v) ∨ edge x y = (v, u) ↔ (x = u ∧ y = v) ∨ (x = v ∧ y = u) := by
  unfold edge
  split <;> simp only [Prod.mk.injEq] <;> omega
theorem grown_adj {n : Nat} {rs : List (Nat × Nat)} {ns : List Nat} {b : Nat → Nat} (pe : rs.Perm ((List.range (n - 1)).map fun k => edge (ns[k + 1]?.getD 0) (ns[b (k + 1)]?.getD 0))) {u v : Nat} :
    adj rs u v = true ↔ ∃ k, k + 1 < n ∧ ((ns[k + 1]?.getD 0 = u ∧ ns[b (k + 1)]?.getD 0 = v) ∨ (ns[k + 1]?.getD 0 = v ∧ ns[b (k + 1)]?.getD 0 = u)) := by
  unfold adj
  rw [Bool.or_eq_true, List.contains_iff_mem, List.contains_iff_mem, pe.mem_iff, pe.mem_iff, List.mem_map, List.mem_map]
  constructor
  · rintro (⟨k, hk, e⟩ | ⟨k, hk, e⟩)
    · exact ⟨k, by have := List.mem_range.mp hk; omega, edge_mem.mp (.inl e)⟩
    · exact ⟨k, by have := List.mem_range.mp hk; omega, edge_mem.mp (.inr e)⟩
  · rintro ⟨k, hk, e⟩
    rcases edge_mem.mpr e with e | e
    · exact .inl ⟨k, List.mem_range.mpr (by omega), e⟩
    · exact .inr ⟨k, List.mem_range.mpr (by omega), e⟩
theorem TreeG.of {n : Nat} {rs : List (Nat × Nat)} (g : Grown n rs) : TreeG n rs := by
  obtain ⟨ns, b, pm, hb, pe⟩ := g
  have nd : ns.Nodup := pm.nodup_iff.mpr List.nodup_range
  have ln : ns.length = n := by rw [pm.length_eq, List.length_range]
  have at_k : ∀ k, k < n → ns[k]? = some (ns[k]?.getD 0) := fun k hk => by rw [List.getElem?_eq_getElem (by omega)]; rfl
  have rank : ∀ k, k < n → ns.idxOf (ns[k]?.getD 0) = k := fun k hk => by
    have hk' : k < ns.length := by omega
    rw [List.getElem?_eq_getElem hk']
    exact nd.idxOf_getElem k hk'
  have ed : ∀ {u v}, v ∈ at_ (nbs n rs) u → ∃ k, k + 1 < n ∧ b (k + 1) < k + 1 ∧ ((ns[k + 1]?.getD 0 = u ∧ ns[b (k + 1)]?.getD 0 = v ∧ ns.idxOf u = k + 1 ∧ ns.idxOf v = b (k + 1)) ∨ (ns[k + 1]?.getD 0 = v ∧ ns[b (k + 1)]?.getD 0 = u ∧ ns.idxOf v = k + 1 ∧ ns.idxOf u = b (k + 1))) := fun {u v} h => by
    obtain ⟨k, hk, e⟩ := (grown_adj pe).mp (mem_nbs.mp h).2.2
    have lb := hb (k + 1) (by omega) hk
    have r1 := rank (k + 1) hk
    have r2 := rank (b (k + 1)) (by omega)
    refine ⟨k, hk, lb, ?_⟩
    rcases e with ⟨e1, e2⟩ | ⟨e1, e2⟩
    · rw [e1] at r1; rw [e2] at r2; exact .inl ⟨e1, e2, r1, r2⟩
    · rw [e1] at r1; rw [e2] at r2; exact .inr ⟨e1, e2, r1, r2⟩
  have sym : ∀ a c, c ∈ at_ (nbs n rs) a → a ∈ at_ (nbs n rs) c := fun a c h => by
    obtain ⟨h1, h2, h3⟩ := mem_nbs.mp h
    exact mem_nbs.mpr ⟨h2, h1, adj_sym h3⟩
  have R : M.Ranked (nbs n rs) ns.idxOf := by
    refine ⟨sym, fun a c h => ?_, fun a c d h1 h2 l1 l2 => ?_⟩
    · obtain ⟨k, _, _, ⟨_, _, e1, e2⟩ | ⟨_, _, e1, e2⟩⟩ := ed h <;> omega
    · obtain ⟨k, _, _, ⟨p1, p2, e1, e2⟩ | ⟨_, _, e1, e2⟩⟩ := ed h1
      · obtain ⟨k', _, _, ⟨q1, q2, f1, f2⟩ | ⟨_, _, f1, f2⟩⟩ := ed h2
        · have : k = k' := by omega
          subst this
          exact p2.symm.trans q2
        · omega
      · omega
  have mem_n : ∀ x, x < n → ∃ k, k < n ∧ ns[k]?.getD 0 = x := fun x hx => by
    obtain ⟨k, hk, e⟩ := List.getElem_of_mem (pm.mem_iff.mpr (List.mem_range.mpr hx))
    exact ⟨k, by omega, by rw [List.getElem?_eq_getElem hk, e]; rfl⟩
  have lt_n : ∀ k, k < n → ns[k]?.getD 0 < n := fun k hk => List.mem_range.mp (pm.mem_iff.mp (List.mem_of_getElem? (at_k k hk)))
  have root : ∀ k, k < n → ∃ p, M.Walk (nbs n rs) (ns[0]?.getD 0) (ns[k]?.getD 0) p := by
    intro k
    induction k using Nat.strongRecOn with
    | _ k ih =>
      intro hk
      cases k with
      | zero => exact ⟨_, .one _⟩
      | succ k =>
        have lb := hb (k + 1) (by omega) hk
        obtain ⟨p, w⟩ := ih (b (k + 1)) lb (by omega)
        have e : ns[k + 1]?.getD 0 ∈ at_ (nbs n rs) (ns[b (k + 1)]?.getD 0) := mem_nbs.mpr ⟨lt_n _ (by omega), lt_n _ hk, (grown_adj pe).mpr ⟨k, hk, .inr ⟨rfl, rfl⟩⟩⟩
        obtain ⟨z, wz, _⟩ := w.join (.cons e (.one _))
        exact ⟨z, wz⟩
  refine ⟨sym, R.oneWay, fun x y hx hy => ?_⟩
  obtain ⟨i, hi, rfl⟩ := mem_n x hx
  obtain ⟨j, hj, rfl⟩ := mem_n y hy
  obtain ⟨p, wp⟩ := root i hi
  obtain ⟨q, wq⟩ := root j hj
  obtain ⟨p', P, _⟩ := wp.path
  obtain ⟨z, wz, _⟩ := (P.rev sym).walk.join wq
  obtain ⟨r, Rp, _⟩ := wz.path
  exact ⟨r, Rp⟩
/-- ways from each house -/
structure WaysOk (n : Nat) (rs : List (Nat × Nat)) (Fs : List (List (List Nat))) : Prop where
  fl : Fs.length = n
  fw : ∀ h F, Fs[h]? = some F → M.Ways (nbs n rs) h F
section
variable {n : Nat} {rs : List (Nat × Nat)} {Fs Gs : List (List (List Nat))}
theorem WaysOk.at_ (W : WaysOk n rs Fs) {i : Nat} (hi : i < n) : ∃ F, Fs[i]? = some F ∧ M.Ways (nbs n rs) i F ∧ ∀ j, wy Fs i j = M.at_ F j := by
  have e : Fs[i]? = some (Fs[i]'(by rw [W.fl]; exact hi)) := List.getElem?_eq_getElem _
  exact ⟨_, e, W.fw i _ e, fun j => by unfold wy; rw [e]; rfl⟩
theorem WaysOk.path (W : WaysOk n rs Fs) (T : TreeG n rs) {i j : Nat} (hi : i < n) (hj : j < n) : M.Path (nbs n rs) i j (wy Fs i j) := by
  obtain ⟨F, e, w, ew⟩ := W.at_ hi
  obtain ⟨p, P⟩ := T.con i j hi hj
  rw [ew]
  exact w.pa j (w.reach P)
theorem WaysOk.eq (W : WaysOk n rs Fs) (W' : WaysOk n rs Gs) (T : TreeG n rs) : Fs = Gs := by
  refine List.ext_getElem (by rw [W.fl, W'.fl]) fun i h1 h2 => ?_
  exact (W.fw i _ (List.getElem?_eq_getElem h1)).eq T.one (W'.fw i _ (List.getElem?_eq_getElem h2))
/-- neighbours are the houses with a way of two -/
theorem WaysOk.two (W : WaysOk n rs Fs) (T : TreeG n rs) {i j : Nat} (hi : i < n) (hj : j < n) (ir : ∀ a b, b ∈ M.at_ (nbs n rs) a → a ≠ b) : adj rs i j = decide ((wy Fs i j).length = 2) := by
  have P := W.path T hi hj
  refine Bool.eq_iff_iff.mpr ⟨?_, ?_⟩ <;> rw [decide_eq_true_eq]
  · intro a
    have m : j ∈ M.at_ (nbs n rs) i := mem_nbs.mpr ⟨hi, hj, a⟩
    have Q : M.Path (nbs n rs) i j [i, j] := (M.Path.one (nbs n rs) j).cons m (by simpa using ir i j m)
    rw [T.one _ _ _ _ P Q]; rfl
  · intro l
    rcases P.uncons with ⟨e, _⟩ | ⟨b, q, e, P', m, _⟩
    · rw [e] at l; simp at l
    · rw [e] at l
      rcases P'.uncons with ⟨e', rfl⟩ | ⟨c, q', e', P'', _, _⟩
      · exact (mem_nbs.mp m).2.2
      · rw [e'] at l
        have := P''.ne
        cases q' with
        | nil => exact absurd rfl this
        | cons x y => simp at l
theorem Good.ir (G : Good n rs) : ∀ a b, b ∈ M.at_ (nbs n rs) a → a ≠ b := fun a b h e => by
  subst e
  have z := (mem_nbs.mp h).2.2
  unfold adj at z
  rw [Bool.or_self, List.contains_iff_mem] at z
  have := (G.lt _ z).1
  simp at this
theorem WaysOk.nb (W : WaysOk n rs Fs) (T : TreeG n rs) (G : Good n rs) {i : Nat} (hi : i < n) : nb rs n i = (List.range n).filter fun j => decide ((wy Fs i j).length = 2) := by
  unfold T1.nb
  exact List.filter_congr fun j hj => W.two T hi (List.mem_range.mp hj) G.ir
theorem WaysOk.mids (W : WaysOk n rs Fs) (T : TreeG n rs) {i j k : Nat} (hi : i < n) (hj : j < n) (hk : k < n) : ∃ x l, mids Fs i j k = x :: l := by
  obtain ⟨x, h1, h2, h3⟩ := T.one.median T.sym (W.path T hi hj) (W.path T hj hk) (W.path T hi hk)
  have m : x ∈ T1.mids Fs i j k := by
    unfold T1.mids
    rw [List.mem_filter]
    simp [h1, h2, h3]
  cases e : T1.mids Fs i j k with
  | nil => rw [e] at m; cases m
  | cons y l => exact ⟨y, l, rfl⟩
theorem WaysOk.span (W : WaysOk n rs Fs) (T : TreeG n rs) {is : List Nat} (h : ∀ i ∈ is, i < n) : (List.range n).filter (fun x => is.any fun o => (wy Fs (is.headD 0) o).contains x) = (List.range n).filter (spanN Fs is) := by
  refine List.filter_congr ?_
  intro x _
  unfold spanN
  cases is with
  | nil => rfl
  | cons a is =>
    have ha := h a List.mem_cons_self
    rw [Bool.eq_iff_iff]
    simp only [List.any_eq_true, List.headD_cons, List.contains_iff_mem]
    constructor
    · rintro ⟨o, ho, m⟩
      exact ⟨a, List.mem_cons_self, o, ho, m⟩
    · rintro ⟨i, hi, j, hj, m⟩
      rcases T.one.between T.sym (W.path T ha (h i hi)) (W.path T ha (h j hj)) (W.path T (h i hi) (h j hj)) x m with z | z
      · exact ⟨i, hi, z⟩
      · exact ⟨j, hj, z⟩
end
theorem TreeAt.ways {K : PySem.W.Frag} {H : Hp} {s : Addr} {n : Nat} {rs Fs} (t : TreeAt K H s n rs Fs) : WaysOk n rs Fs := ⟨t.fl, t.fw⟩

end T1

namespace T1
open PySem PySem.Spec PyProof.Rows L2 G
open Evl (Ex)
local macro_rules | `(tactic| walk_at "dd") => `(tactic| (dsimp only [tCB, tCons, tNil, tC, tOp, tUn, tTest, tB, tVar, tAndV, tOrV, tNotV, tIf, tAnd, tOr, tNot, tSeq, tRet, tRetN, tIfS, tAsg, gName, tDrop, tTup, tLst, tChain, tNext, tCall, L2.start]))
/-- what of H' is new since H -/
def fresh (H H' : Hp) : Hp := fun a => match H a with
  | none => H' a
  | some _ => none
theorem fresh_get {H H' : Hp} {a : Addr} {o : HO} (n : H a = none) (h : H' a = some o) : fresh H H' a = some o := by
  unfold fresh; rw [n]; exact h
theorem fresh_ex {H H' : Hp} : Ex (fresh H H') H' := fun a o h => by
  unfold fresh at h
  split at h
  · exact h
  · cases h
theorem fresh_del {H H' : Hp} {L : Addr} (n : H L ≠ none) : Ex (fresh H H') (L2.del H' L) := fun a o h => by
  have ne : a ≠ L := by
    rintro rfl
    unfold fresh at h
    split at h
    · rename_i z; exact n z
    · cases h
  rw [del_ne ne]
  exact fresh_ex a o h
/-- if it is a pair of ints it stands there as a tuple made in the run -/
def Trk (H : Hp) (v : V) (d : PyData) : Prop := ∀ a b, d = .tuple [.int a, .int b] → ∃ t, v = .ref t ∧ H t = some (.tup [.int a, .int b])
theorem Trk.no {H : Hp} {v : V} {d : PyData} (h : ∀ a b, d ≠ .tuple [.int a, .int b]) : Trk H v d := fun a b e => absurd e (h a b)
theorem Trk.two {K : PySem.W.Frag} {H : Hp} {t : Addr} {u v : V} {x y : PyData} (h : H t = some (.tup [u, v])) (hx : Dq K H u x) (hy : Dq K H v y) : Trk H (.ref t) (.tuple [x, y]) := fun a b e => by
  cases e
  cases hx
  cases hy
  exact ⟨t, rfl, h⟩
theorem Trk.mono {H H' : Hp} {v : V} {d : PyData} (e : Ex H H') (h : Trk H v d) : Trk H' v d := fun a b q => let ⟨t, h1, h2⟩ := h a b q; ⟨t, h1, e _ _ h2⟩
/-- what may stand in the place of a road -/
structure OddP (d : PyData) : Prop where
  sm : Small 400 4 d
  it : (items d).length ≤ 3
theorem small_pair {i j : Nat} (hi : i < 128) (hj : j < 128) : Small 400 4 (.tuple [.int (i : Int), .int (j : Int)]) := by
  refine (Small.tuple (w := 8) (p := 1) (ds := [.int (i : Int), .int (j : Int)]) fun d m => ?_).mono (by simp) (by decide)
  rcases List.mem_cons.mp m with rfl | m
  · exact Small.nat hi
  · rw [List.mem_singleton.mp m]; exact Small.nat hj
theorem fresh_mono {H H5 H6 : Hp} {A : Addr} (hA : H A ≠ none) (e : Ex (L2.del H5 A) H6) : Ex (fresh H H5) (fresh H H6) := fun a o h => by
  have n : H a = none := by
    cases z : H a with
    | none => rfl
    | some u => unfold fresh at h; rw [z] at h; cases h
  have ne : a ≠ A := by rintro rfl; exact hA n
  exact fresh_get n (e a o (by rw [del_ne ne]; exact fresh_ex a o h))
theorem fresh_up {H H5 H6 : Hp} (e : Ex H5 H6) : Ex (fresh H H5) (fresh H H6) := fun a o h => by
  have n : H a = none := by
    cases z : H a with
    | none => rfl
    | some u => unfold fresh at h; rw [z] at h; cases h
  exact fresh_get n (e a o (fresh_ex a o h))
theorem new_of {H Hx : Hp} {A t : Addr} {l : List V} (e : Ex (L2.del H A) Hx) (hA : Hx A = some (.lst l)) (n : Hx t = none) : H t = none := by
  have ne : t ≠ A := by rintro rfl; rw [hA] at n; cases n
  have z := Evl.fresh_back e n
  rwa [del_ne ne] at z
/-- one item of a displayed list is drawn -/
theorem pick_at {K : PySem.W.Frag} {H : Hp} {A L : Addr} {c : Nat} {vs : List V} {m : Int} {Q : VK} {E : XK} (hL : H L = some (.lst vs)) (ne : L ≠ A) (hb : BoxAt H A c) (m1 : 1 ≤ vs.length) (ml : vs.length ≤ 1000) (c9 : c ≤ 950000) (em : m = (vs.length : Int))
    (q : ∀ (j : Nat) v H', vs[j]? = some v → Ex (L2.del H A) H' → BoxAt H' A (c + 1) → Q v H') : sp__law_take K [.ref A, .int m] H (fun x H' => rIxL K (.ref L) x H' Q) E := by
  subst em
  refine ⟨_, _, rfl, A, vs.length, c, rfl, rfl, m1, by omega, by omega, hb, fun j H' hj e hb' => ?_⟩
  have hv : vs[j]? = some vs[j] := List.getElem?_eq_getElem hj
  exact ⟨L, _, _, _, rfl, rfl, SqL.of (del_get e ne hL), atI_nat hv, q j _ H' hv e hb'⟩
theorem odd_fin {K : PySem.W.Frag} {H H5 : Hp} {A L : Addr} {c : Nat} {vs : List V} {m : Int} {Q : VK} {E : XK} (hA : H A ≠ none) (e : Ex (L2.del H A) H5) (hL : H5 L = some (.lst vs)) (ne : L ≠ A) (hb : BoxAt H5 A (c + 1)) (m1 : 1 ≤ vs.length) (ml : vs.length ≤ 1000) (c9 : c + 1 ≤ 950000) (em : m = (vs.length : Int))
    (all : ∀ v ∈ vs, ∃ d, Dq K (fresh H H5) v d ∧ Trk (fresh H H5) v d ∧ OddP d) (q : ∀ v d H', Ex (L2.del H A) H' → BoxAt H' A (c + 3) → Dq K (fresh H H') v d → Trk (fresh H H') v d → OddP d → Q v H') : sp__law_take K [.ref A, .int m] H5 (fun x H' => rIxL K (.ref L) x H' Q) E := by
  refine pick_at hL ne hb m1 ml c9 em fun j v H' hv e' hb' => ?_
  obtain ⟨d, h1, h2, h3⟩ := all v (List.mem_of_getElem? hv)
  exact q v d H' (ex_of_del e del_same e') (hb'.up (by omega)) (h1.mono (fresh_mono hA e')) (h2.mono (fresh_mono hA e')) h3
theorem odd_ints {l : List Nat} (h : l.length ≤ 3) (lt : ∀ i ∈ l, i < 128) : OddP (.tuple (l.map intD)) := by
  refine ⟨(Small.tuple (w := 8) (p := 1) fun d m => ?_).mono (by rw [List.length_map]; omega) (by decide), by simpa [items] using h⟩
  obtain ⟨i, hi, rfl⟩ := List.mem_map.mp m
  exact Small.nat (lt i hi)
theorem oddB {d : PyData} (h : smallB 400 4 d = true) (h2 : (items d).length ≤ 3) : OddP d := ⟨smallB_ok h, h2⟩
theorem odd_two {x y : PyData} (hx : Small 100 2 x) (hy : Small 100 2 y) : OddP (.tuple [x, y]) := by
  refine ⟨(Small.tuple (w := 100) (p := 2) fun d m => ?_).mono (by simp) (by decide), by simp [items]⟩
  rcases List.mem_cons.mp m with rfl | m
  · exact hx
  · rw [List.mem_singleton.mp m]; exact hy
theorem n100 {k : Nat} (h : k < 128) : Small 100 2 (.int (k : Int)) := (Small.nat h).mono (by decide) (by decide)
theorem b100 {d : PyData} (h : smallB 100 2 d = true) : Small 100 2 d := smallB_ok h
def sp__law_odd_pair (K : PySem.W.Frag) : Sp := sp3 fun a b e H Q E => ∃ (A : Addr) (n c i j : Nat), a = .ref A ∧ Dq K H b (pairD (i, j)) ∧ e = .int (n : Int) ∧ i < n ∧ j < n ∧ 1 ≤ n ∧ n ≤ 16 ∧ c ≤ 900000 ∧ BoxAt H A c ∧
  ∀ v d H', Ex (L2.del H A) H' → BoxAt H' A (c + 3) → Dq K (fresh H H') v d → Trk (fresh H H') v d → OddP d → Q v H'
section
variable {K : PySem.W.Frag} {mg : Str → Option Value} {P : Program} {w : World} {base : Heap}
theorem ok__law_odd_pair (T : Tx K mg) : Cal P w K mg base CX0 2 "_law_odd_pair" ["_law_box_here", "_law_pair", "_law_many"] (sp__law_odd_pair K) := by
  refine cal_of (fD__law_odd_pair T) (T.glo 41 rfl) sc__law_odd_pair (fun _ _ _ _ _ _ us hl => match us, hl with | [_, _, _], _ => rfl) (fun vs H Q E h => len3 h) (fun f cdv A outer s H vs Q E hr h => ?_)
  obtain ⟨a, b, c, rfl, h⟩ := h
  refine ⟨_, (PSs.nox (pss_cons (ps_par3 (i := 3) (j := 4) (l := 5) rfl sc__law_odd_pair.nd rfl rfl rfl (by decide) (by decide) (by decide) rfl rfl rfl (pa_cons (pe_c (ok__law_take T) (hr.mono (by decide)) rfl pass0 (pa_cons (pv 0) (pa_cons pe_int pa_nil))) (pa_cons (pe_ix (ix_tupK (K := K)) (pv 1) pe_int (fun _ _ => rfl)) (pa_cons (pe_ix (ix_tupK (K := K)) (pv 1) pe_int (fun _ _ => rfl)) pa_nil))) (by rfl))
      (pss_cons (ps_if (pt_cmpR op_eq (pv 3) pe_int (nomark _)) (pss_one (ps_ret (pe_ix (ix_listK (K := K)) (pe_lst (pa_cons pe_non (pa_cons pe_str (pa_cons pe_int (pa_cons (pe_tup pa_nil) (pa_cons pe_dnewK (pa_cons (pe_lst (pa_cons (pv 4) (pa_cons (pv 5) pa_nil))) pa_nil))))))) (pe_c (ok__law_take T) (hr.mono (by decide)) rfl pass0 (pa_cons (pv 0) (pa_cons pe_int pa_nil))) (fun _ _ => rfl)))) pss_nil)
      (pss_cons (ps_if (pt_cmpR op_eq (pv 3) pe_int (nomark _)) (pss_one (ps_ret (pe_ix (ix_listK (K := K)) (pe_lst (pa_cons (pe_tup (pa_cons (pv 4) pa_nil)) (pa_cons (pe_tup (pa_cons (pv 4) (pa_cons (pv 5) (pa_cons pe_int pa_nil)))) (pa_cons (pe_tup (pa_cons (pe_tup (pa_cons (pv 4) (pa_cons (pv 5) pa_nil))) pa_nil)) (pa_cons (pe_tup (pa_cons (pv 4) (pa_cons (pv 5) (pa_cons (pv 5) pa_nil)))) pa_nil))))) (pe_c (ok__law_take T) (hr.mono (by decide)) rfl pass0 (pa_cons (pv 0) (pa_cons pe_int pa_nil))) (fun _ _ => rfl)))) pss_nil)
      (pss_cons (ps_if (pt_cmpR op_eq (pv 3) pe_int (nomark _)) (pss_one (ps_ret (pe_ix (ix_listK (K := K)) (pe_lst (pa_cons (pe_tup (pa_cons (pv 5) (pa_cons (pv 4) pa_nil))) (pa_cons (pe_tup (pa_cons (pv 4) (pa_cons (pv 4) pa_nil))) (pa_cons (pe_tup (pa_cons (pv 5) (pa_cons (pv 5) pa_nil))) pa_nil)))) (pe_c (ok__law_take T) (hr.mono (by decide)) rfl pass0 (pa_cons (pv 0) (pa_cons pe_int pa_nil))) (fun _ _ => rfl)))) pss_nil)
      (pss_cons (ps_if (pt_cmpR op_eq (pv 3) pe_int (nomark _)) (pss_one (ps_ret (pe_ix (ix_listK (K := K)) (pe_lst (pa_cons (pe_tup (pa_cons (pv 4) (pa_cons (pv 2) pa_nil))) (pa_cons (pe_tup (pa_cons (pv 4) (pa_cons (pe_op op_add (pv 2) pe_int) pa_nil))) (pa_cons (pe_tup (pa_cons (pe_un un_neg pe_int) (pa_cons (pv 5) pa_nil))) (pa_cons (pe_tup (pa_cons (pe_un un_neg pe_int) (pa_cons (pe_un un_neg pe_int) pa_nil))) (pa_cons (pe_tup (pa_cons (pv 4) (pa_cons (pe_op op_pow pe_int pe_int) pa_nil))) pa_nil)))))) (pe_c (ok__law_take T) (hr.mono (by decide)) rfl pass0 (pa_cons (pv 0) (pa_cons pe_int pa_nil))) (fun _ _ => rfl)))) pss_nil)
      (pss_cons (ps_if (pt_cmpR op_eq (pv 3) pe_int (nomark _)) (pss_one (ps_ret (pe_ix (ix_listK (K := K)) (pe_lst (pa_cons (pe_tup (pa_cons pe_bl (pa_cons (pv 5) pa_nil))) (pa_cons (pe_tup (pa_cons (pv 4) (pa_cons pe_bl pa_nil))) (pa_cons (pe_tup (pa_cons pe_bl (pa_cons pe_bl pa_nil))) (pa_cons (pe_tup (pa_cons pe_non (pa_cons (pv 5) pa_nil))) (pa_cons (pe_tup (pa_cons (pv 4) (pa_cons pe_str pa_nil))) pa_nil)))))) (pe_c (ok__law_take T) (hr.mono (by decide)) rfl pass0 (pa_cons (pv 0) (pa_cons pe_int pa_nil))) (fun _ _ => rfl)))) pss_nil)
      (pss_cons (ps_set (i := 6) sc__law_odd_pair.nd rfl (Or.inl rfl) (pe_lst (pa_cons (pe_c (ok__law_take T) (hr.mono (by decide)) rfl pass0 (pa_cons (pv 0) (pa_cons (pv 2) pa_nil))) (pa_cons (pe_c (ok__law_take T) (hr.mono (by decide)) rfl pass0 (pa_cons (pv 0) (pa_cons (pv 2) pa_nil))) pa_nil))))
      (pss_one (ps_ret (pe_callTy (call_tupK (K := K)) (by rfl) (T.free 15 rfl) (by decide +kernel) (pa_cons (pe_callB (cr_sortedIK (K := K)) (by rfl) (T.free 13 rfl) (by decide +kernel) (pa_cons (pv 6) pa_nil)) pa_nil)))))))))))), ?_⟩
  obtain ⟨A, n, c, i, j, rfl, hp, rfl, hi, hj, n1, n16, c9, hb, q⟩ := h
  obtain ⟨tp, rfl, sp⟩ := pair_at hp
  refine seq_at ?_
  obtain ⟨l0, hA0⟩ := hb.some
  have hAn : H A ≠ none := by rw [hA0]; simp
  have spd : SqT K (L2.del H A) tp [.int (i : Int), .int (j : Int)] := SqT.del sp hA0
  refine ⟨_, rfl, _, _, rfl, A, 9, c, rfl, rfl, by decide, by decide, by omega, hb, fun w1 H1 hw e1 hb1 => ?_⟩
  have sp1 := Evl.ex_t e1 spd
  obtain ⟨l1, hA1⟩ := hb1.some
  refine ⟨_, rfl, tp, _, 0, _, rfl, rfl, sp1, atI_nat (j := 0) rfl, _, rfl, tp, _, 1, _, rfl, rfl, sp1, atI_nat (j := 1) rfl, _, _, _, rfl, ?_⟩
  have ee : ∀ {Hx : Hp} {x : Addr} {o : HO}, Hx x = none → Ex Hx (upd Hx x o) := fun h => Evl.Ex.new h
  -- a new object in a heap that lies over H1
  have put : ∀ {Hx : Hp} {x : Addr} (o : HO), Ex H1 Hx → Hx x = none → Ex H1 (upd Hx x o) ∧ x ≠ A ∧ fresh H (upd Hx x o) x = some o := fun {Hx x} o e n => by
    have hx := e _ _ hA1
    have ne : x ≠ A := by rintro rfl; rw [hx] at n; cases n
    exact ⟨e.trans (ee n), ne, fresh_get (new_of (e1.trans e) hx n) upd_same⟩
  have keep : ∀ {Hx : Hp} {x y : Addr} {o : HO} (u : HO), fresh H Hx y = some o → Hx x = none → fresh H (upd Hx x u) y = some o := fun {Hx x y o} u h n => fresh_up (ee n) y o h
  have T2 : ∀ {Hf : Hp} {t : Addr} {u v : V} {x y : PyData}, Hf t = some (.tup [u, v]) → Dq K Hf u x → Dq K Hf v y → Dq K Hf (.ref t) (.tuple [x, y]) := fun h hx hy => .tup (SqT.of h) (.cons hx (.cons hy .nil))
  dsimp only
  refine seq_at ?_
  refine ⟨_, rfl, rfl, _, rfl, ?_⟩
  by_cases w0 : w1 = 0
  · rw [decide_eq_true (show V.int (w1 : Int) = V.int 0 by rw [w0]; rfl)]
    refine iteT ?_
    refine ⟨Nat.zero_le _, fun t1 ht1 => fun dd hdd => ⟨_, rfl, _, rfl, (by show 2 ≤ sizeLine; decide), fun l1 hl1 => ⟨(by show 6 ≤ sizeLine; decide), fun L hL => ⟨_, rfl, ?_⟩⟩⟩⟩
    obtain ⟨x1, _, f1⟩ := put (.tup []) (Evl.Ex.refl H1) ht1
    obtain ⟨x2, _, f2⟩ := put (.dK []) x1 hdd
    obtain ⟨x3, _, f3⟩ := put (.lst [.int (i : Int), .int (j : Int)]) x2 hl1
    obtain ⟨x4, nL, _⟩ := put (.lst [.non, .str "01", .int 5, .ref t1, .ref dd, .ref l1]) x3 hL
    replace f1 := keep (.lst [.non, .str "01", .int 5, .ref t1, .ref dd, .ref l1]) (keep (.lst [.int (i : Int), .int (j : Int)]) (keep (.dK []) f1 hdd) hl1) hL
    replace f2 := keep (.lst [.non, .str "01", .int 5, .ref t1, .ref dd, .ref l1]) (keep (.lst [.int (i : Int), .int (j : Int)]) f2 hl1) hL
    replace f3 := keep (.lst [.non, .str "01", .int 5, .ref t1, .ref dd, .ref l1]) f3 hL
    refine odd_fin (E := E0) (m := 6) hAn (e1.trans x4) upd_same nL (hb1.mono x4) (by simp) (by simp) (by omega) rfl (fun v hv => ?_) q
    simp only [List.mem_cons, List.not_mem_nil, or_false] at hv
    obtain rfl | rfl | rfl | rfl | rfl | rfl := hv
    · exact ⟨_, .non, (.no fun a b e => by cases e), oddB (by decide +kernel) (by decide)⟩
    · exact ⟨_, .str _, (.no fun a b e => by cases e), oddB (by decide +kernel) (by decide)⟩
    · exact ⟨_, .int _, (.no fun a b e => by cases e), oddB (by decide +kernel) (by decide)⟩
    · exact ⟨_, .tup (SqT.of f1) .nil, (.no fun a b e => by cases e), oddB (by decide +kernel) (by decide)⟩
    · exact ⟨_, .dic f2, (.no fun a b e => by cases e), oddB (by decide +kernel) (by decide)⟩
    · exact ⟨_, .lst (SqL.of f3) (.cons (.int _) (.cons (.int _) .nil)), (.no fun a b e => by cases e), ⟨(Small.list (w := 8) (p := 1) (ds := [intD i, intD j]) fun d m => by
        rcases List.mem_cons.mp m with rfl | m
        · exact Small.nat (k := i) (by omega)
        · rw [List.mem_singleton.mp m]; exact Small.nat (k := j) (by omega)).mono (by simp) (by decide), by simp [items]⟩⟩
  rw [decide_eq_false (show ¬ V.int (w1 : Int) = V.int 0 from fun z => w0 (by have := V.int.inj z; omega))]
  refine iteF ?_
  dsimp only [tNext]
  refine seq_at ?_
  refine ⟨_, rfl, rfl, _, rfl, ?_⟩
  by_cases w0 : w1 = 1
  · rw [decide_eq_true (show V.int (w1 : Int) = V.int 1 by rw [w0]; rfl)]
    refine iteT ?_
    refine ⟨_, rfl, (by show 1 ≤ sizeLine; decide), fun t1 ht1 => ⟨_, rfl, _, rfl, (by show 3 ≤ sizeLine; decide), fun t2 ht2 => ⟨_, rfl, _, rfl, (by show 2 ≤ sizeLine; decide), fun t3 ht3 => ⟨(by show 1 ≤ sizeLine; decide), fun t4 ht4 => ⟨_, rfl, _, rfl, _, rfl, (by show 3 ≤ sizeLine; decide), fun t5 ht5 => ⟨(by show 4 ≤ sizeLine; decide), fun L hL => ⟨_, rfl, ?_⟩⟩⟩⟩⟩⟩⟩
    obtain ⟨x1, _, f1⟩ := put (.tup [.int (i : Int)]) (Evl.Ex.refl H1) ht1
    obtain ⟨x2, _, f2⟩ := put (.tup [.int (i : Int), .int (j : Int), .int 0]) x1 ht2
    obtain ⟨x3, _, f3⟩ := put (.tup [.int (i : Int), .int (j : Int)]) x2 ht3
    obtain ⟨x4, _, f4⟩ := put (.tup [.ref t3]) x3 ht4
    obtain ⟨x5, _, f5⟩ := put (.tup [.int (i : Int), .int (j : Int), .int (j : Int)]) x4 ht5
    obtain ⟨xL, nL, _⟩ := put (.lst [.ref t1, .ref t2, .ref t4, .ref t5]) x5 hL
    replace f1 := keep (.lst [.ref t1, .ref t2, .ref t4, .ref t5]) (keep (.tup [.int (i : Int), .int (j : Int), .int (j : Int)]) (keep (.tup [.ref t3]) (keep (.tup [.int (i : Int), .int (j : Int)]) (keep (.tup [.int (i : Int), .int (j : Int), .int 0]) f1 ht2) ht3) ht4) ht5) hL
    replace f2 := keep (.lst [.ref t1, .ref t2, .ref t4, .ref t5]) (keep (.tup [.int (i : Int), .int (j : Int), .int (j : Int)]) (keep (.tup [.ref t3]) (keep (.tup [.int (i : Int), .int (j : Int)]) f2 ht3) ht4) ht5) hL
    replace f3 := keep (.lst [.ref t1, .ref t2, .ref t4, .ref t5]) (keep (.tup [.int (i : Int), .int (j : Int), .int (j : Int)]) (keep (.tup [.ref t3]) f3 ht4) ht5) hL
    replace f4 := keep (.lst [.ref t1, .ref t2, .ref t4, .ref t5]) (keep (.tup [.int (i : Int), .int (j : Int), .int (j : Int)]) f4 ht5) hL
    replace f5 := keep (.lst [.ref t1, .ref t2, .ref t4, .ref t5]) f5 hL
    refine odd_fin (E := E0) (m := 4) hAn (e1.trans xL) upd_same nL (hb1.mono xL) (by simp) (by simp) (by omega) rfl (fun v hv => ?_) q
    simp only [List.mem_cons, List.not_mem_nil, or_false] at hv
    rcases hv with rfl | rfl | rfl | rfl
    · exact ⟨_, .tup (SqT.of f1) (.cons (.int _) .nil), (.no fun a b e => by cases e), odd_ints (l := [i]) (by simp) (by simp; omega)⟩
    · exact ⟨_, .tup (SqT.of f2) (.cons (.int _) (.cons (.int _) (.cons (.int _) .nil))), (.no fun a b e => by cases e), odd_ints (l := [i, j, 0]) (by simp) (by simp; omega)⟩
    · exact ⟨_, .tup (SqT.of f4) (.cons (T2 f3 (.int _) (.int _)) .nil), (.no fun a b e => by cases e), ⟨(Small.tuple (w := 400 / 2) (p := 3) (ds := [.tuple [intD i, intD j]]) fun d m => by
        rw [List.mem_singleton.mp m]
        refine (Small.tuple (w := 8) (p := 1) fun d m => ?_).mono (by simp) (by decide)
        rcases List.mem_cons.mp m with rfl | m
        · exact Small.nat (k := i) (by omega)
        · rw [List.mem_singleton.mp m]; exact Small.nat (k := j) (by omega)).mono (by simp) (by decide), by simp [items]⟩⟩
    · exact ⟨_, .tup (SqT.of f5) (.cons (.int _) (.cons (.int _) (.cons (.int _) .nil))), (.no fun a b e => by cases e), odd_ints (l := [i, j, j]) (by simp) (by simp; omega)⟩
  rw [decide_eq_false (show ¬ V.int (w1 : Int) = V.int 1 from fun z => w0 (by have := V.int.inj z; omega))]
  refine iteF ?_
  dsimp only [tNext]
  refine seq_at ?_
  refine ⟨_, rfl, rfl, _, rfl, ?_⟩
  clear w0
  by_cases w0 : w1 = 2
  · rw [decide_eq_true (show V.int (w1 : Int) = V.int 2 by rw [w0]; rfl)]
    refine iteT ?_
    refine ⟨_, rfl, _, rfl, (by show 2 ≤ sizeLine; decide), fun t1 ht1 => ⟨_, rfl, _, rfl, (by show 2 ≤ sizeLine; decide), fun t2 ht2 => ⟨_, rfl, _, rfl, (by show 2 ≤ sizeLine; decide), fun t3 ht3 => ⟨(by show 3 ≤ sizeLine; decide), fun L hL => ⟨_, rfl, ?_⟩⟩⟩⟩⟩
    obtain ⟨x1, _, f1⟩ := put (.tup [.int (j : Int), .int (i : Int)]) (Evl.Ex.refl H1) ht1
    obtain ⟨x2, _, f2⟩ := put (.tup [.int (i : Int), .int (i : Int)]) x1 ht2
    obtain ⟨x3, _, f3⟩ := put (.tup [.int (j : Int), .int (j : Int)]) x2 ht3
    obtain ⟨xL, nL, _⟩ := put (.lst [.ref t1, .ref t2, .ref t3]) x3 hL
    replace f1 := keep (.lst [.ref t1, .ref t2, .ref t3]) (keep (.tup [.int (j : Int), .int (j : Int)]) (keep (.tup [.int (i : Int), .int (i : Int)]) f1 ht2) ht3) hL
    replace f2 := keep (.lst [.ref t1, .ref t2, .ref t3]) (keep (.tup [.int (j : Int), .int (j : Int)]) f2 ht3) hL
    replace f3 := keep (.lst [.ref t1, .ref t2, .ref t3]) f3 hL
    refine odd_fin (E := E0) (m := 3) hAn (e1.trans xL) upd_same nL (hb1.mono xL) (by simp) (by simp) (by omega) rfl (fun v hv => ?_) q
    simp only [List.mem_cons, List.not_mem_nil, or_false] at hv
    rcases hv with rfl | rfl | rfl
    · exact ⟨_, T2 f1 (.int _) (.int _), .two (K := K) f1 (.int _) (.int _), odd_two (n100 (k := j) (by omega)) (n100 (k := i) (by omega))⟩
    · exact ⟨_, T2 f2 (.int _) (.int _), .two (K := K) f2 (.int _) (.int _), odd_two (n100 (k := i) (by omega)) (n100 (k := i) (by omega))⟩
    · exact ⟨_, T2 f3 (.int _) (.int _), .two (K := K) f3 (.int _) (.int _), odd_two (n100 (k := j) (by omega)) (n100 (k := j) (by omega))⟩
  rw [decide_eq_false (show ¬ V.int (w1 : Int) = V.int 2 from fun z => w0 (by have := V.int.inj z; omega))]
  refine iteF ?_
  dsimp only [tNext]
  refine seq_at ?_
  refine ⟨_, rfl, rfl, _, rfl, ?_⟩
  clear w0
  by_cases w0 : w1 = 3
  · rw [decide_eq_true (show V.int (w1 : Int) = V.int 3 by rw [w0]; rfl)]
    refine iteT ?_
    refine ⟨_, rfl, _, rfl, (by show 2 ≤ sizeLine; decide), fun t1 ht1 => ⟨_, rfl, _, rfl, _, _, rfl, rfl, (by show 2 ≤ sizeLine; decide), fun t2 ht2 => ⟨1, rfl, _, rfl, (by show 2 ≤ sizeLine; decide), fun t3 ht3 => ⟨2, rfl, 1, rfl, (by show 2 ≤ sizeLine; decide), fun t4 ht4 => ⟨_, rfl, 10, 19, rfl, rfl, ⟨by decide, by decide, by decide⟩, (by show 2 ≤ sizeLine; decide), fun t5 ht5 => ⟨(by show 5 ≤ sizeLine; decide), fun L hL => ⟨_, rfl, ?_⟩⟩⟩⟩⟩⟩⟩
    obtain ⟨x1, _, f1⟩ := put (.tup [.int (i : Int), .int (n : Int)]) (Evl.Ex.refl H1) ht1
    obtain ⟨x2, _, f2⟩ := put (.tup [.int (i : Int), .int ((n : Int) + 2)]) x1 ht2
    obtain ⟨x3, _, f3⟩ := put (.tup [.int (-1), .int (j : Int)]) x2 ht3
    obtain ⟨x4, _, f4⟩ := put (.tup [.int (-2), .int (-1)]) x3 ht4
    obtain ⟨x5, _, f5⟩ := put (.tup [.int (i : Int), .int (10 ^ (19 : Int).toNat)]) x4 ht5
    obtain ⟨xL, nL, _⟩ := put (.lst [.ref t1, .ref t2, .ref t3, .ref t4, .ref t5]) x5 hL
    replace f1 := keep (.lst [.ref t1, .ref t2, .ref t3, .ref t4, .ref t5]) (keep (.tup [.int (i : Int), .int (10 ^ (19 : Int).toNat)]) (keep (.tup [.int (-2), .int (-1)]) (keep (.tup [.int (-1), .int (j : Int)]) (keep (.tup [.int (i : Int), .int ((n : Int) + 2)]) f1 ht2) ht3) ht4) ht5) hL
    replace f2 := keep (.lst [.ref t1, .ref t2, .ref t3, .ref t4, .ref t5]) (keep (.tup [.int (i : Int), .int (10 ^ (19 : Int).toNat)]) (keep (.tup [.int (-2), .int (-1)]) (keep (.tup [.int (-1), .int (j : Int)]) f2 ht3) ht4) ht5) hL
    replace f3 := keep (.lst [.ref t1, .ref t2, .ref t3, .ref t4, .ref t5]) (keep (.tup [.int (i : Int), .int (10 ^ (19 : Int).toNat)]) (keep (.tup [.int (-2), .int (-1)]) f3 ht4) ht5) hL
    replace f4 := keep (.lst [.ref t1, .ref t2, .ref t3, .ref t4, .ref t5]) (keep (.tup [.int (i : Int), .int (10 ^ (19 : Int).toNat)]) f4 ht5) hL
    replace f5 := keep (.lst [.ref t1, .ref t2, .ref t3, .ref t4, .ref t5]) f5 hL
    refine odd_fin (E := E0) (m := 5) hAn (e1.trans xL) upd_same nL (hb1.mono xL) (by simp) (by simp) (by omega) rfl (fun v hv => ?_) q
    simp only [List.mem_cons, List.not_mem_nil, or_false] at hv
    rcases hv with rfl | rfl | rfl | rfl | rfl
    · exact ⟨_, T2 f1 (.int _) (.int _), .two (K := K) f1 (.int _) (.int _), odd_two (n100 (k := i) (by omega)) (n100 (k := n) (by omega))⟩
    · exact ⟨_, T2 f2 (.int _) (.int _), .two (K := K) f2 (.int _) (.int _), odd_two (n100 (k := i) (by omega)) (n100 (k := n + 2) (by omega))⟩
    · exact ⟨_, T2 f3 (.int _) (.int _), .two (K := K) f3 (.int _) (.int _), odd_two (b100 (by decide +kernel)) (n100 (k := j) (by omega))⟩
    · exact ⟨_, T2 f4 (.int _) (.int _), .two (K := K) f4 (.int _) (.int _), odd_two (b100 (by decide +kernel)) (b100 (by decide +kernel))⟩
    · exact ⟨.tuple [.int (i : Int), .int (10 ^ 19)], T2 f5 (.int _) (.int _), .two (K := K) f5 (.int _) (.int _), odd_two (n100 (k := i) (by omega)) (b100 (by decide +kernel))⟩
  rw [decide_eq_false (show ¬ V.int (w1 : Int) = V.int 3 from fun z => w0 (by have := V.int.inj z; omega))]
  refine iteF ?_
  dsimp only [tNext]
  refine seq_at ?_
  refine ⟨_, rfl, rfl, _, rfl, ?_⟩
  clear w0
  by_cases w0 : w1 = 4
  · rw [decide_eq_true (show V.int (w1 : Int) = V.int 4 by rw [w0]; rfl)]
    refine iteT ?_
    refine ⟨_, rfl, (by show 2 ≤ sizeLine; decide), fun t1 ht1 => ⟨_, rfl, (by show 2 ≤ sizeLine; decide), fun t2 ht2 => ⟨(by show 2 ≤ sizeLine; decide), fun t3 ht3 => ⟨_, rfl, (by show 2 ≤ sizeLine; decide), fun t4 ht4 => ⟨_, rfl, (by show 2 ≤ sizeLine; decide), fun t5 ht5 => ⟨(by show 5 ≤ sizeLine; decide), fun L hL => ⟨_, rfl, ?_⟩⟩⟩⟩⟩⟩⟩
    obtain ⟨x1, _, f1⟩ := put (.tup [.bl false, .int (j : Int)]) (Evl.Ex.refl H1) ht1
    obtain ⟨x2, _, f2⟩ := put (.tup [.int (i : Int), .bl true]) x1 ht2
    obtain ⟨x3, _, f3⟩ := put (.tup [.bl false, .bl true]) x2 ht3
    obtain ⟨x4, _, f4⟩ := put (.tup [.non, .int (j : Int)]) x3 ht4
    obtain ⟨x5, _, f5⟩ := put (.tup [.int (i : Int), .str "1"]) x4 ht5
    obtain ⟨xL, nL, _⟩ := put (.lst [.ref t1, .ref t2, .ref t3, .ref t4, .ref t5]) x5 hL
    replace f1 := keep (.lst [.ref t1, .ref t2, .ref t3, .ref t4, .ref t5]) (keep (.tup [.int (i : Int), .str "1"]) (keep (.tup [.non, .int (j : Int)]) (keep (.tup [.bl false, .bl true]) (keep (.tup [.int (i : Int), .bl true]) f1 ht2) ht3) ht4) ht5) hL
    replace f2 := keep (.lst [.ref t1, .ref t2, .ref t3, .ref t4, .ref t5]) (keep (.tup [.int (i : Int), .str "1"]) (keep (.tup [.non, .int (j : Int)]) (keep (.tup [.bl false, .bl true]) f2 ht3) ht4) ht5) hL
    replace f3 := keep (.lst [.ref t1, .ref t2, .ref t3, .ref t4, .ref t5]) (keep (.tup [.int (i : Int), .str "1"]) (keep (.tup [.non, .int (j : Int)]) f3 ht4) ht5) hL
    replace f4 := keep (.lst [.ref t1, .ref t2, .ref t3, .ref t4, .ref t5]) (keep (.tup [.int (i : Int), .str "1"]) f4 ht5) hL
    replace f5 := keep (.lst [.ref t1, .ref t2, .ref t3, .ref t4, .ref t5]) f5 hL
    refine odd_fin (E := E0) (m := 5) hAn (e1.trans xL) upd_same nL (hb1.mono xL) (by simp) (by simp) (by omega) rfl (fun v hv => ?_) q
    simp only [List.mem_cons, List.not_mem_nil, or_false] at hv
    rcases hv with rfl | rfl | rfl | rfl | rfl
    · exact ⟨_, T2 f1 (.bl _) (.int _), .two (K := K) f1 (.bl _) (.int _), odd_two (b100 (by decide +kernel)) (n100 (k := j) (by omega))⟩
    · exact ⟨_, T2 f2 (.int _) (.bl _), .two (K := K) f2 (.int _) (.bl _), odd_two (n100 (k := i) (by omega)) (b100 (by decide +kernel))⟩
    · exact ⟨_, T2 f3 (.bl _) (.bl _), .two (K := K) f3 (.bl _) (.bl _), odd_two (b100 (by decide +kernel)) (b100 (by decide +kernel))⟩
    · exact ⟨_, T2 f4 .non (.int _), .two (K := K) f4 .non (.int _), odd_two (b100 (by decide +kernel)) (n100 (k := j) (by omega))⟩
    · exact ⟨_, T2 f5 (.int _) (.str _), .two (K := K) f5 (.int _) (.str _), odd_two (n100 (k := i) (by omega)) (b100 (by decide +kernel))⟩
  rw [decide_eq_false (show ¬ V.int (w1 : Int) = V.int 4 from fun z => w0 (by have := V.int.inj z; omega))]
  refine iteF ?_
  dsimp only [tNext]
  refine seq_at (asg_at ?_)
  refine ⟨_, rfl, _, rfl, _, _, rfl, A, n, c + 1, rfl, rfl, n1, by omega, by omega, hb1, fun x H2 hx e2 hb2 => ?_⟩
  refine ⟨_, rfl, _, rfl, _, _, rfl, A, n, c + 1 + 1, rfl, rfl, n1, by omega, by omega, hb2, fun y H3 hy e3 hb3 => ?_⟩
  refine ⟨(by show 2 ≤ sizeLine; decide), fun l hl => ?_⟩
  have e13 := ex_of_del (ex_of_del e1 del_same e2) del_same e3
  obtain ⟨l3, hA3⟩ := hb3.some
  dsimp only [gName]
  refine ret_at ?_
  refine ⟨_, rfl, l, [(x : Int), (y : Int)], rfl, SqL.of upd_same, fun ns' q0 pn sn hq => ⟨q0, _, rfl, .inl ⟨SqL.of upd_same, fun t ht => ?_⟩⟩⟩
  rw [sort2 pn sn] at ht ⊢
  have ex := ((ee (o := .lst [iV x, iV y]) hl).trans (ee (o := .lst ([((edge x y).1 : Int), ((edge x y).2 : Int)].map V.int)) hq))
  have hx3 := (e13.trans ex)
  have nt := new_of hx3 (ex _ _ hA3) ht
  have lt : (edge x y).1 < 128 ∧ (edge x y).2 < 128 := by unfold edge; split <;> simp <;> omega
  refine q _ (.tuple [.int ((edge x y).1 : Int), .int ((edge x y).2 : Int)]) _ (hx3.trans (ee ht)) (hb3.mono (ex.trans (ee ht))) (T2 (fresh_get nt upd_same) (.int _) (.int _)) (.two (K := K) (fresh_get nt upd_same) (.int _) (.int _)) (odd_two (n100 lt.1) (n100 lt.2))
end

end T1

namespace T1
open PySem PySem.Spec PyProof.Rows L2 G
open Evl (Ex)
local macro_rules | `(tactic| walk_at "dd") => `(tactic| (dsimp only [tCB, tCons, tNil, tC, tOp, tUn, tTest, tB, tVar, tAndV, tOrV, tNotV, tIf, tAnd, tOr, tNot, tSeq, tRet, tRetN, tIfS, tAsg, gName, tDrop, tTup, tLst, tChain, tNext, tCall, L2.start]))
/-- what stands for a list of roads, H the heap before -/
structure OddR (K : PySem.W.Frag) (H H' : Hp) (v : V) (d : PyData) : Prop where
  dq : Dq K H' v d
  len : (items d).length ≤ 40
  len2 : ∀ x ∈ items d, (items x).length ≤ 3
  sm : Small 20000 6 d
  ls : ∀ ds, d = .list ds → ∃ L xs, v = .ref L ∧ H' L = some (.lst xs) ∧ H L = none ∧ Dqs K (L2.del H' L) xs ds
theorem ex_del_new {H H' : Hp} {A L : Addr} (e : Ex (L2.del H A) H') (n : H L = none) : Ex (L2.del H A) (L2.del H' L) := fun a o z => by
  have z0 : H a = some o := Ex.ofDel a o z
  have ne : a ≠ L := by rintro rfl; rw [n] at z0; cases z0
  rw [del_ne ne]; exact e a o z
theorem cut_take (xs : List V) (k : Nat) : cutV xs none (some (k : Int)) = xs.take k := by
  unfold cutV
  rw [HT.sIx_none, HT.sIx_nat, List.drop_zero, Nat.sub_zero]
  by_cases c : k ≤ xs.length
  · rw [Nat.min_eq_left c]
  · rw [Nat.min_eq_right (by omega), List.take_of_length_le (by omega), List.take_of_length_le (by omega)]
theorem cut_drop (xs : List V) (k : Nat) : cutV xs (some (k : Int)) none = xs.drop k := by
  unfold cutV
  rw [HT.sIx_none, HT.sIx_nat]
  by_cases c : k ≤ xs.length
  · rw [Nat.min_eq_left c, List.take_of_length_le (by rw [List.length_drop]; omega)]
  · rw [Nat.min_eq_right (by omega), List.drop_of_length_le (by omega), List.drop_of_length_le (by omega)]; simp
theorem shaped_rdsL (rs : List (Nat × Nat)) : SeqAt.shaped (.list (rs.map pairD)) = true := by
  have z := shaped_rds rs
  unfold SeqAt.shaped at z ⊢
  simpa [PyData.canLay0, PyData.depth] using z
theorem odd_pairD {p : Nat × Nat} (h1 : p.1 < 128) (h2 : p.2 < 128) : OddP (pairD p) := odd_two (n100 h1) (n100 h2)
theorem del_del {H : Hp} {A L : Addr} : L2.del (L2.del H A) L = L2.del (L2.del H L) A := by
  funext b
  unfold L2.del
  by_cases h1 : b = A <;> by_cases h2 : b = L <;> simp [h1, h2]
/-- a list made there -/
theorem oddR_list {K : PySem.W.Frag} {H H' : Hp} {A L : Addr} {xs : List V} {ds : List PyData} (hA : H A ≠ none) (n : H L = none) (h : H' L = some (.lst xs)) (hd : Dqs K (L2.del (L2.del H' L) A) xs ds) (hl : ds.length ≤ 40) (ho : ∀ x ∈ ds, OddP x) : OddR K H (L2.del H' A) (.ref L) (.list ds) := by
  have ne : L ≠ A := by rintro rfl; exact hA n
  have g : L2.del H' A L = some (.lst xs) := by rw [del_ne ne]; exact h
  rw [← del_del] at hd
  exact ⟨.lst (SqL.of g) (hd.mono Ex.ofDel), hl, fun x m => (ho x m).it, (Small.list (w := 400) (p := 4) fun x m => (ho x m).sm).mono (by omega) (by decide), fun ds' e => by cases e; exact ⟨L, xs, rfl, g, n, hd⟩⟩
theorem ex_del_self {H X : Hp} {A : Addr} (e : Ex (L2.del H A) X) : Ex (L2.del H A) (L2.del X A) := fun a o z => by
  have ne : a ≠ A := by rintro rfl; rw [del_same] at z; cases z
  rw [del_ne ne]; exact e a o z
theorem tp_del {H : Hp} {A : Addr} {l : List V} (hA : H A = some (.lst l)) {rs : List (Nat × Nat)} {ts : List V} (h : F2 (TP H) rs ts) : F2 (TP (L2.del H A)) rs ts :=
  h.imp fun _ _ ⟨t, a, b⟩ => ⟨t, a, by rw [del_ne (ne_of b hA (by intro z; cases z))]; exact b⟩
theorem WorldOk.sub {n : Nat} {rs : List (Nat × Nat)} (w : WorldOk n rs) : (∀ p ∈ rs, p.1 < p.2 ∧ p.2 < n) ∧ rs.Nodup := by
  obtain ⟨ns, b, pm, hb, pe⟩ := w.gr
  have nd : ns.Nodup := pm.nodup_iff.mpr List.nodup_range
  have ln : ns.length = n := by rw [pm.length_eq, List.length_range]
  have rank : ∀ k, k < n → ns.idxOf (ns[k]?.getD 0) = k := fun k hk => by
    have hk' : k < ns.length := by omega
    rw [List.getElem?_eq_getElem hk']
    exact nd.idxOf_getElem k hk'
  have lt_n : ∀ k, k < n → ns[k]?.getD 0 < n := fun k hk => by
    have hk' : k < ns.length := by omega
    rw [List.getElem?_eq_getElem hk']
    exact List.mem_range.mp (pm.mem_iff.mp (List.getElem_mem hk'))
  constructor
  · intro p hp
    obtain ⟨k, hk, rfl⟩ := List.mem_map.mp (pe.mem_iff.mp hp)
    have hk' := List.mem_range.mp hk
    have lb := hb (k + 1) (by omega) (by omega)
    have r1 := rank (k + 1) (by omega)
    have r2 := rank (b (k + 1)) (by omega)
    have ne : ns[k + 1]?.getD 0 ≠ ns[b (k + 1)]?.getD 0 := fun e => by rw [e, r2] at r1; omega
    have l1 := lt_n (k + 1) (by omega)
    have l2 := lt_n (b (k + 1)) (by omega)
    unfold edge
    split <;> simp only <;> omega
  · refine pe.nodup_iff.mpr ?_
    rw [List.Nodup, List.pairwise_map]
    refine List.nodup_range.imp_of_mem fun {k k'} hk hk' ne e => ne ?_
    have h1 := List.mem_range.mp hk
    have h2 := List.mem_range.mp hk'
    have lb := hb (k + 1) (by omega) (by omega)
    have lb' := hb (k' + 1) (by omega) (by omega)
    have r1 := rank (k + 1) (by omega)
    have r2 := rank (b (k + 1)) (by omega)
    have r3 := rank (k' + 1) (by omega)
    have r4 := rank (b (k' + 1)) (by omega)
    rcases edge_mem.mp (show edge (ns[k + 1]?.getD 0) (ns[b (k + 1)]?.getD 0) = ((edge (ns[k' + 1]?.getD 0) (ns[b (k' + 1)]?.getD 0)).1, (edge (ns[k' + 1]?.getD 0) (ns[b (k' + 1)]?.getD 0)).2) ∨ _ from .inl e) with ⟨e1, e2⟩ | ⟨e1, e2⟩
    all_goals
      unfold edge at e1 e2
      split at e1
      all_goals
        split at e2
        all_goals
          simp only at e1 e2
          first
            | omega
            | (rw [e1] at r1; rw [e2] at r2; omega)
theorem WorldOk.good {n : Nat} {rs : List (Nat × Nat)} (w : WorldOk n rs) : Good n rs := ⟨w.sub.1, w.sub.2⟩
theorem WorldOk.rl {n : Nat} {rs : List (Nat × Nat)} (w : WorldOk n rs) : rs.length = n - 1 := by
  obtain ⟨_, _, _, _, pe⟩ := w.gr
  rw [pe.length_eq, List.length_map, List.length_range]
/-- they are roads as Tree wants them -/
theorem WorldOk.are {n : Nat} {rs : List (Nat × Nat)} (w : WorldOk n rs) {d : PyData} (hs : isSeq d = true) (hi : items d = rs.map pairD) : areRds d n = true := by
  have rl := w.rl
  have n1 := w.n1
  unfold areRds
  simp only [hs, hi, Bool.true_and, Bool.and_eq_true, decide_eq_true_eq, List.all_eq_true, List.length_map]
  refine ⟨by omega, fun x hx => ?_, ?_⟩
  · obtain ⟨p, hp, rfl⟩ := List.mem_map.mp hx
    obtain ⟨h1, h2⟩ := w.sub.1 p hp
    simp only [pairD, intD, isRd, Bool.and_eq_true, decide_eq_true_eq]
    omega
  · unfold asc
    rw [all_range_map, decide_eq_true_eq]
    intro i hi
    simp only [List.length_map] at hi
    have z := List.pairwise_iff_getElem.mp w.as i (i + 1) (by omega) (by omega) (by omega)
    have ne : rs[i]'(by omega) ≠ rs[i + 1]'(by omega) := List.pairwise_iff_getElem.mp w.sub.2 i (i + 1) (by omega) (by omega) (by omega)
    have g : ∀ j, (hj : j < rs.length) → ((rs.map pairD).map rd)[j]?.getD (0, 0) = (((rs[j]).1 : Int), ((rs[j]).2 : Int)) := fun j hj => by
      rw [List.getElem?_map, List.getElem?_map, List.getElem?_eq_getElem hj]; rfl
    rw [g i (by omega), g (i + 1) (by omega)]
    unfold ltN ltR at z
    unfold ltR
    have ne' : ¬ ((rs[i]'(by omega)).1 = (rs[i + 1]'(by omega)).1 ∧ (rs[i]'(by omega)).2 = (rs[i + 1]'(by omega)).2) := fun ⟨a, b⟩ => ne (Prod.ext a b)
    simp only [Bool.or_eq_true, Bool.and_eq_true, decide_eq_true_eq, Bool.or_eq_false_iff, Bool.and_eq_false_iff, decide_eq_false_iff_not] at z ⊢
    omega
theorem ifS_split {tc : TT} {tb te : TS} {D : Ends} {σ : L2.St} {H : Hp} (B C : Hp → Prop) (hB : ∀ H', B H' → tb D σ H') (hC : ∀ H', C H' → te D σ H') (h : ∀ R : Bool → Hp → Prop, (∀ H', B H' → R true H') → (∀ H', C H' → R false H') → tc σ H R) : tIfS tc tb te D σ H :=
  h _ (fun H' b => by rw [if_pos rfl]; exact hB H' b) (fun H' c => by rw [if_neg Bool.false_ne_true]; exact hC H' c)
theorem oddR_flat {K : PySem.W.Frag} {H H' : Hp} {v : V} {d : PyData} (h : Dq K H' v d) (hi : items d = []) (hs : smallB 20000 6 d = true) (no : ∀ ds, d ≠ .list ds) : OddR K H H' v d where
  dq := h
  len := by rw [hi]; simp
  len2 := by rw [hi]; simp
  sm := smallB_ok hs
  ls := fun ds e => absurd e (no ds)
theorem dqs_some {K : PySem.W.Frag} {H : Hp} {P : PyData → Prop} : ∀ (ys : List V), (∀ v ∈ ys, ∃ d, Dq K H v d ∧ P d) → ∃ ds, Dqs K H ys ds ∧ ∀ x ∈ ds, P x
  | [], _ => ⟨[], .nil, by simp⟩
  | v :: ys, h => by
    obtain ⟨ds, h1, h2⟩ := dqs_some ys fun u hu => h u (List.mem_cons_of_mem _ hu)
    obtain ⟨d, h3, h4⟩ := h v List.mem_cons_self
    refine ⟨d :: ds, .cons h3 h1, fun x hx => ?_⟩
    rcases List.mem_cons.1 hx with rfl | hx
    · exact h4
    · exact h2 x hx
theorem fresh_del2 {H H' : Hp} {L A : Addr} (n : H L ≠ none) (n2 : H A ≠ none) : Ex (fresh H H') (L2.del (L2.del H' L) A) := fun a o h => by
  have ne : a ≠ A := by
    rintro rfl
    unfold fresh at h
    split at h
    · rename_i z; exact n2 z
    · cases h
  rw [del_ne ne]
  exact fresh_del n a o h
def sp__law_odd_pairs (K : PySem.W.Frag) : Sp := sp2 fun a b H Q E => ∃ (A : Addr) (n c : Nat) (rs : List (Nat × Nat)), a = .ref A ∧ WorldAt K H b n rs ∧ c ≤ 890000 ∧ BoxAt H A c ∧
  ∀ v d H', Ex (L2.del H A) H' → BoxAt H' A (c + 10) → OddR K H (L2.del H' A) v d → Q v H'
section
variable {K : PySem.W.Frag} {mg : Str → Option Value} {P : Program} {w : World} {base : Heap}
theorem ok__law_odd_pairs (T : Tx K mg) : Cal P w K mg base CX0 3 "_law_odd_pairs" ["_law_box_here", "_law_world_here"] (sp__law_odd_pairs K) := by
  refine cal_of (fD__law_odd_pairs T) (T.glo 42 rfl) sc__law_odd_pairs (fun _ _ _ _ _ _ us hl => match us, hl with | [_, _], _ => rfl) (fun vs H Q E h => len2 h) (fun f cdv A outer s H vs Q E hr h => ?_)
  obtain ⟨a, b, rfl, h⟩ := h
  refine ⟨_, (PSs.nox (pss_cons (ps_asg (pe_tup (pa_cons (pe_ix (ix_listK (K := K)) (pv 1) pe_int (fun _ _ => rfl)) (pa_cons (pe_callTy (call_listK (K := K)) (by rfl) (T.free 8 rfl) (by decide +kernel) (pa_cons (pe_ix (ix_listK (K := K)) (pv 1) pe_int (fun _ _ => rfl)) pa_nil)) (pa_cons (pe_c (ok__law_take T) (hr.mono (by decide)) rfl pass0 (pa_cons (pv 0) (pa_cons pe_int pa_nil))) pa_nil)))) (pg_tup rfl (pgs_cons (pg_name (i := 2) sc__law_odd_pairs.nd rfl (Or.inr rfl)) (pgs_cons (pg_name (i := 3) sc__law_odd_pairs.nd rfl (Or.inl rfl)) (pgs_cons (pg_name (i := 4) sc__law_odd_pairs.nd rfl (Or.inl rfl)) pgs_nil)))))
      (pss_cons (ps_if (pt_cmpR op_eq (pv 4) pe_int (nomark _)) (pss_one (ps_ret (pe_ix (ix_listK (K := K)) (pe_lst (pa_cons pe_non (pa_cons pe_str (pa_cons pe_int (pa_cons pe_dnewK (pa_cons pe_bl (pa_cons pe_str (pa_cons pe_int pa_nil)))))))) (pe_c (ok__law_take T) (hr.mono (by decide)) rfl pass0 (pa_cons (pv 0) (pa_cons pe_int pa_nil))) (fun _ _ => rfl)))) pss_nil)
      (pss_cons (ps_set (i := 5) sc__law_odd_pairs.nd rfl (Or.inl rfl) (pe_c (ok__law_take T) (hr.mono (by decide)) rfl pass0 (pa_cons (pv 0) (pa_cons (pe_op op_add (pe_callB (call_lenK (K := K)) (by rfl) (T.free 7 rfl) (by decide +kernel) (pa_cons (pv 3) pa_nil)) pe_int) pa_nil))))
      (pss_cons (ps_if (PW.pt (pw_or (pt_cmpR op_eq (pv 4) pe_int (nomark _)) (pw_or1 (pt_cmpR (op_eqDK (K := K) (hu64 hr.r)) (pv 3) (pe_lst pa_nil) (nomark _))))) (pss_one (ps_ret (pe_op op_cat (pe_op op_cat (pe_slice (sl_listK (K := K)) (pv 3) po_none (po_some (pv 5))) (pe_lst (pa_cons (pe_tup (pa_cons pe_int (pa_cons (pe_callB (call_max2 rfl) (by rfl) (T.free 9 rfl) (by decide +kernel) (pa_cons pe_int (pa_cons (pe_op op_sub (pv 2) pe_int) pa_nil))) pa_nil))) pa_nil))) (pe_slice (sl_listK (K := K)) (pv 3) (po_some (pv 5)) po_none)))) pss_nil)
      (pss_cons (ps_set (i := 5) sc__law_odd_pairs.nd rfl (Or.inl rfl) (pe_callB (call_min2 rfl) (by rfl) (T.free 10 rfl) (by decide +kernel) (pa_cons (pv 5) (pa_cons (pe_op op_sub (pe_callB (call_lenK (K := K)) (by rfl) (T.free 7 rfl) (by decide +kernel) (pa_cons (pv 3) pa_nil)) pe_int) pa_nil))))
      (pss_cons (ps_if (pt_cmpR op_eq (pv 4) pe_int (nomark _)) (pss_one (ps_ret (pe_op op_cat (pe_slice (sl_listK (K := K)) (pv 3) po_none (po_some (pv 5))) (pe_slice (sl_listK (K := K)) (pv 3) (po_some (pe_op op_add (pv 5) pe_int)) po_none)))) pss_nil)
      (pss_cons (ps_if (pt_cmpR op_eq (pv 4) pe_int (nomark _)) (pss_cons (ps_set (i := 6) sc__law_odd_pairs.nd rfl (Or.inl rfl) (pe_c (ok__law_take T) (hr.mono (by decide)) rfl pass0 (pa_cons (pv 0) (pa_cons (pe_callB (call_lenK (K := K)) (by rfl) (T.free 7 rfl) (by decide +kernel) (pa_cons (pv 3) pa_nil)) pa_nil))))
      (pss_cons (ps_set (i := 7) sc__law_odd_pairs.nd rfl (Or.inl rfl) (pe_ix (ix_listK (K := K)) (pv 3) (pv 5) (fun _ _ => rfl)))
      (pss_cons (ps_asg (pe_ix (ix_listK (K := K)) (pv 3) (pv 6) (fun _ _ => rfl)) (pg_sub (pv 3) (pv 5) set_list))
      (pss_cons (ps_asg (pv 7) (pg_sub (pv 3) (pv 6) set_list))
      (pss_one (ps_ret (pv 3))))))) pss_nil)
      (pss_cons (ps_if (pt_cmpR op_eq (pv 4) pe_int (nomark _)) (pss_one (ps_ret (pe_slice (sl_listK (K := K)) (pe_op op_cat (pe_op op_cat (pe_slice (sl_listK (K := K)) (pv 3) po_none (po_some (pv 5))) (pe_lst (pa_cons (pe_ix (ix_listK (K := K)) (pv 3) (pv 5) (fun _ _ => rfl)) pa_nil))) (pe_slice (sl_listK (K := K)) (pv 3) (po_some (pv 5)) po_none)) po_none (po_some (pe_op op_sub (pv 2) pe_int))))) pss_nil)
      (pss_cons (ps_if (pt_cmpR op_eq (pv 4) pe_int (nomark _)) (pss_one (ps_ret (pe_ifExp (pt_cmpR op_eq (pe_c (ok__law_take T) (hr.mono (by decide)) rfl pass0 (pa_cons (pv 0) (pa_cons pe_int pa_nil))) pe_int (nomark _)) (pe_callTy (call_tupK (K := K)) (by rfl) (T.free 15 rfl) (by decide +kernel) (pa_cons (pv 3) pa_nil)) (pe_lc (own := [("_law_pair", 8)]) rfl sc__law_odd_pairs.nd (pi_list (pv 3)) (blkOk_by (own := [("_law_pair", 8)]) (N := ["_law_box_here", "_law_world_here", "_law_many", "_law_pairs", "_law_which", "_law_at", "_law_other_here", "_law_kept", "_law_pair"]) (sc := defScope st__law_odd_pairs) (by decide +kernel)) (fun _ _ _ _ _ => (pg_name (i := 8) sc__law_odd_pairs.nd rfl (Or.inl rfl))) (fun _ _ _ _ _ => pts_nil) (fun _ _ _ _ _ => (pe_callTy (call_listK (K := K)) (by rfl) (T.free 8 rfl) (by decide +kernel) (pa_cons (pv 8) pa_nil))))))) pss_nil)
      (pss_cons (ps_asg (pe_c (ok__law_odd_pair T) (hr.mono (by decide)) rfl pass0 (pa_cons (pv 0) (pa_cons (pe_ix (ix_listK (K := K)) (pv 3) (pv 5) (fun _ _ => rfl)) (pa_cons (pv 2) pa_nil)))) (pg_sub (pv 3) (pv 5) set_list))
      (pss_cons (ps_if (PW.pt (pw_and (pt_cmpR op_lt (pv 4) pe_int (nomark _)) (pw_and1 (pt_cmpR (op_eqNil (K := K) (hu0 hr.r)) (pe_lc (own := [("_law_pair", 8)]) rfl sc__law_odd_pairs.nd (pi_list (pv 3)) (blkOk_by (own := [("_law_pair", 8)]) (N := ["_law_box_here", "_law_world_here", "_law_many", "_law_pairs", "_law_which", "_law_at", "_law_other_here", "_law_kept", "_law_pair"]) (sc := defScope st__law_odd_pairs) (by decide +kernel)) (fun _ _ _ _ _ => (pg_name (i := 8) sc__law_odd_pairs.nd rfl (Or.inl rfl))) (fun _ _ _ _ _ => (pts_one (pt_not (pt_val (pe_c (ok__law_is_pair T) (hr.mono (by decide)) rfl pass0 (pa_cons (pv 8) (pa_cons (pv 2) pa_nil))))))) (fun _ _ _ _ _ => (pv 8))) (pe_lst pa_nil) (nomark _))))) (pss_one (ps_ret (pe_callB (cr_sortedPOK (K := K)) (by rfl) (T.free 13 rfl) (by decide +kernel) (pa_cons (pv 3) pa_nil)))) pss_nil)
      (pss_one (ps_ret (pv 3))))))))))))))), ?_⟩
  obtain ⟨A, n, c, rs, rfl, wo, c9, hb, q⟩ := h
  obtain ⟨W, S, ts, rfl, hW, hS, hts⟩ := wo.at_
  have n1 := wo.ok.n1
  have n16 := wo.ok.n16
  obtain ⟨l0, hA0⟩ := hb.some
  have tpd : F2 (TP (L2.del H A)) rs ts := tp_del hA0 hts
  have hAn : H A ≠ none := by rw [hA0]; simp
  have tl : ts.length = rs.length := tpd.length.symm
  have rl : rs.length = n - 1 := by
    obtain ⟨_, _, _, _, pe⟩ := wo.ok.gr
    rw [pe.length_eq, List.length_map, List.length_range]
  refine seq_at (asg_at ?_)
  refine ⟨_, rfl, W, _, 0, _, rfl, rfl, SqL.of hW, rfl, _, rfl, W, _, 1, _, rfl, rfl, SqL.of hW, rfl, S, ts, rfl, .inl (SqL.of hS), fun L hL => ?_⟩
  have eL := Evl.Ex.new (o := .lst ts) hL
  have LA : L ≠ A := by rintro rfl; rw [hA0] at hL; cases hL
  refine ⟨_, rfl, _, _, rfl, A, 9, c, rfl, rfl, by decide, by decide, by omega, hb.mono eL, fun w1 H2 hw e2 hb2 => ⟨(by show 3 ≤ sizeLine; decide), fun t ht => ⟨t, _, rfl, SqT.of upd_same, rfl, _, _, rfl, _, _, rfl, _, _, rfl, rfl, ?_⟩⟩⟩
  have e02 : Ex (L2.del H A) H2 := ex_of_del (Ex.ofDel.trans eL) del_same e2
  have hL2 := del_get e2 LA (upd_same (H := H) (a := L) (o := .lst ts))
  have et := Evl.Ex.new (o := .tup [iV n, .ref L, .int (w1 : Int)]) ht
  have e03 := e02.trans et
  have hL3 := et _ _ hL2
  have hb3 := hb2.mono et
  have e03' : Ex (L2.del H A) (upd H2 t (.tup [iV n, .ref L, .int (w1 : Int)])) := e03
  have hL3' : upd H2 t (.tup [iV n, .ref L, .int (w1 : Int)]) L = some (.lst ts) := hL3
  have hb3' : BoxAt (upd H2 t (.tup [iV n, .ref L, .int (w1 : Int)])) A (c + 1) := hb3
  show tSeq _ _ _ _ (upd H2 t (.tup [iV n, .ref L, .int (w1 : Int)]))
  generalize upd H2 t (.tup [iV n, .ref L, .int (w1 : Int)]) = H3 at e03' hL3' hb3' ⊢
  clear e03 hL3 hb3 et ht
  dsimp only [gName]
  refine seq_at ?_
  refine ⟨_, rfl, rfl, _, rfl, ?_⟩
  by_cases w0 : w1 = 0
  · rw [decide_eq_true (show V.int (w1 : Int) = V.int 0 by rw [w0]; rfl)]
    refine iteT ?_
    refine fun dd hdd => ⟨(by show 7 ≤ sizeLine; decide), fun M hM => ⟨_, rfl, ?_⟩⟩
    have x1 := Evl.Ex.new (o := .dK []) hdd
    have x2 := Evl.Ex.new (o := .lst [.non, .str "ab", .int 7, .ref dd, .bl true, .str "", .int 0]) hM
    have gd := x2 _ _ (upd_same (H := H3) (a := dd) (o := .dK []))
    have MA : M ≠ A := by rintro rfl; obtain ⟨l, z⟩ := hb3'.some; rw [x1 _ _ z] at hM; cases hM
    have dA : dd ≠ A := by rintro rfl; obtain ⟨l, z⟩ := hb3'.some; rw [z] at hdd; cases hdd
    refine pick_at (E := E0) (m := 7) upd_same MA (hb3'.mono (x1.trans x2)) (by simp) (by simp) (by omega) rfl fun j v H' hv e' hb' => ?_
    have all : ∀ u ∈ [V.non, V.str "ab", V.int 7, V.ref dd, V.bl true, V.str "", V.int 0], ∃ d, OddR K H (L2.del H' A) u d := fun u hu => by
      simp only [List.mem_cons, List.not_mem_nil, or_false] at hu
      rcases hu with rfl | rfl | rfl | rfl | rfl | rfl | rfl
      · exact ⟨_, oddR_flat .non rfl (by decide +kernel) (fun ds z => by cases z)⟩
      · exact ⟨_, oddR_flat (.str _) rfl (by decide +kernel) (fun ds z => by cases z)⟩
      · exact ⟨_, oddR_flat (.int _) rfl (by decide +kernel) (fun ds z => by cases z)⟩
      · exact ⟨_, oddR_flat (.dic (by rw [del_ne dA]; exact del_get e' dA gd)) rfl (by decide +kernel) (fun ds z => by cases z)⟩
      · exact ⟨_, oddR_flat (.bl _) rfl (by decide +kernel) (fun ds z => by cases z)⟩
      · exact ⟨_, oddR_flat (.str _) rfl (by decide +kernel) (fun ds z => by cases z)⟩
      · exact ⟨_, oddR_flat (.int _) rfl (by decide +kernel) (fun ds z => by cases z)⟩
    obtain ⟨d, hd⟩ := all v (List.mem_of_getElem? hv)
    exact q v d H' (ex_of_del (e03'.trans (x1.trans x2)) del_same e') (hb'.up (by omega)) hd
  rw [decide_eq_false (show ¬ V.int (w1 : Int) = V.int 0 from fun z => w0 (by have := V.int.inj z; omega))]
  refine iteF ?_
  dsimp only [tNext]
  refine seq_at (asg_at ?_)
  refine ⟨_, rfl, _, rfl, L, ts, rfl, .inl (SqL.of hL3'), _, _, rfl, rfl, _, _, rfl, A, rs.length + 1, c + 1, rfl, (by rw [tl]; rfl), by omega, by omega, by omega, hb3', fun at_ H4 hat e4 hb4 => ?_⟩
  have e04 : Ex (L2.del H A) H4 := ex_of_del e03' del_same e4
  have hL4 := del_get e4 LA hL3'
  have okR : ∀ x ∈ rs.map pairD, OddP x := fun x hx => by
    obtain ⟨p, hp, rfl⟩ := List.mem_map.mp hx
    have := wo.ok.sub.1 p hp
    exact odd_pairD (by omega) (by omega)
  have base : ∀ {H' : Hp} {M : Addr}, Ex (L2.del H A) H' → H M = none → Dqs K (L2.del (L2.del H' M) A) ts (rs.map pairD) := fun e n => (tp_dqs (K := K) tpd).mono (ex_del_self (ex_del_new e n))
  have nw : ∀ {H' : Hp} {M : Addr} {c' : Nat}, Ex (L2.del H A) H' → BoxAt H' A c' → H' M = none → H M = none := fun e b n => by
    obtain ⟨l, z⟩ := b.some
    exact new_of e z n
  dsimp only [gName]
  refine seq_at ?_
  refine ifS_split (fun H' => Ex H4 H') (fun H' => Ex H4 H' ∧ w1 ≠ 1 ∧ rs ≠ []) ?_ ?_ ?_
  rotate_left 2
  · intro R hT hF
    refine ⟨_, rfl, rfl, _, rfl, ?_⟩
    by_cases w2 : w1 = 1
    · rw [decide_eq_true (show V.int (w1 : Int) = V.int 1 by rw [w2]; rfl)]
      exact hT _ (Evl.Ex.refl _)
    · rw [decide_eq_false (show ¬ V.int (w1 : Int) = V.int 1 from fun z => w2 (by have := V.int.inj z; omega))]
      refine ⟨_, rfl, Nat.zero_le _, fun d hd => ?_⟩
      have ed := Evl.Ex.new (o := .lst []) hd
      refine ⟨.list (rs.map pairD), .list [], (Dq.lst (SqL.of (ed _ _ hL4)) ((tp_dqs tpd).mono (e04.trans ed))).dp (SeqAt.canLay_of_shaped (shaped_rdsL rs)), dp_list (l := []) upd_same, shaped_rdsL rs, shaped_rdsL [], _, rfl, ?_⟩
      cases rs with
      | nil => exact hT _ ed
      | cons p rs => exact hF _ ⟨ed, w2, by simp⟩
  · intro H5 e5
    have hL5 := e5 _ _ hL4
    have hb5 := hb4.mono e5
    have e05 := e04.trans e5
    obtain ⟨m, em, hm⟩ : ∃ m : Nat, (if (n : Int) - 1 > 1 then (n : Int) - 1 else 1) = (m : Int) ∧ m < 128 := by
      by_cases z : (n : Int) - 1 > 1
      · exact ⟨n - 1, by rw [if_pos z]; omega, by omega⟩
      · exact ⟨1, by rw [if_neg z]; rfl, by omega⟩
    refine ret_at ?_
    refine ⟨_, rfl, _, rfl, at_, rfl, L, ts, rfl, SqL.of hL5, fun p1 hp1 => ⟨_, rfl, _, _, rfl, rfl, _, _, rfl, (by show 2 ≤ sizeLine; decide), fun t2 ht2 => ⟨(by show 1 ≤ sizeLine; decide), fun l2 hl2 => ?_⟩⟩⟩
    rw [em, cut_take] at *
    have y1 := Evl.Ex.new (o := .lst (ts.take at_)) hp1
    have y2 := Evl.Ex.new (o := .tup [.int 0, .int (m : Int)]) ht2
    have y3 := Evl.Ex.new (o := .lst [.ref t2]) hl2
    have gp1 := y3 _ _ (y2 _ _ (upd_same (H := H5) (a := p1) (o := .lst (ts.take at_))))
    have gt2 := y3 _ _ (upd_same (H := upd H5 p1 (.lst (ts.take at_))) (a := t2) (o := .tup [.int 0, .int (m : Int)]))
    refine ⟨p1, l2, _, _, rfl, rfl, gp1, upd_same, by rw [List.length_take, sizeLine_eq]; simp; omega, fun p3 hp3 => ?_⟩
    have y4 := Evl.Ex.new (o := .lst (ts.take at_ ++ [.ref t2])) hp3
    have y14 := ((y1.trans y2).trans y3).trans y4
    refine ⟨_, rfl, _, rfl, at_, rfl, L, ts, rfl, SqL.of (y14 _ _ hL5), fun p4 hp4 => ?_⟩
    rw [cut_drop] at *
    have y5 := Evl.Ex.new (o := .lst (ts.drop at_)) hp4
    refine ⟨p3, p4, _, _, rfl, rfl, y5 _ _ upd_same, upd_same, by simp only [List.length_append, List.length_take, List.length_drop]; rw [sizeLine_eq]; simp; omega, fun p5 hp5 => ?_⟩
    have y6 := Evl.Ex.new (o := .lst ((ts.take at_ ++ [.ref t2]) ++ ts.drop at_)) hp5
    have y15 := y14.trans y5
    have n5 := nw (e05.trans y15) (hb5.mono y15) hp5
    have gt5 := y5 _ _ (y4 _ _ gt2)
    refine q _ (.list (((rs.map pairD).take at_ ++ [pairD (0, m)]) ++ (rs.map pairD).drop at_)) _ ((e05.trans y15).trans y6) ((hb5.mono (y15.trans y6)).up (by omega)) (oddR_list hAn n5 upd_same ?_ ?_ ?_)
    · rw [del_upd]
      have b := base (e05.trans y15) n5
      have ne : t2 ≠ p5 := by rintro rfl; rw [gt5] at hp5; cases hp5
      have neA : t2 ≠ A := by rintro rfl; obtain ⟨l, z⟩ := (hb5.mono y1).some; rw [z] at ht2; cases ht2
      refine ((b.take at_).append (.cons ?_ .nil)).append (b.drop at_)
      exact .tup (SqT.of (by rw [del_ne neA, del_ne ne]; exact gt5)) (.cons (.int _) (.cons (.int _) .nil))
    · simp only [List.length_append, List.length_take, List.length_drop, List.length_map, List.length_singleton]; omega
    · intro x hx
      rcases List.mem_append.1 hx with hx | hx
      · rcases List.mem_append.1 hx with hx | hx
        · exact okR x (List.mem_of_mem_take hx)
        · rw [List.mem_singleton.mp hx]; exact odd_pairD (by show 0 < 128; decide) hm
      · exact okR x (List.mem_of_mem_drop hx)
  · rintro H5 ⟨e5, w2, rne⟩
    have hL5 := e5 _ _ hL4
    have hb5 := hb4.mono e5
    have e05 := e04.trans e5
    have rpos : 0 < rs.length := List.length_pos_iff.mpr rne
    dsimp only [tNext]
    refine seq_at (asg_at ?_)
    refine ⟨_, rfl, _, rfl, L, ts, rfl, .inl (SqL.of hL5), _, _, rfl, rfl, _, _, rfl, ?_⟩
    obtain ⟨k, ek, hk⟩ : ∃ k : Nat, (if (ts.length : Int) - 1 < (at_ : Int) then (ts.length : Int) - 1 else (at_ : Int)) = (k : Int) ∧ k < rs.length := by
      by_cases z : (ts.length : Int) - 1 < (at_ : Int)
      · exact ⟨rs.length - 1, by rw [if_pos z]; omega, by omega⟩
      · exact ⟨at_, by rw [if_neg z], by omega⟩
    rw [ek]
    dsimp only [gName]
    clear ek hat e4 hb4 hL4
    refine seq_at ?_
    refine ⟨_, rfl, rfl, _, rfl, ?_⟩
    by_cases w3 : w1 = 2
    · rw [decide_eq_true (show V.int (w1 : Int) = V.int 2 by rw [w3]; rfl)]
      refine iteT ?_
      refine ⟨_, rfl, _, rfl, k, rfl, L, ts, rfl, SqL.of hL5, fun p1 hp1 => ?_⟩
      have y1 := Evl.Ex.new (o := .lst (cutV ts none (some (k : Int)))) hp1
      refine ⟨_, rfl, _, rfl, _, _, rfl, rfl, (k : Int) + 1, rfl, L, ts, rfl, SqL.of (y1 _ _ hL5), fun p2 hp2 => ?_⟩
      rw [show ((k : Int) + 1) = ((k + 1 : Nat) : Int) by omega, cut_take, cut_drop] at *
      have y2 := Evl.Ex.new (o := .lst (ts.drop (k + 1))) hp2
      refine ⟨p1, p2, _, _, rfl, rfl, y2 _ _ upd_same, upd_same, by simp only [List.length_take, List.length_drop]; rw [sizeLine_eq]; omega, fun p5 hp5 => ?_⟩
      have y6 := Evl.Ex.new (o := .lst (ts.take k ++ ts.drop (k + 1))) hp5
      have n5 := nw (e05.trans (y1.trans y2)) (hb5.mono (y1.trans y2)) hp5
      refine q _ (.list ((rs.map pairD).take k ++ (rs.map pairD).drop (k + 1))) _ ((e05.trans (y1.trans y2)).trans y6) ((hb5.mono ((y1.trans y2).trans y6)).up (by omega)) (oddR_list hAn n5 upd_same ?_ ?_ ?_)
      · rw [del_upd]
        have b := base (e05.trans (y1.trans y2)) n5
        exact (b.take k).append (b.drop (k + 1))
      · simp only [List.length_append, List.length_take, List.length_drop, List.length_map]; omega
      · intro x hx
        rcases List.mem_append.1 hx with hx | hx
        · exact okR x (List.mem_of_mem_take hx)
        · exact okR x (List.mem_of_mem_drop hx)
    rw [decide_eq_false (show ¬ V.int (w1 : Int) = V.int 2 from fun z => w3 (by have := V.int.inj z; omega))]
    refine iteF ?_
    dsimp only [tNext]
    refine seq_at ?_
    refine ⟨_, rfl, rfl, _, rfl, ?_⟩
    clear w3
    have hk' : k < ts.length := by omega
    have gk : ts[k]? = some ts[k] := List.getElem?_eq_getElem hk'
    by_cases w3 : w1 = 3
    · rw [decide_eq_true (show V.int (w1 : Int) = V.int 3 by rw [w3]; rfl)]
      refine iteT ?_
      refine seq_at (asg_at ?_)
      refine ⟨_, rfl, _, rfl, L, ts, rfl, .inl (SqL.of hL5), _, _, rfl, A, rs.length, c + 2, rfl, by rw [tl], by omega, by omega, by omega, hb5, fun o H6 ho e6 hb6 => ?_⟩
      have hL6 := del_get e6 LA hL5
      have e06 := ex_of_del e05 del_same e6
      have ho' : o < ts.length := by omega
      have go : ts[o]? = some ts[o] := List.getElem?_eq_getElem ho'
      dsimp only [gName]
      refine seq_at (asg_at ?_)
      refine ⟨_, rfl, _, rfl, L, ts, _, _, rfl, rfl, SqL.of hL6, atI_nat gk, ?_⟩
      dsimp only [gName]
      refine seq_at (asg_at ?_)
      refine ⟨_, rfl, _, rfl, L, ts, _, _, rfl, rfl, SqL.of hL6, atI_nat go, ?_⟩
      refine ⟨_, rfl, _, rfl, L, ts, _, _, rfl, rfl, hL6, Evl.ixN_nat hk', ?_⟩
      dsimp only
      refine seq_at (asg_at ?_)
      refine ⟨_, rfl, _, rfl, _, rfl, L, _, _, _, rfl, rfl, upd_same, Evl.ixN_nat (by rw [List.length_set]; exact ho'), ?_⟩
      dsimp only
      refine ret_at ?_
      have b := base e06 hL
      have gk2 : (rs.map pairD)[k]? = some (pairD (rs[k]'(by omega))) := by rw [List.getElem?_map, List.getElem?_eq_getElem hk]; rfl
      have go2 : (rs.map pairD)[o]? = some (pairD (rs[o]'(by omega))) := by rw [List.getElem?_map, List.getElem?_eq_getElem ho]; rfl
      obtain ⟨x1, z1, z2⟩ := b.at_ gk2
      obtain ⟨x2, z3, z4⟩ := b.at_ go2
      rw [gk] at z1; cases z1
      rw [go] at z3; cases z3
      have eA : Ex (L2.del H A) (upd (upd H6 L (.lst (ts.set k ts[o]))) L (.lst ((ts.set k ts[o]).set o ts[k]))) := Evl.Ex.mut (Evl.Ex.mut e06 (by rw [del_ne LA]; exact hL)) (by rw [del_ne LA]; exact hL)
      refine ⟨_, rfl, q _ (.list (((rs.map pairD).set k (pairD (rs[o]'(by omega)))).set o (pairD (rs[k]'(by omega))))) _ eA ?_ (oddR_list hAn hL upd_same ?_ ?_ ?_)⟩
      · obtain ⟨x, b', y, z, h1, h2⟩ := hb6
        exact ⟨x, b', y, z, by rw [upd_ne LA.symm, upd_ne LA.symm]; exact h1, by omega⟩
      · rw [del_upd, del_upd]
        exact (b.set k z4).set o z2
      · simp only [List.length_set, List.length_map]; omega
      · intro x hx
        rcases List.mem_or_eq_of_mem_set hx with hx | rfl
        · rcases List.mem_or_eq_of_mem_set hx with hx | rfl
          · exact okR x hx
          · exact okR _ (List.mem_of_getElem? go2)
        · exact okR _ (List.mem_of_getElem? gk2)
    rw [decide_eq_false (show ¬ V.int (w1 : Int) = V.int 3 from fun z => w3 (by have := V.int.inj z; omega))]
    refine iteF ?_
    dsimp only [tNext]
    refine seq_at ?_
    refine ⟨_, rfl, rfl, _, rfl, ?_⟩
    clear w3
    by_cases w3 : w1 = 4
    · rw [decide_eq_true (show V.int (w1 : Int) = V.int 4 by rw [w3]; rfl)]
      refine iteT ?_
      refine ⟨_, rfl, _, rfl, k, rfl, L, ts, rfl, SqL.of hL5, fun p1 hp1 => ?_⟩
      have y1 := Evl.Ex.new (o := .lst (cutV ts none (some (k : Int)))) hp1
      refine ⟨_, rfl, _, rfl, L, ts, _, _, rfl, rfl, SqL.of (y1 _ _ hL5), atI_nat gk, (by show 1 ≤ sizeLine; decide), fun p2 hp2 => ?_⟩
      rw [cut_take] at *
      have y2 := Evl.Ex.new (o := .lst [ts[k]]) hp2
      refine ⟨p1, p2, _, _, rfl, rfl, y2 _ _ upd_same, upd_same, by simp only [List.length_take, List.length_singleton]; rw [sizeLine_eq]; omega, fun p3 hp3 => ?_⟩
      have y3 := Evl.Ex.new (o := .lst (ts.take k ++ [ts[k]])) hp3
      have y13 := (y1.trans y2).trans y3
      refine ⟨_, rfl, _, rfl, k, rfl, L, ts, rfl, SqL.of (y13 _ _ hL5), fun p4 hp4 => ?_⟩
      rw [cut_drop] at *
      have y4 := Evl.Ex.new (o := .lst (ts.drop k)) hp4
      refine ⟨p3, p4, _, _, rfl, rfl, y4 _ _ upd_same, upd_same, by simp only [List.length_append, List.length_take, List.length_drop, List.length_singleton]; rw [sizeLine_eq]; omega, fun p5 hp5 => ?_⟩
      have y5 := Evl.Ex.new (o := .lst ((ts.take k ++ [ts[k]]) ++ ts.drop k)) hp5
      have y15 := (y13.trans y4).trans y5
      refine ⟨_, rfl, _, _, rfl, rfl, (n : Int) - 1, rfl, p5, _, rfl, SqL.of upd_same, fun p6 hp6 => ?_⟩
      rw [show ((n : Int) - 1) = ((n - 1 : Nat) : Int) by omega, cut_take] at *
      have y6 := Evl.Ex.new (o := .lst (((ts.take k ++ [ts[k]]) ++ ts.drop k).take (n - 1))) hp6
      have n6 := nw (e05.trans y15) (hb5.mono y15) hp6
      have gk2 : (rs.map pairD)[k]? = some (pairD (rs[k]'(by omega))) := by rw [List.getElem?_map, List.getElem?_eq_getElem hk]; rfl
      refine q _ (.list ((((rs.map pairD).take k ++ [pairD (rs[k]'(by omega))]) ++ (rs.map pairD).drop k).take (n - 1))) _ ((e05.trans y15).trans y6) ((hb5.mono (y15.trans y6)).up (by omega)) (oddR_list hAn n6 upd_same ?_ ?_ ?_)
      · rw [del_upd]
        have b := base (e05.trans y15) n6
        obtain ⟨x1, z1, z2⟩ := b.at_ gk2
        rw [gk] at z1; cases z1
        exact (((b.take k).append (.cons z2 .nil)).append (b.drop k)).take (n - 1)
      · simp only [List.length_append, List.length_take, List.length_drop, List.length_map, List.length_singleton]; omega
      · intro x hx
        rcases List.mem_append.mp (List.mem_of_mem_take hx) with hx | hx
        · rcases List.mem_append.1 hx with hx | hx
          · exact okR x (List.mem_of_mem_take hx)
          · rw [List.mem_singleton.mp hx]; exact okR _ (List.mem_of_getElem? gk2)
        · exact okR x (List.mem_of_mem_drop hx)
    rw [decide_eq_false (show ¬ V.int (w1 : Int) = V.int 4 from fun z => w3 (by have := V.int.inj z; omega))]
    refine iteF ?_
    dsimp only [tNext]
    refine seq_at ?_
    refine ⟨_, rfl, rfl, _, rfl, ?_⟩
    clear w3
    by_cases w3 : w1 = 5
    · rw [decide_eq_true (show V.int (w1 : Int) = V.int 5 by rw [w3]; rfl)]
      refine iteT ?_
      refine ⟨_, rfl, _, _, rfl, A, 2, c + 2, rfl, rfl, by decide, by decide, by omega, hb5, fun o H6 ho e6 hb6 => ⟨rfl, _, rfl, ?_⟩⟩
      have hL6 := del_get e6 LA hL5
      have e06 := ex_of_del e05 del_same e6
      by_cases o0 : o = 0
      · rw [decide_eq_true (show V.int (o : Int) = V.int 0 by rw [o0]; rfl)]
        refine iteT ?_
        refine ⟨_, rfl, L, ts, rfl, .inl ⟨SqL.of hL6, fun p hp => ?_⟩⟩
        have yp := Evl.Ex.new (o := .tup ts) hp
        have pA : p ≠ A := by rintro rfl; obtain ⟨l, z⟩ := hb6.some; rw [z] at hp; cases hp
        have dd : Dqs K (L2.del (upd H6 p (.tup ts)) A) ts (rs.map pairD) := (tp_dqs tpd).mono (ex_del_self (e06.trans yp))
        refine q _ (.tuple (rs.map pairD)) _ (e06.trans yp) ((hb6.mono yp).up (by omega)) ⟨.tup (SqT.of (by rw [del_ne pA]; exact upd_same)) dd, by simp only [items, List.length_map]; omega, fun x hx => (okR x hx).it, (Small.tuple (w := 400) (p := 4) fun x m => (okR x m).sm).mono (by simp only [List.length_map]; omega) (by decide), fun ds e => by cases e⟩
      · rw [decide_eq_false (show ¬ V.int (o : Int) = V.int 0 from fun z => o0 (by have := V.int.inj z; omega))]
        refine iteF ?_
        refine lc_at (n := ts.length) (item := nth ts) (fun _ => true) (fun z D y H' => ∃ a, y = .ref a ∧ (a ≠ D ∧ a ≠ A) ∧ H' a = some (.lst [iV (rs[z]?.getD (0, 0)).1, iV (rs[z]?.getD (0, 0)).2])) (line_big (by omega)) (fun P q => l_list rfl (SqL.of hL6) q) ?_ ?_ ?_ ?_
        · rintro z D y H' o' hD ⟨a, h1, h2, h3⟩
          exact ⟨a, h1, h2, by rw [upd_ne h2.1]; exact h3⟩
        · rintro z D y H' H'' e' ⟨a, h1, h2, h3⟩
          exact ⟨a, h1, h2, e' _ _ h3⟩
        · rintro z D H' hz hD e' ⟨acc, hacc⟩ Ny Nn hy hn
          have hz' : z < rs.length := by omega
          have gz : rs[z]? = some rs[z] := List.getElem?_eq_getElem hz'
          obtain ⟨_, h1, tz, rfl, h2⟩ := f2_get tpd gz
          have ez : nth ts z = .ref tz := by unfold nth; rw [h1]; rfl
          rw [ez]
          refine ⟨rfl, ?_⟩
          refine ⟨_, rfl, tz, _, rfl, .inr (SqT.of (e' _ _ (e06 _ _ h2))), fun l hl => hy _ _ rfl (Evl.Ex.new hl) ⟨l, rfl, ?_, ?_⟩⟩
          · refine ⟨?_, ?_⟩
            · rintro rfl; rw [hacc] at hl; cases hl
            · rintro rfl; obtain ⟨l', z'⟩ := (hb6.mono e').some; rw [z'] at hl; cases hl
          · rw [upd_same, gz]; rfl
        · intro D ys H' hD e' hd f
          have b7 := hb6.mono e'
          have nD : H D = none := by
            obtain ⟨l, z⟩ := hb6.some
            exact new_of e06 z hD
          rw [range_all, tl] at f
          have dq : Dqs K (L2.del (L2.del H' D) A) ys ((List.range rs.length).map fun z => PyData.list [intD (rs[z]?.getD (0, 0)).1, intD (rs[z]?.getD (0, 0)).2]) := f2_dq (f.imp fun z y ⟨a, h1, h2, h3⟩ => h1 ▸ .lst (SqL.of (by rw [del_ne h2.2, del_ne h2.1]; exact h3)) (.cons (.int _) (.cons (.int _) .nil)))
          refine q _ _ _ (e06.trans e') (b7.up (by omega)) (oddR_list hAn nD hd dq (by simp only [List.length_map, List.length_range]; omega) fun x hx => ?_)
          obtain ⟨z, hz, rfl⟩ := List.mem_map.mp hx
          have hz' := List.mem_range.mp hz
          rw [List.getElem?_eq_getElem hz']
          have := wo.ok.sub.1 _ (List.getElem_mem hz')
          refine ⟨(Small.list (w := 8) (p := 1) fun x m => ?_).mono (by simp) (by decide), by simp [items]⟩
          rcases List.mem_cons.mp m with rfl | m
          · exact Small.nat (by show (rs[z]'hz').1 < 128; omega)
          · rw [List.mem_singleton.mp m]; exact Small.nat (by show (rs[z]'hz').2 < 128; omega)
    rw [decide_eq_false (show ¬ V.int (w1 : Int) = V.int 5 from fun z => w3 (by have := V.int.inj z; omega))]
    refine iteF ?_
    dsimp only [tNext]
    have gk2 : rs[k]? = some rs[k] := List.getElem?_eq_getElem hk
    obtain ⟨_, h1, tk, h2, h3⟩ := f2_get tpd gk2
    rw [gk] at h1
    cases h1
    refine seq_at (asg_at ?_)
    refine ⟨_, rfl, _, rfl, _, rfl, L, ts, _, _, rfl, rfl, SqL.of hL5, atI_nat gk, _, rfl, ?_⟩
    have lk := wo.ok.sub.1 _ (List.getElem_mem hk)
    refine ⟨_, _, _, rfl, A, n, c + 2, rs[k].1, rs[k].2, rfl, (by rw [h2]; exact .tup (SqT.of (e05 _ _ h3)) (.cons (.int _) (.cons (.int _) .nil)) : Dq K H5 ts[k] (pairD (rs[k].1, rs[k].2))), rfl, by omega, by omega, n1, n16, by omega, hb5, fun v d H6 e6 hb6 hd ht ho => ?_⟩
    have hL6 := del_get e6 LA hL5
    have e06 := ex_of_del e05 del_same e6
    have nL5 : H5 L ≠ none := by rw [hL5]; simp
    refine ⟨_, rfl, _, rfl, L, ts, _, _, rfl, rfl, hL6, Evl.ixN_nat hk', ?_⟩
    have eA : Ex (L2.del H A) (upd H6 L (.lst (ts.set k v))) := Evl.Ex.mut e06 (by rw [del_ne LA]; exact hL)
    have b := base e06 hL
    have hA5 : H5 A ≠ none := by obtain ⟨l, z⟩ := hb5.some; rw [z]; simp
    have dd : Dqs K (L2.del (L2.del (upd H6 L (.lst (ts.set k v))) L) A) (ts.set k v) ((rs.map pairD).set k d) := by
      rw [del_upd]
      exact b.set k (hd.mono (fresh_del2 nL5 hA5))
    have trk : ∀ (i : Nat) (x : V) (y : PyData), (ts.set k v)[i]? = some x → ((rs.map pairD).set k d)[i]? = some y → Trk (L2.del (upd H6 L (.lst (ts.set k v))) L) x y := by
      intro i x y hx hy
      rw [del_upd]
      by_cases ik : k = i
      · subst ik
        rw [List.getElem?_set_self hk'] at hx
        rw [List.getElem?_set_self (by rw [List.length_map]; exact hk)] at hy
        cases hx; cases hy
        exact ht.mono (fresh_del nL5)
      · rw [List.getElem?_set_ne ik] at hx hy
        rw [List.getElem?_map] at hy
        obtain ⟨p, hp, rfl⟩ := Option.map_eq_some_iff.mp hy
        obtain ⟨_, h1, t', h2, h3⟩ := f2_get tpd hp
        rw [hx] at h1
        cases h1
        subst h2
        exact .two (K := K) (ex_del_new e06 hL _ _ h3) (.int _) (.int _)
    have hb7 : BoxAt (upd H6 L (.lst (ts.set k v))) A (c + 5) := by
      obtain ⟨x, b', y, z, h1, h2⟩ := hb6
      exact ⟨x, b', y, z, by rw [upd_ne LA.symm]; exact h1, by omega⟩
    have hL7 : upd H6 L (.lst (ts.set k v)) L = some (.lst (ts.set k v)) := upd_same
    have ok7 : ∀ x ∈ (rs.map pairD).set k d, OddP x := fun x hx => by
      rcases List.mem_or_eq_of_mem_set hx with hx | rfl
      · exact okR x hx
      · exact ho
    have l7 : ((rs.map pairD).set k d).length = rs.length := by simp
    have lt7 : (ts.set k v).length = rs.length := by simp [tl]
    generalize upd H6 L (.lst (ts.set k v)) = H7 at eA dd trk hb7 hL7 ⊢
    generalize (rs.map pairD).set k d = ds at dd trk ok7 l7
    generalize ts.set k v = xs at dd trk hL7 lt7
    dsimp only
    refine seq_at ?_
    refine ifS_split (fun H' => Ex H7 H' ∧ ∀ x ∈ ds, isRd x n = true) (fun H' => Ex H7 H') ?_ ?_ ?_
    rotate_left 2
    · intro R hT hF
      refine ⟨_, rfl, _, _, rfl, rfl, _, rfl, ?_⟩
      by_cases w8 : (w1 : Int) < 8
      · rw [decide_eq_true w8]
        refine iteT ?_
        dsimp only [tTest, tOp]
        refine lc_at (n := xs.length) (item := nth xs) (fun i => !isRd (ds[i]?.getD .none) n) (fun z D y H' => True) (line_big (by omega)) (fun P q => l_list (i := 3) rfl (SqL.of hL7) q) (fun _ _ _ _ _ _ _ => trivial) (fun _ _ _ _ _ _ _ => trivial) ?_ ?_
        · rintro z D H' hz hD e' ⟨acc, hacc⟩ Ny Nn hy hn
          obtain ⟨dz, g1, g2⟩ := dqs_nth dd hz
          have ez : (ds[z]?.getD .none) = dz := by rw [g1]; rfl
          refine ⟨rfl, ?_⟩
          refine ⟨_, rfl, _, rfl, _, _, rfl, dz, n, ((g2.mono Ex.ofDel).mono Ex.ofDel).mono e', rfl, (by have := (ok7 dz (List.mem_of_getElem? g1)).it; omega), _, rfl, ?_⟩
          cases er : isRd dz n with
          | true => refine iteF ?_; exact hn _ (by rw [ez, er]; rfl) (Evl.Ex.refl _)
          | false => refine iteT ?_; exact ⟨_, rfl, hy _ _ (by rw [ez, er]; rfl) (Evl.Ex.refl _) trivial⟩
        · intro D ys H' hD e' hd' f
          have len := f.length
          refine ⟨Nat.zero_le _, fun d2 hd2 => ⟨D, ys, d2, rfl, rfl, SqL.of (Evl.Ex.new hd2 _ _ hd'), SqL.of upd_same, _, rfl, ?_⟩⟩
          have eD := e'.trans (Evl.Ex.new (o := .lst []) hd2)
          cases ys with
          | nil =>
            refine hT _ ⟨eD, fun x hx => ?_⟩
            obtain ⟨z, hz, ez⟩ := List.getElem_of_mem hx
            have hnil : (List.range xs.length).filter (fun i => !isRd (ds[i]?.getD .none) n) = [] := List.eq_nil_of_length_eq_zero len
            have := List.filter_eq_nil_iff.mp hnil z (List.mem_range.mpr (by omega))
            rw [List.getElem?_eq_getElem hz, ez] at this
            simpa using this
          | cons y ys => exact hF _ eD
      · rw [decide_eq_false w8]
        refine iteF ?_
        exact hF _ (Evl.Ex.refl _)
    · rintro H8 ⟨e8, all⟩
      refine ret_at ?_
      have e08 := eA.trans e8
      have b8 := hb7.mono e8
      refine ⟨_, rfl, L, xs, (fun v : V => match v with | .ref t => (match H8 t with | some (.tup [.int i, .int j]) => (i, j) | _ => (0, 0)) | _ => ((0, 0) : Int × Int)), rfl, SqL.of (e8 _ _ hL7), fun x hx => ?_, fun ys q0 hs hst hq => ?_⟩
      · obtain ⟨z, hz, rfl⟩ := List.getElem_of_mem hx
        obtain ⟨dz, g1, g2⟩ := dd.get (List.getElem?_eq_getElem hz)
        obtain ⟨u, v', rfl, _⟩ := isRd_of (all dz (List.mem_of_getElem? g1))
        obtain ⟨t, ht1, ht2⟩ := trk z _ _ (List.getElem?_eq_getElem hz) g1 u v' rfl
        have ht3 := e8 _ _ (Ex.ofDel _ _ ht2)
        rw [ht1]
        exact ⟨t, rfl, by simp only [ht3]⟩
      · have nq := nw e08 b8 hq
        have out : Ex H8 (L2.del H8 q0) := fun a o z => by
          have ne : a ≠ q0 := by rintro rfl; rw [hq] at z; cases z
          rw [del_ne ne]; exact z
        obtain ⟨es, he1, he2⟩ := dqs_some (K := K) (H := L2.del (L2.del H8 q0) A) (P := OddP) ys fun v hv => by
          obtain ⟨z, hz, rfl⟩ := List.getElem_of_mem (hst.perm.mem_iff.mp hv)
          obtain ⟨dz, g1, g2⟩ := dd.get (List.getElem?_eq_getElem hz)
          exact ⟨dz, g2.mono (Ex.del ((Ex.ofDel.trans e8).trans out)), ok7 dz (List.mem_of_getElem? g1)⟩
        refine q _ _ _ (e08.trans (Evl.Ex.new hq)) ((b8.mono (Evl.Ex.new hq)).up (by omega)) (oddR_list hAn nq upd_same (by rw [del_upd]; exact he1) ?_ he2)
        rw [← he1.length, hst.perm.length_eq]; omega
    · intro H8 e8
      dsimp only [tNext]
      refine ret_at ?_
      refine ⟨_, rfl, q _ _ _ (eA.trans e8) ((hb7.mono e8).up (by omega)) (oddR_list hAn hL (e8 _ _ hL7) (dd.mono (Ex.del (Ex.del e8))) (by omega) ok7)⟩
end

end T1

namespace T1
open PySem PySem.Spec PyProof.Rows L2 G
open Evl (Ex)
local macro_rules | `(tactic| walk_at "dd") => `(tactic| (dsimp only [tCB, tCons, tNil, tC, tOp, tUn, tTest, tB, tVar, tAndV, tOrV, tNotV, tIf, tAnd, tOr, tNot, tSeq, tRet, tRetN, tIfS, tAsg, gName, tDrop, tTup, tLst, tChain, tNext, tCall, L2.start]))
section
variable {X : Cx} {K : PySem.W.Frag}
/-- Tree(a, b) where it is known to succeed -/
theorem tree_mk {a b : Expr} {ta : TA} {p pos : Pos} (T : Tx X.K X.mg) (hr : RG 6 X.A) (hg : Gl X "Tree") (ha : PA X [a, b] ta) (h : X.K = K := by rfl)
    (one : OneByOne X a [b] pos := by exact ⟨rfl, rfl⟩) :
    PE X (.Call (.Name "Tree" p) [a, b] [] pos) (tGM (He.ga K "Tree") 2 0 (sp_Tree___init__ K) (fun us _ => us) E0 ta tNil) := by
  subst h
  obtain ⟨fd, F, G⟩ := ok_Tree___init__ (P := X.prog) (w := X.w) (base := X.base) T
  exact pe_gmk (mk_Tree T) G hr hg (T.glo 9 rfl) (kb_of F 3 [] (fun us _ => us) (fun r _ => r) fun _ _ _ _ _ _ us ws hl hl2 => match us, ws, hl, hl2 with | [_, _, _], [], _, _ => rfl) passL ha (by decide) one
/-- Tree(houses=a, roads=b) -/
theorem tree_mkK {kws : List Keyword} {tk : TA} {p pos : Pos} (T : Tx X.K X.mg) (hr : RG 6 X.A) (hg : Gl X "Tree") (hkw : PK X kws tk) (h : X.K = K := by rfl)
    (nk : NamedOnly X kws pos ["houses", "roads"] := by exact ⟨rfl, rfl, rfl⟩) :
    PE X (.Call (.Name "Tree" p) [] kws pos) (tGM (He.ga K "Tree") 0 2 (sp_Tree___init__ K) (fun us ws => us ++ ws) E0 tNil tk) := by
  subst h
  obtain ⟨fd, F, G⟩ := ok_Tree___init__ (P := X.prog) (w := X.w) (base := X.base) T
  exact pe_gmk0 (ks := ["houses", "roads"]) (mk_Tree T) G hr hg (T.glo 9 rfl) (kb_of F 1 ["houses", "roads"] (fun us ws => us ++ ws) (fun r r' => vals_app r r') fun _ _ _ _ _ _ us ws hl hl2 => match us, ws, hl, hl2 with | [_], [_, _], _, _ => rfl) passL hkw nk (by decide)
end
theorem okN_nat {n : Nat} (h1 : 1 ≤ n) (h2 : n ≤ 16) : okN (.int (n : Int)) = true := by
  simp only [okN, Bool.and_eq_true, decide_eq_true_eq]; omega
/-- a tree is made, no way out but the good one -/
theorem tree_made {K : PySem.W.Frag} {H : Hp} {a b : V} {d2 : PyData} {n : Nat} {Q : Addr → Hp → Prop} (ha : Dq K H a (.int (n : Int))) (hb : Dq K H b d2) (ar : areRds d2 n = true) (n1 : 1 ≤ n) (n16 : n ≤ 16) (b1 : (items d2).length ≤ 100000) (b2 : ∀ x ∈ items d2, (items x).length ≤ 100000)
    (con : ∀ F, M.Ways (nbs n (rdsOf d2)) 0 F → ∀ v, v < n → M.at_ F v ≠ []) (q : ∀ t H' Fs, Ex H H' → H t = none → TreeAt K H' t n (rdsOf d2) Fs → Q t H') :
    ∀ x dx, H x = none → H dx = none → dx ≠ x → sp_Tree___init__ K [.ref x, a, b] (upd (upd H dx (.own x)) x (.ins (He.ga K "Tree") dx [])) (fun v H3 => v = .non ∧ Q x H3) E0 := by
  intro x dx hx hdx ne
  have eX : Ex H (upd (upd H dx (.own x)) x (.ins (He.ga K "Tree") dx [])) := fun b z e => by rw [upd_ne (ne_of_none e hx), upd_ne (ne_of_none e hdx)]; exact e
  refine ⟨_, _, _, rfl, H, x, dx, rfl, eX, hx, upd_same, _, d2, ha, hb, b1, b2, fun ok => ?_, fun m e1 _ _ ar' => ?_, fun m F j e1 _ _ _ W jn z _ => ?_, fun m Fs H' e1 ar' e t al => ?_⟩
  · rw [okN_nat n1 n16] at ok; cases ok
  · have : m = n := by injection e1 with e1; omega
    subst this
    rw [ar] at ar'; cases ar'
  · have : m = n := by injection e1 with e1; omega
    subst this
    exact absurd z (con F W j jn)
  · have : m = n := by injection e1 with e1; omega
    subst this
    exact ⟨rfl, q x H' Fs e hx t⟩
theorem are_tuple {d : PyData} {n : Int} (h : areRds d n = true) : areRds (.tuple (items d)) n = true := by
  unfold areRds at h ⊢
  have rest := ((Bool.and_eq_true _ _).mp h).2
  rw [show isSeq (.tuple (items d)) = true from rfl, Bool.true_and]
  exact rest
theorem rdsOf_tuple (d : PyData) : rdsOf (.tuple (items d)) = rdsOf d := rfl
/-- x != y of trees that stand there -/
theorem ne_trees {K : PySem.W.Frag} {mg : Str → Option Value} {H : Hp} {s t : Addr} {n m : Nat} {rs qs Fs Gs} {Q : VK} (T : Tx K mg) (h1 : TreeAt K H s n rs Fs) (h2 : TreeAt K H t m qs Gs) (q : Q (.bl (!(decide (n = m) && decide (rs = qs)))) H) : rCmpO K (He.ga K "Tree") true (sp_Tree___eq__ K) E0 (.ref s) (.ref t) H Q := by
  obtain ⟨_, _, g⟩ := h2.ins
  refine ⟨s, .ref (He.ga K "Tree"), rfl, h1.ins, .base (.ins g (cl_Tree T) (T.own 0 rfl).ha (T.own 0 rfl).got.1.symm (T.own 0 rfl).got.2.symm (T.own 0 rfl).hm), nf_same, _, _, rfl, s, n, rs, Fs, rfl, h1, .inl ⟨t, m, qs, Gs, rfl, h2, _, rfl, q⟩⟩
theorem eq_trees {K : PySem.W.Frag} {mg : Str → Option Value} {H : Hp} {s t : Addr} {n m : Nat} {rs qs Fs Gs} {Q : VK} (T : Tx K mg) (h1 : TreeAt K H s n rs Fs) (h2 : TreeAt K H t m qs Gs) (q : Q (.bl (decide (n = m) && decide (rs = qs))) H) : rCmpO K (He.ga K "Tree") false (sp_Tree___eq__ K) E0 (.ref s) (.ref t) H Q := by
  obtain ⟨_, _, g⟩ := h2.ins
  refine ⟨s, .ref (He.ga K "Tree"), rfl, h1.ins, .base (.ins g (cl_Tree T) (T.own 0 rfl).ha (T.own 0 rfl).got.1.symm (T.own 0 rfl).got.2.symm (T.own 0 rfl).hm), nf_same, _, _, rfl, s, n, rs, Fs, rfl, h1, .inl ⟨t, m, qs, Gs, rfl, h2, _, rfl, q⟩⟩
/-- the box is none of a world's objects -/
theorem WorldAt.del {K : PySem.W.Frag} {H : Hp} {w : V} {n c : Nat} {rs : List (Nat × Nat)} {A : Addr} (h : WorldAt K H w n rs) (hb : BoxAt H A c) : WorldAt K (L2.del H A) w n rs := by
  obtain ⟨W, S, ts, rfl, h1, h2, h3⟩ := h.at_
  obtain ⟨x, b, y, k, hA, _⟩ := hb
  refine ⟨⟨W, S, ts, rfl, ?_, ?_, tp_del hA h3⟩, h.ok⟩
  · rw [del_ne (fun e => by rw [e, hA] at h1; cases h1)]; exact h1
  · rw [del_ne (fun e => by
      rw [e, hA] at h2; cases h2
      cases h3 with
      | cons a _ => obtain ⟨_, z, _⟩ := a; cases z)]; exact h2
theorem OddR.mono {K : PySem.W.Frag} {H H1 H2 : Hp} {v : V} {d : PyData} (e : Ex H1 H2) (h : OddR K H H1 v d) : OddR K H H2 v d :=
  ⟨h.dq.mono e, h.len, h.len2, h.sm, fun ds q => let ⟨L, xs, h1, h2, h3, h4⟩ := h.ls ds q; ⟨L, xs, h1, e _ _ h2, h3, h4.mono (Ex.del e)⟩⟩
theorem st_join {t : TS} {D : Ends} {σ : L2.St} {H : Hp} (S : L2.St → Hp → Prop) (next : ∀ σ' H', S σ' H' → D.nx σ' H') (run : ∀ N : L2.St → Hp → Prop, (∀ σ' H', S σ' H' → N σ' H') → t { D with nx := N } σ H) : t D σ H := run D.nx next
/-- what made and due tell of values mv, v with data dm, d2 -/
inductive Told (K : PySem.W.Frag) (H : Hp) (mv v : V) (dm d2 : PyData) : List V → List V → Prop
  | houses : Told K H mv v dm d2 [.str "houses", mv] [.str "houses", mv]
  | roads : Told K H mv v dm d2 [.str "roads", v] [.str "roads", v]
  | joined (j : Nat) (h : j < 16) : Told K H mv v dm d2 [.str "joined", iV j] [.str "joined", iV j]
  | told (n : Nat) (t : Addr) (Fs : List (List (List Nat))) (e : dm = .int (n : Int)) (ar : areRds d2 n = true) (tr : TreeAt K H t n (rdsOf d2) Fs) (al : ∀ F, Fs[0]? = some F → ∀ v, v < n → M.at_ F v ≠ []) : Told K H mv v dm d2 [.str "told", .ref t] [.str "told"]
theorem Told.mono {K : PySem.W.Frag} {H H' : Hp} {mv v : V} {dm d2 : PyData} {xs ys : List V} (e : Ex H H') (h : Told K H mv v dm d2 xs ys) : Told K H' mv v dm d2 xs ys := by
  cases h with
  | houses => exact .houses
  | roads => exact .roads
  | joined j hj => exact .joined j hj
  | told n t Fs e1 ar tr al => exact .told n t Fs e1 ar (tr.mono e) al
theorem ways0 {K : PySem.W.Frag} {H : Hp} {t : Addr} {n : Nat} {rs : List (Nat × Nat)} {Fs} (tr : TreeAt K H t n rs Fs) (al : ∀ F, Fs[0]? = some F → ∀ v, v < n → M.at_ F v ≠ []) {F : List (List Nat)} (W : M.Ways (nbs n rs) 0 F) : ∀ v, v < n → M.at_ F v ≠ [] := by
  have n1 := tr.n1
  have e : Fs[0]? = some (Fs[0]'(by rw [tr.fl]; omega)) := List.getElem?_eq_getElem _
  exact fun v hv z => al _ e v hv (((tr.fw 0 _ e).same W v).mpr z)
theorem okN_of {d : PyData} {n : Nat} (e : d = .int (n : Int)) (h1 : 1 ≤ n) (h2 : n ≤ 16) (no : okN d = false) : False := by
  subst e; rw [okN_nat h1 h2] at no; cases no
theorem int_inj {n m : Nat} {d : PyData} (h1 : d = .int (n : Int)) (h2 : d = .int (m : Int)) : n = m := by
  rw [h1] at h2; injection h2 with h2; omega
/-- made, then due: they tell the same -/
theorem made_due {K : PySem.W.Frag} {H : Hp} {mv v : V} {dm d2 : PyData} {k : Int} {N : V → V → Hp → Prop} {N1 : VK} (h1 : Dq K H mv dm) (h2 : Dq K H v d2) (b1 : (items d2).length ≤ 100000) (b2 : ∀ x ∈ items d2, (items x).length ≤ 100000)
    (link : ∀ y1 H1, sp__law_made_due K [mv, v] H1 (fun y2 H2 => N y1 y2 H2) E0 → N1 y1 H1) (next : ∀ l1 l2 H' xs ys, Ex H H' → H l1 = none → H l2 = none → H' l1 = some (.lst xs) → H' l2 = some (.lst ys) → Told K H' mv v dm d2 xs ys → N (.ref l1) (.ref l2) H') :
    sp__law_made K [mv, v, .int k] H N1 E0 := by
  refine ⟨_, _, _, rfl, dm, d2, k, h1, h2, b1, b2, rfl, fun no l H1 e hl g => ?_, fun n en n1 n16 ar l H1 e hl g => ?_, fun n F j en n1 n16 ar W jn z1 z2 l H1 e hl g => ?_, fun n Fs t l H1 en ar tr nt al e hl g => ?_⟩
  all_goals refine link _ _ ⟨_, _, rfl, dm, d2, h1.mono e, h2.mono e, b1, b2, fun no' l2 H2 e2 hl2 g2 => ?_, fun n' en' n1' n16' ar' l2 H2 e2 hl2 g2 => ?_, fun n' F' j' en' n1' n16' ar' W' jn' z1' z2' l2 H2 e2 hl2 g2 => ?_, fun n' F' l2 H2 en' n1' n16' ar' W' al' e2 hl2 g2 => ?_⟩
  · exact next l l2 H2 _ _ (e.trans e2) hl (Evl.fresh_back e hl2) (e2 _ _ g) g2 .houses
  · exact (okN_of en' n1' n16' no).elim
  · exact (okN_of en' n1' n16' no).elim
  · exact (okN_of en' n1' n16' no).elim
  · exact (okN_of en n1 n16 no').elim
  · exact next l l2 H2 _ _ (e.trans e2) hl (Evl.fresh_back e hl2) (e2 _ _ g) g2 .roads
  · rw [int_inj en en', ar'] at ar; cases ar
  · rw [int_inj en en', ar'] at ar; cases ar
  · exact (okN_of en n1 n16 no').elim
  · rw [int_inj en en', ar'] at ar; cases ar
  · obtain rfl := int_inj en en'
    have ej : j = j' := by
      rcases Nat.lt_trichotomy j j' with c | c | c
      · exact absurd ((W.same W' j).mp z1) (z2' j c)
      · exact c
      · exact absurd ((W'.same W j').mp z1') (z2 j' c)
    subst ej
    exact next l l2 H2 _ _ (e.trans e2) hl (Evl.fresh_back e hl2) (e2 _ _ g) g2 (.joined j (by omega))
  · obtain rfl := int_inj en en'
    exact absurd ((W.same W' j).mp z1) (al' j jn)
  · exact (okN_of en tr.n1 tr.n16 no').elim
  · rw [int_inj en en', ar'] at ar; cases ar
  · obtain rfl := int_inj en en'
    exact absurd z1' (ways0 tr al W' j' jn')
  · exact next l l2 H2 _ _ (e.trans e2) hl (Evl.fresh_back e hl2) (e2 _ _ g) g2 (.told n t Fs en ar (tr.mono e2) al)
theorem snoc_all (x : PyData) : ∀ ds : List PyData, PyData.leavesShortAll 32 (ds ++ [x]) = (PyData.leavesShortAll 32 ds && x.leavesShort 32) ∧ PyData.showableAll (ds ++ [x]) = (PyData.showableAll ds && x.showable) ∧
    PyData.weightAll (ds ++ [x]) = PyData.weightAll ds + (x.weight + 1) ∧ PyData.depthAll (ds ++ [x]) = max (PyData.depthAll ds) x.depth
  | [] => by simp [PyData.leavesShortAll, PyData.showableAll, PyData.weightAll, PyData.depthAll]
  | d :: ds => by
    obtain ⟨h1, h2, h3, h4⟩ := snoc_all x ds
    refine ⟨?_, ?_, ?_, ?_⟩
    · simp only [List.cons_append, PyData.leavesShortAll, h1, Bool.and_assoc]
    · simp only [List.cons_append, PyData.showableAll, h2, Bool.and_assoc]
    · simp only [List.cons_append, PyData.weightAll, h3]; omega
    · simp only [List.cons_append, PyData.depthAll, h4]; omega
theorem Small.snoc {w p w' : Nat} {x : PyData} {ds : List PyData} (h : Small w (p + 1) (.list ds)) (hx : Small w' p x) : Small (w + w' + 1) (p + 1) (.list (ds ++ [x])) := by
  obtain ⟨h1, h2, h3, h4⟩ := snoc_all x ds
  have a1 := h.lf
  have a2 := h.sh
  have a3 := h.dp
  have a4 := h.wt
  have b3 := hx.dp
  have b4 := hx.wt
  simp only [PyData.leavesShort, PyData.showable, PyData.depth, PyData.weight] at a1 a2 a3 a4
  refine ⟨?_, ?_, ?_, ?_⟩
  · simp only [PyData.leavesShort, h1, a1, hx.lf, Bool.and_self]
  · simp only [PyData.showable, h2, a2, hx.sh, Bool.and_self]
  · simp only [PyData.depth, h4]; omega
  · simp only [PyData.weight, h3]; omega
def sp__law_made_right (K : PySem.W.Frag) : Sp := sp2 fun a b H Q E => ∃ (A : Addr) (n c : Nat) (rs : List (Nat × Nat)), a = .ref A ∧ WorldAt K H b n rs ∧ c ≤ 800000 ∧ BoxAt H A c ∧
  ∀ H', Ex (L2.del H A) H' → BoxAt H' A (c + 200) → Q (.bl true) H'
section
variable {K : PySem.W.Frag} {mg : Str → Option Value} {P : Program} {w : World} {base : Heap}
theorem ok__law_made_right (T : Tx K mg) : Cal P w K mg base CX0 8 "_law_made_right" ["_law_box_here", "_law_world_here"] (sp__law_made_right K) := by
  refine cal_of (fD__law_made_right T) (T.glo 43 rfl) sc__law_made_right (fun _ _ _ _ _ _ us hl => match us, hl with | [_, _], _ => rfl) (fun vs H Q E h => len2 h) (fun f cdv A outer s H vs Q E hr h => ?_)
  obtain ⟨a, b, rfl, h⟩ := h
  refine ⟨_, (PSs.nox (pss_cons (ps_for PassesOwn.never rfl (pi_range1 (by rfl) (T.free 11 rfl) (pa_cons pe_int pa_nil)) (pg_name (i := 2) sc__law_made_right.nd rfl (Or.inl rfl)) (pss_cons (ps_par (i := 3) (j := 4) rfl sc__law_made_right.nd rfl rfl (by decide) rfl rfl (pa_cons (pe_c (ok__law_odd_pairs T) (hr.mono (by decide)) rfl pass0 (pa_cons (pv 0) (pa_cons (pv 1) pa_nil))) (pa_cons (pe_ix (ix_listK (K := K)) (pv 1) pe_int (fun _ _ => rfl)) pa_nil)) (by rfl))
      (pss_cons (ps_if (pt_cmpR op_eq (pv 2) pe_int (nomark _)) (pss_one (ps_set (i := 4) sc__law_made_right.nd rfl (Or.inl rfl) (pe_ix (ix_listK (K := K)) (pe_lst (pa_cons pe_int (pa_cons pe_int (pa_cons (pe_un un_neg pe_int) (pa_cons pe_bl (pa_cons pe_non (pa_cons pe_str (pa_cons (pe_lst (pa_cons pe_int pa_nil)) (pa_cons (pe_tup (pa_cons pe_int pa_nil)) (pa_cons (pe_op op_pow pe_int pe_int) (pa_cons pe_int pa_nil))))))))))) (pe_c (ok__law_take T) (hr.mono (by decide)) rfl pass0 (pa_cons (pv 0) (pa_cons pe_int pa_nil))) (fun _ _ => rfl)))) pss_nil)
      (pss_cons (ps_if (pt_cmpR op_eq (pv 2) pe_int (nomark _)) (pss_one (ps_set (i := 3) sc__law_made_right.nd rfl (Or.inl rfl) (pe_callTy (call_listK (K := K)) (by rfl) (T.free 8 rfl) (by decide +kernel) (pa_cons (pe_ix (ix_listK (K := K)) (pv 1) pe_int (fun _ _ => rfl)) pa_nil)))) pss_nil)
      (pss_cons (ps_par (i := 5) (j := 6) rfl sc__law_made_right.nd rfl rfl (by decide) rfl rfl (pa_cons (pe_c (ok__law_made T) (hr.mono (by decide)) rfl pass0 (pa_cons (pv 4) (pa_cons (pv 3) (pa_cons (pe_op op_mod (pv 2) pe_int) pa_nil)))) (pa_cons (pe_c (ok__law_made_due T) (hr.mono (by decide)) rfl pass0 (pa_cons (pv 4) (pa_cons (pv 3) pa_nil))) pa_nil)) (by rfl))
      (pss_cons (ps_if (pt_cmpR op_ne (pe_ix (ix_listK (K := K)) (pv 5) pe_int (fun _ _ => rfl)) (pe_ix (ix_listK (K := K)) (pv 6) pe_int (fun _ _ => rfl)) (nomark _)) (pss_one (ps_ret pe_bl)) pss_nil)
      (pss_one (ps_if (pt_cmpR op_eq (pe_ix (ix_listK (K := K)) (pv 5) pe_int (fun _ _ => rfl)) pe_str (nomark _)) (pss_one (ps_if (PW.pt (pw_or (pt_cmpR (op_neDK (K := K) (hu64 hr.r)) (pe_fldK (K := K) (pe_ix (ix_listK (K := K)) (pv 5) pe_int (fun _ _ => rfl))) (pe_callTy (call_tupK (K := K)) (by rfl) (T.free 15 rfl) (by decide +kernel) (pa_cons (pv 3) pa_nil)) (nomark _)) (pw_or1 (pt_cmpR (tree_ne (K := K) T (hr.mono (by decide))) (pe_ix (ix_listK (K := K)) (pv 5) pe_int (fun _ _ => rfl)) (tree_mk (K := K) T (hr.mono (by decide)) rfl (pa_cons (pv 4) (pa_cons (pe_callTy (call_tupK (K := K)) (by rfl) (T.free 15 rfl) (by decide +kernel) (pa_cons (pv 3) pa_nil)) pa_nil))) (nomark _))))) (pss_one (ps_ret pe_bl)) pss_nil)) (pss_one (ps_if (PW.pt (pw_and (pt_cmpR op_ne (pe_ix (ix_listK (K := K)) (pv 5) pe_int (fun _ _ => rfl)) pe_str (nomark _)) (pw_and1 (pt_val (pe_callB (call_isiK' (K := K)) (by rfl) (T.free 6 rfl) (by decide +kernel) (pa_cons (pe_ix (ix_listK (K := K)) (pv 5) pe_int (fun _ _ => rfl)) (pa_cons (pe_bltn (v := .ty "list") (u := .type "list") (by rfl) (T.free 8 rfl) (by decide +kernel) rfl) pa_nil))))))) (pss_cons (ps_expr (pe_bm PySem.F.plainAttrs_list PySem.F.slot_list_append PySem.F.type_list_append mt_append (pe_ix (ix_listK (K := K)) (pv 5) pe_int (fun _ _ => rfl)) (pa_cons pe_str pa_nil)))
      (pss_one (ps_if (pt_cmpR op_ne (pe_callB (call_reprK (K := K) T.sm hr.g (hu64 hr.r)) (by rfl) (T.free 12 rfl) (by decide +kernel) (pa_cons (pe_ix (ix_listK (K := K)) (pv 5) pe_int (fun _ _ => rfl)) pa_nil)) (pe_callB (call_reprK (K := K) T.sm hr.g (hu64 hr.r)) (by rfl) (T.free 12 rfl) (by decide +kernel) (pa_cons (pe_ix (ix_listK (K := K)) (pe_lst (pa_cons (pv 3) (pa_cons (pv 4) pa_nil))) (pe_callTy call_int1 (by rfl) (T.free 5 rfl) (by decide +kernel) (pa_cons (pe_cmpR op_eq (pe_ix (ix_listK (K := K)) (pv 6) pe_int (fun _ _ => rfl)) pe_str (nomark _)) pa_nil)) (fun _ _ => rfl)) pa_nil)) (nomark _)) (pss_one (ps_ret pe_bl)) pss_nil))) (pss_one (ps_if (pt_cmpR op_ne (pe_callB (call_reprK (K := K) T.sm hr.g (hu64 hr.r)) (by rfl) (T.free 12 rfl) (by decide +kernel) (pa_cons (pv 5) pa_nil)) (pe_callB (call_reprK (K := K) T.sm hr.g (hu64 hr.r)) (by rfl) (T.free 12 rfl) (by decide +kernel) (pa_cons (pv 6) pa_nil)) (nomark _)) (pss_one (ps_ret pe_bl)) pss_nil))))))))))))
      (pss_one (ps_ret pe_bl)))), ?_⟩
  obtain ⟨A, n, c, rs, rfl, wo, c9, hb, q⟩ := h
  obtain ⟨W, S, ts, rfl, hW, hS, hts⟩ := (wo.del hb).at_
  have n1 := wo.ok.n1
  have n16 := wo.ok.n16
  have woD := wo.del hb
  obtain ⟨l0, hA0⟩ := hb.some
  refine seq_at ?_
  refine for_at (B := L2.del H A) (n := 8) (item := fun i => .int (0 + i)) (fun P q => ⟨_, rfl, by decide, by decide, q _ _ (Evl.Ex.refl _) (its_r 0 8)⟩) (fun k σ' H' => (∃ s2 s3 s4 s5 s6, σ' = [some (.ref A), some (.ref W), s2, s3, s4, s5, s6]) ∧ Ex (L2.del H A) H' ∧ BoxAt H' A (c + 20 * k)) ?_ ?_ ?_ ?_
  · exact fun H1 e1 => ⟨⟨_, _, _, _, _, rfl⟩, Ex.ofDel.trans e1, hb.mono e1⟩
  · exact fun k σ' H' z => z.2.1
  · rintro k σ' H0 hk ⟨⟨s2, s3, s4, s5, s6, rfl⟩, e0, hb0⟩
    dsimp only [gName]
    refine seq_at ?_
    refine ⟨_, rfl, _, rfl, _, _, rfl, A, n, c + 20 * k, rs, rfl, woD.mono e0, by omega, hb0, fun v d H1 e1 hb1 od => ?_⟩
    have e01 := ex_of_del e0 del_same e1
    refine ⟨_, rfl, W, _, 0, _, rfl, rfl, SqL.of (e01 _ _ hW), rfl, _, _, rfl, ?_⟩
    dsimp only
    refine seq_at (st_join (fun σ' H' => ∃ mv dm, σ' = [some (.ref A), some (.ref W), some (.int (0 + (k : Int))), some v, some mv, s5, s6] ∧ Ex (L2.del H1 A) H' ∧ BoxAt H' A (c + 20 * k + 12) ∧ OddR K H0 (L2.del H' A) mv dm) ?_ ?_)
    rotate_left
    · intro N hN
      obtain ⟨l1, hA1⟩ := hb1.some
      have hA0n : H0 A ≠ none := by obtain ⟨l, z⟩ := hb0.some; rw [z]; simp
      refine ⟨_, rfl, rfl, _, rfl, ?_⟩
      by_cases k7 : k = 7
      · rw [decide_eq_true (show V.int (0 + (k : Int)) = V.int 7 by rw [k7]; rfl)]
        refine iteT ?_
        refine asg_at ?_
        refine ⟨1, rfl, (by show 1 ≤ sizeLine; decide), fun l1 hl1 => ⟨(by show 1 ≤ sizeLine; decide), fun t1 ht1 => ⟨10, 19, rfl, rfl, ⟨by decide, by decide, by decide⟩, (by show 10 ≤ sizeLine; decide), fun M hM => ⟨_, rfl, ?_⟩⟩⟩⟩
        have x1 := Evl.Ex.new (o := .lst [.int 3]) hl1
        have x2 := Evl.Ex.new (o := .tup [.int 3]) ht1
        have x3 := Evl.Ex.new (o := .lst [.int 0, .int 17, .int (-1), .bl true, .non, .str "3", .ref l1, .ref t1, .int (10 ^ (19 : Int).toNat), .int 18]) hM
        have y2 := x1.trans x2
        have y3 := y2.trans x3
        have gl := x3 _ _ (x2 _ _ (upd_same (H := H1) (a := l1) (o := .lst [.int 3])))
        have gt := x3 _ _ (upd_same (H := upd H1 l1 (.lst [.int 3])) (a := t1) (o := .tup [.int 3]))
        have lA : l1 ≠ A := by rintro rfl; rw [hA1] at hl1; cases hl1
        have tA : t1 ≠ A := by rintro rfl; rw [x1 _ _ hA1] at ht1; cases ht1
        have MA : M ≠ A := by rintro rfl; rw [y2 _ _ hA1] at hM; cases hM
        have nl := new_of e1 hA1 hl1
        refine pick_at (E := E0) (m := 10) upd_same MA (hb1.mono y3) (by simp) (by simp) (by omega) rfl fun j u H' hv e' hb' => ?_
        have all : ∀ u ∈ [V.int 0, V.int 17, V.int (-1), V.bl true, V.non, V.str "3", V.ref l1, V.ref t1, V.int (10 ^ (19 : Int).toNat), V.int 18], ∃ d, OddR K H0 (L2.del H' A) u d := fun u hu => by
          simp only [List.mem_cons, List.not_mem_nil, or_false] at hu
          have gl' : L2.del H' A l1 = some (.lst [.int 3]) := by rw [del_ne lA]; exact del_get e' lA gl
          have gt' : L2.del H' A t1 = some (.tup [.int 3]) := by rw [del_ne tA]; exact del_get e' tA gt
          rcases hu with rfl | rfl | rfl | rfl | rfl | rfl | rfl | rfl | rfl | rfl
          · exact ⟨_, oddR_flat (.int _) rfl (by decide +kernel) (fun ds z => by cases z)⟩
          · exact ⟨_, oddR_flat (.int _) rfl (by decide +kernel) (fun ds z => by cases z)⟩
          · exact ⟨_, oddR_flat (.int _) rfl (by decide +kernel) (fun ds z => by cases z)⟩
          · exact ⟨_, oddR_flat (.bl _) rfl (by decide +kernel) (fun ds z => by cases z)⟩
          · exact ⟨_, oddR_flat .non rfl (by decide +kernel) (fun ds z => by cases z)⟩
          · exact ⟨_, oddR_flat (.str _) rfl (by decide +kernel) (fun ds z => by cases z)⟩
          · exact ⟨.list [.int 3], ⟨.lst (SqL.of gl') (.cons (.int _) .nil), by simp [items], fun x hx => by simp [items] at hx; subst hx; simp [items], smallB_ok (by decide +kernel), fun ds z => by cases z; exact ⟨l1, _, rfl, gl', nl, .cons (.int _) .nil⟩⟩⟩
          · exact ⟨.tuple [.int 3], ⟨.tup (SqT.of gt') (.cons (.int _) .nil), by simp [items], fun x hx => by simp [items] at hx; subst hx; simp [items], smallB_ok (by decide +kernel), fun ds z => by cases z⟩⟩
          · exact ⟨.int (10 ^ 19), oddR_flat (.int _) rfl (by decide +kernel) (fun ds z => by cases z)⟩
          · exact ⟨_, oddR_flat (.int _) rfl (by decide +kernel) (fun ds z => by cases z)⟩
        obtain ⟨dm, hdm⟩ := all u (List.mem_of_getElem? hv)
        exact hN _ _ ⟨u, dm, rfl, ex_of_del (Ex.ofDel.trans y3) del_same e', hb'.up (by omega), hdm⟩
      · rw [decide_eq_false (show ¬ V.int (0 + (k : Int)) = V.int 7 from fun z => k7 (by have := V.int.inj z; omega))]
        refine iteF ?_
        dsimp only [tNext]
        exact hN _ _ ⟨iV n, .int (n : Int), rfl, Ex.ofDel, hb1.up (by omega), ⟨.int _, by simp [items], by simp [items], (Small.nat (k := n) (by omega)).mono (by decide) (by decide), fun ds z => by cases z⟩⟩
    rintro σ2 H2 ⟨mv, dm, rfl, e2, hb2, om⟩
    have e02 := ex_of_del e01 del_same e2
    have od2 := od.mono (show Ex (L2.del H1 A) (L2.del H2 A) from ex_del_self e2)
    dsimp only
    refine seq_at (st_join (fun σ' H' => ∃ v d, σ' = [some (.ref A), some (.ref W), some (.int (0 + (k : Int))), some v, some mv, s5, s6] ∧ Ex H2 H' ∧ OddR K H0 (L2.del H' A) v d) ?_ ?_)
    rotate_left
    · intro N hN
      obtain ⟨l2', hA2⟩ := hb2.some
      have hA0n : H0 A ≠ none := by obtain ⟨l, z⟩ := hb0.some; rw [z]; simp
      refine ⟨_, rfl, rfl, _, rfl, ?_⟩
      by_cases k6 : k = 6
      · rw [decide_eq_true (show V.int (0 + (k : Int)) = V.int 6 by rw [k6]; rfl)]
        refine iteT ?_
        refine asg_at ?_
        refine ⟨_, rfl, W, _, 1, _, rfl, rfl, SqL.of (e02 _ _ hW), rfl, S, ts, rfl, .inl (SqL.of (e02 _ _ hS)), fun l hl => ?_⟩
        have nl0 := new_of (ex_of_del e1 del_same e2) hA2 hl
        have nl := new_of e02 hA2 hl
        have el := Evl.Ex.new (o := .lst ts) hl
        refine hN _ _ ⟨.ref l, .list (rs.map pairD), rfl, el, oddR_list hA0n nl0 upd_same ?_ ?_ ?_⟩
        · rw [del_upd]
          exact (tp_dqs (K := K) hts).mono (ex_del_self (ex_del_new e02 nl))
        · have := wo.ok.rl
          rw [List.length_map]; omega
        · intro x hx
          obtain ⟨p, hp, rfl⟩ := List.mem_map.mp hx
          have := wo.ok.sub.1 p hp
          exact odd_pairD (by omega) (by omega)
      · rw [decide_eq_false (show ¬ V.int (0 + (k : Int)) = V.int 6 from fun z => k6 (by have := V.int.inj z; omega))]
        refine iteF ?_
        dsimp only [tNext]
        exact hN _ _ ⟨v, d, rfl, Evl.Ex.refl _, od2⟩
    clear od od2
    rintro σ3 H3 ⟨v, d, rfl, e3, od⟩
    have e03 := e02.trans e3
    have hb3 := hb2.mono e3
    replace om := om.mono (Ex.del e3)
    dsimp only
    refine seq_at ?_
    refine ⟨_, rfl, _, rfl, _, rfl, _, 2, rfl, rfl, (by show (0 : Int) < 2; decide), made_due (om.dq.mono Ex.ofDel) (od.dq.mono Ex.ofDel) (by have := od.len; omega) (fun x hx => by have := od.len2 x hx; omega) (fun y1 H1 z => ⟨_, rfl, _, rfl, z⟩) ?_⟩
    intro l1 l2 H4 xs ys e4 n1' n2' g1 g2 told
    refine ⟨_, _, rfl, ?_⟩
    have e04 := e03.trans e4
    have hb4 := hb3.mono e4
    have omL : ∀ ds, dm = .list ds → ∀ L, mv = .ref L → H3 L ≠ none := fun ds e L q z => by
      obtain ⟨L', xs', h1, h2, _⟩ := om.ls ds e
      rw [q] at h1; cases h1
      rw [Ex.ofDel _ _ h2] at z; cases z
    have odL : ∀ ds, d = .list ds → ∀ L, v = .ref L → H3 L ≠ none := fun ds e L q z => by
      obtain ⟨L', xs', h1, h2, _⟩ := od.ls ds e
      rw [q] at h1; cases h1
      rw [Ex.ofDel _ _ h2] at z; cases z
    dsimp only
    refine seq_at ?_
    have end_ : ∀ {H'}, Ex H4 H' → (∃ s2 s3 s4 s5 s6, [some (V.ref A), some (.ref W), some (.int (0 + (k : Int))), some v, some mv, some (.ref l1), some (.ref l2)] = [some (.ref A), some (.ref W), s2, s3, s4, s5, s6]) ∧ Ex (L2.del H A) H' ∧ BoxAt H' A (c + 20 * (k + 1)) := fun e => ⟨⟨_, _, _, _, _, rfl⟩, e04.trans e, (hb4.mono e).up (by omega)⟩
    replace om := om.mono (Ex.del e4)
    replace od := od.mono (Ex.del e4)
    have sameS : ∀ z : Str, (!decide (V.str z = V.str z)) = false := fun z => by simp
    cases told with
    | houses =>
      refine ⟨_, rfl, l1, _, 0, _, rfl, rfl, SqL.of g1, rfl, _, rfl, l2, _, 0, _, rfl, rfl, SqL.of g2, rfl, rfl, _, rfl, ?_⟩
      rw [sameS]
      refine iteF ?_
      dsimp only [tNext]
      refine ⟨_, rfl, l1, _, 0, _, rfl, rfl, SqL.of g1, rfl, rfl, _, rfl, ?_⟩
      refine iteF ?_
      refine ⟨_, rfl, l1, _, 0, _, rfl, rfl, SqL.of g1, rfl, rfl, _, rfl, ?_⟩
      refine iteT ?_
      refine ⟨_, rfl, l1, _, 1, _, rfl, rfl, SqL.of g1, rfl, ?_⟩
      dsimp only [tNil, tCons, tC]
      refine isi_list (om.dq.mono Ex.ofDel) ⟨_, rfl, ?_⟩
      cases il : isT "list" dm with
      | false =>
        refine iteF ?_
        have sm := (Small.list (w := 20000) (p := 6) (ds := [.str "houses", dm]) fun x hx => by
          rcases List.mem_cons.1 hx with rfl | hx
          · exact smallB_ok (by decide +kernel)
          · rw [List.mem_singleton.mp hx]; exact om.sm)
        have dl : ∀ {l}, H4 l = some (.lst [.str "houses", mv]) → Dq K H4 (.ref l) (.list [.str "houses", dm]) := fun h => .lst (SqL.of h) (.cons (.str _) (.cons (om.dq.mono Ex.ofDel) .nil))
        refine ⟨_, rfl, ?_⟩
        dsimp only [tNil]
        refine rRepr_of (dl g1) sm (by simp) (by decide) ?_
        refine ⟨_, rfl, ?_⟩
        dsimp only [tNil]
        refine rRepr_of (dl g2) sm (by simp) (by decide) ?_
        refine ⟨rfl, _, rfl, ?_⟩
        rw [sameS]
        refine iteF ?_
        dsimp only [tNext]
        exact end_ (Evl.Ex.refl _)
      | true =>
        refine iteT ?_
        obtain ⟨ds, eds⟩ : ∃ ds, dm = .list ds := by cases dm <;> first | exact ⟨_, rfl⟩ | cases il
        obtain ⟨L, xl, eL, hL, nL, dqL⟩ := om.ls ds eds
        have LA : L ≠ A := by rintro rfl; rw [del_same] at hL; cases hL
        rw [del_ne LA] at hL
        have nLd : L2.del H A L = none := by
          cases z : L2.del H A L with
          | none => rfl
          | some u => rw [e0 _ _ z] at nL; cases nL
        have L3 : H3 L ≠ none := omL ds eds L eL
        have ne1 : l1 ≠ L := by rintro rfl; exact L3 n1'
        have ne2 : l2 ≠ L := by rintro rfl; exact L3 n2'
        have ll : xl.length ≤ 40 := by have := om.len; rw [eds] at this; rw [dqL.length]; exact this
        refine seq_at ?_
        refine ⟨_, rfl, l1, _, 1, _, rfl, rfl, SqL.of g1, rfl, by rw [eL]; exact .inl ⟨rfl, _, SqL.of hL⟩, L, xl, _, eL, rfl, hL, line_big (by omega), ?_⟩
        have eA5 : Ex (L2.del H A) (upd H4 L (.lst (xl ++ [.str "more"]))) := Evl.Ex.mut e04 nLd
        have hb5 : BoxAt (upd H4 L (.lst (xl ++ [.str "more"]))) A (c + 20 * (k + 1)) := by
          obtain ⟨x, b', y, z, h1, h2⟩ := hb4
          exact ⟨x, b', y, z, by rw [upd_ne LA.symm]; exact h1, by omega⟩
        have g15 : upd H4 L (.lst (xl ++ [.str "more"])) l1 = some (.lst [.str "houses", mv]) := by rw [upd_ne ne1]; exact g1
        have g25 : upd H4 L (.lst (xl ++ [.str "more"])) l2 = some (.lst [.str "houses", mv]) := by rw [upd_ne ne2]; exact g2
        have dq5 : Dq K (upd H4 L (.lst (xl ++ [.str "more"]))) mv (.list (ds ++ [.str "more"])) := by
          rw [eL]
          refine .lst (SqL.of upd_same) ((dqL.mono ?_).append (.cons (.str _) .nil))
          intro a o z
          have ne : a ≠ L := by rintro rfl; rw [del_same] at z; cases z
          rw [upd_ne ne]
          exact Ex.ofDel a o (Ex.ofDel a o z)
        have sm := Small.snoc (eds ▸ om.sm) (smallB_ok (w := 10) (p := 5) (d := .str "more") (by decide +kernel))
        generalize upd H4 L (.lst (xl ++ [.str "more"])) = H5 at eA5 hb5 g15 g25 dq5 ⊢
        dsimp only
        refine ⟨_, rfl, l1, _, 1, _, rfl, rfl, SqL.of g15, rfl, ?_⟩
        dsimp only [tNil]
        refine rRepr_of dq5 sm (by decide) (by decide) ?_
        refine ⟨_, rfl, _, rfl, (by show 2 ≤ sizeLine; decide), fun M hM => ⟨_, rfl, l2, _, 0, _, rfl, rfl, SqL.of (Evl.Ex.new hM _ _ g25), rfl, rfl, .inr ⟨_, rfl, M, _, _, _, rfl, rfl, SqL.of upd_same, (by show atI _ 1 = _; rfl), ?_⟩⟩⟩
        dsimp only [tNil]
        refine rRepr_of (dq5.mono (Evl.Ex.new hM)) sm (by decide) (by decide) ?_
        refine ⟨rfl, _, rfl, ?_⟩
        rw [sameS]
        refine iteF ?_
        dsimp only [tNext]
        exact ⟨⟨_, _, _, _, _, rfl⟩, eA5.trans (Evl.Ex.new hM), hb5.mono (Evl.Ex.new hM)⟩
    | roads =>
      refine ⟨_, rfl, l1, _, 0, _, rfl, rfl, SqL.of g1, rfl, _, rfl, l2, _, 0, _, rfl, rfl, SqL.of g2, rfl, rfl, _, rfl, ?_⟩
      rw [sameS]
      refine iteF ?_
      dsimp only [tNext]
      refine ⟨_, rfl, l1, _, 0, _, rfl, rfl, SqL.of g1, rfl, rfl, _, rfl, ?_⟩
      refine iteF ?_
      refine ⟨_, rfl, l1, _, 0, _, rfl, rfl, SqL.of g1, rfl, rfl, _, rfl, ?_⟩
      refine iteT ?_
      refine ⟨_, rfl, l1, _, 1, _, rfl, rfl, SqL.of g1, rfl, ?_⟩
      dsimp only [tNil, tCons, tC]
      refine isi_list (od.dq.mono Ex.ofDel) ⟨_, rfl, ?_⟩
      cases il : isT "list" d with
      | false =>
        refine iteF ?_
        have sm := (Small.list (w := 20000) (p := 6) (ds := [.str "roads", d]) fun x hx => by
          rcases List.mem_cons.1 hx with rfl | hx
          · exact smallB_ok (by decide +kernel)
          · rw [List.mem_singleton.mp hx]; exact od.sm)
        have dl : ∀ {l}, H4 l = some (.lst [.str "roads", v]) → Dq K H4 (.ref l) (.list [.str "roads", d]) := fun h => .lst (SqL.of h) (.cons (.str _) (.cons (od.dq.mono Ex.ofDel) .nil))
        refine ⟨_, rfl, ?_⟩
        dsimp only [tNil]
        refine rRepr_of (dl g1) sm (by simp) (by decide) ?_
        refine ⟨_, rfl, ?_⟩
        dsimp only [tNil]
        refine rRepr_of (dl g2) sm (by simp) (by decide) ?_
        refine ⟨rfl, _, rfl, ?_⟩
        rw [sameS]
        refine iteF ?_
        dsimp only [tNext]
        exact end_ (Evl.Ex.refl _)
      | true =>
        refine iteT ?_
        obtain ⟨ds, eds⟩ : ∃ ds, d = .list ds := by cases d <;> first | exact ⟨_, rfl⟩ | cases il
        obtain ⟨L, xl, eL, hL, nL, dqL⟩ := od.ls ds eds
        have LA : L ≠ A := by rintro rfl; rw [del_same] at hL; cases hL
        rw [del_ne LA] at hL
        have nLd : L2.del H A L = none := by
          cases z : L2.del H A L with
          | none => rfl
          | some u => rw [e0 _ _ z] at nL; cases nL
        have L3 : H3 L ≠ none := odL ds eds L eL
        have ne1 : l1 ≠ L := by rintro rfl; exact L3 n1'
        have ne2 : l2 ≠ L := by rintro rfl; exact L3 n2'
        have ll : xl.length ≤ 40 := by have := od.len; rw [eds] at this; rw [dqL.length]; exact this
        refine seq_at ?_
        refine ⟨_, rfl, l1, _, 1, _, rfl, rfl, SqL.of g1, rfl, by rw [eL]; exact .inl ⟨rfl, _, SqL.of hL⟩, L, xl, _, eL, rfl, hL, line_big (by omega), ?_⟩
        have eA5 : Ex (L2.del H A) (upd H4 L (.lst (xl ++ [.str "more"]))) := Evl.Ex.mut e04 nLd
        have hb5 : BoxAt (upd H4 L (.lst (xl ++ [.str "more"]))) A (c + 20 * (k + 1)) := by
          obtain ⟨x, b', y, z, h1, h2⟩ := hb4
          exact ⟨x, b', y, z, by rw [upd_ne LA.symm]; exact h1, by omega⟩
        have g15 : upd H4 L (.lst (xl ++ [.str "more"])) l1 = some (.lst [.str "roads", v]) := by rw [upd_ne ne1]; exact g1
        have g25 : upd H4 L (.lst (xl ++ [.str "more"])) l2 = some (.lst [.str "roads", v]) := by rw [upd_ne ne2]; exact g2
        have dq5 : Dq K (upd H4 L (.lst (xl ++ [.str "more"]))) v (.list (ds ++ [.str "more"])) := by
          rw [eL]
          refine .lst (SqL.of upd_same) ((dqL.mono ?_).append (.cons (.str _) .nil))
          intro a o z
          have ne : a ≠ L := by rintro rfl; rw [del_same] at z; cases z
          rw [upd_ne ne]
          exact Ex.ofDel a o (Ex.ofDel a o z)
        have sm := Small.snoc (eds ▸ od.sm) (smallB_ok (w := 10) (p := 5) (d := .str "more") (by decide +kernel))
        generalize upd H4 L (.lst (xl ++ [.str "more"])) = H5 at eA5 hb5 g15 g25 dq5 ⊢
        dsimp only
        refine ⟨_, rfl, l1, _, 1, _, rfl, rfl, SqL.of g15, rfl, ?_⟩
        dsimp only [tNil]
        refine rRepr_of dq5 sm (by decide) (by decide) ?_
        refine ⟨_, rfl, _, rfl, (by show 2 ≤ sizeLine; decide), fun M hM => ⟨_, rfl, l2, _, 0, _, rfl, rfl, SqL.of (Evl.Ex.new hM _ _ g25), rfl, rfl, .inr ⟨_, rfl, M, _, _, _, rfl, rfl, SqL.of upd_same, (by show atI _ 0 = _; rfl), ?_⟩⟩⟩
        dsimp only [tNil]
        refine rRepr_of (dq5.mono (Evl.Ex.new hM)) sm (by decide) (by decide) ?_
        refine ⟨rfl, _, rfl, ?_⟩
        rw [sameS]
        refine iteF ?_
        dsimp only [tNext]
        exact ⟨⟨_, _, _, _, _, rfl⟩, eA5.trans (Evl.Ex.new hM), hb5.mono (Evl.Ex.new hM)⟩
    | joined j hj =>
      refine ⟨_, rfl, l1, _, 0, _, rfl, rfl, SqL.of g1, rfl, _, rfl, l2, _, 0, _, rfl, rfl, SqL.of g2, rfl, rfl, _, rfl, ?_⟩
      rw [sameS]
      refine iteF ?_
      dsimp only [tNext]
      refine ⟨_, rfl, l1, _, 0, _, rfl, rfl, SqL.of g1, rfl, rfl, _, rfl, ?_⟩
      refine iteF ?_
      refine ⟨_, rfl, l1, _, 0, _, rfl, rfl, SqL.of g1, rfl, rfl, _, rfl, ?_⟩
      refine iteF (iteF ?_)
      have sm := (Small.list (w := 100) (p := 2) (ds := [.str "joined", .int (j : Int)]) fun x hx => by
        rcases List.mem_cons.1 hx with rfl | hx
        · exact smallB_ok (by decide +kernel)
        · rw [List.mem_singleton.mp hx]; exact n100 (k := j) (by omega))
      have dl : ∀ {l}, H4 l = some (.lst [.str "joined", iV j]) → Dq K H4 (.ref l) (.list [.str "joined", .int (j : Int)]) := fun h => .lst (SqL.of h) (.cons (.str _) (.cons (.int _) .nil))
      refine ⟨_, rfl, ?_⟩
      dsimp only [tNil]
      refine rRepr_of (dl g1) sm (by simp) (by decide) ?_
      refine ⟨_, rfl, ?_⟩
      dsimp only [tNil]
      refine rRepr_of (dl g2) sm (by simp) (by decide) ?_
      refine ⟨rfl, _, rfl, ?_⟩
      rw [sameS]
      refine iteF ?_
      dsimp only [tNext]
      exact end_ (Evl.Ex.refl _)
    | told n' t Fs em ar tr al =>
      refine ⟨_, rfl, l1, _, 0, _, rfl, rfl, SqL.of g1, rfl, _, rfl, l2, _, 0, _, rfl, rfl, SqL.of g2, rfl, rfl, _, rfl, ?_⟩
      rw [sameS]
      refine iteF ?_
      dsimp only [tNext]
      refine ⟨_, rfl, l1, _, 0, _, rfl, rfl, SqL.of g1, rfl, rfl, _, rfl, ?_⟩
      refine iteT ?_
      obtain ⟨isq, G, ie, rl⟩ := rds_good ar
      obtain ⟨p0, xs0, ev, hx0, hds0⟩ := dq_seq (od.dq.mono Ex.ofDel) isq
      subst ev
      obtain ⟨dx, u1, u2, u3, xs2, ys2, f⟩ := tr.f
      obtain ⟨r1, rfl, g⟩ := f.g
      refine ⟨_, rfl, l1, _, 1, _, rfl, rfl, SqL.of g1, rfl, t, _, dx, _, _, rfl, g, cl_Tree T, no_Tree_roads T, rfl, _, rfl, ?_⟩
      dsimp only [tNil]
      refine tup_any hx0 hds0 fun tv H5 e5 dq5 => ?_
      have sh : SeqAt.shaped (.tuple (items d)) = true := by rw [ie]; exact shaped_rds _
      refine ⟨_, _, (f.rd.mono e5).dp (SeqAt.canLay_of_shaped (shaped_rds _)), dq5.dp (SeqAt.canLay_of_shaped sh), shaped_rds _, sh, _, rfl, ?_⟩
      rw [ie, eqv_rds, decide_eq_true rfl]
      refine iteF ?_
      refine ⟨_, rfl, l1, _, 1, _, rfl, rfl, SqL.of (e5 _ _ g1), rfl, _, rfl, _, rfl, ?_⟩
      dsimp only [tNil]
      refine tup_any (hx0.imp (Evl.ex_l e5) (Evl.ex_t e5)) (hds0.mono e5) fun tv2 H6 e6 dq6 => ?_
      refine ⟨rfl, rfl, ?_⟩
      have dm5 := ((om.dq.mono Ex.ofDel).mono e5).mono e6
      rw [em] at dm5
      refine tree_made dm5 dq6 (are_tuple ar) tr.n1 tr.n16 (by have := od.len; show (items d).length ≤ _; omega) (fun x hx => by have := od.len2 x hx; omega) (fun F W => ways0 tr al W) fun t' H7 Fs' e7 _ tr' => ?_
      refine ne_trees T (((tr.mono e5).mono e6).mono e7) tr' ⟨_, rfl, ?_⟩
      rw [decide_eq_true (show n' = n' from rfl), decide_eq_true (show rdsOf d = rdsOf (.tuple (items d)) from rfl)]
      refine iteF ?_
      dsimp only [tNext]
      exact end_ ((e5.trans e6).trans e7)
  · rintro σ' H' ⟨⟨s2, s3, s4, s5, s6, rfl⟩, e, hb'⟩
    dsimp only
    refine ret_at ?_
    exact q H' e (hb'.up (by omega))
end

end T1

namespace T1
open PySem PySem.Spec PyProof.Rows L2 G
open Evl (Ex)
local macro_rules | `(tactic| walk_at "dd") => `(tactic| (dsimp only [tCB, tCons, tNil, tC, tOp, tUn, tTest, tB, tVar, tAndV, tOrV, tNotV, tIf, tAnd, tOr, tNot, tSeq, tRet, tRetN, tIfS, tAsg, gName, tDrop, tTup, tLst, tChain, tNext, tCall, L2.start]))
section
variable {K : PySem.W.Frag} {H : Hp} {a b : V} {d1 d2 : PyData} {k : Int} {N : VK}
theorem made_houses (h1 : Dq K H a d1) (h2 : Dq K H b d2) (b1 : (items d2).length ≤ 100000) (b2 : ∀ x ∈ items d2, (items x).length ≤ 100000) (no : okN d1 = false) (next : ∀ l H', Ex H H' → H' l = some (.lst [.str "houses", a]) → N (.ref l) H') : sp__law_made K [a, b, .int k] H N E0 := by
  refine ⟨_, _, _, rfl, d1, d2, k, h1, h2, b1, b2, rfl, fun _ l H1 e _ g => next l H1 e g, fun n en n1 n16 _ _ _ _ _ _ => (okN_of en n1 n16 no).elim, fun n _ _ en n1 n16 _ _ _ _ _ _ _ _ _ _ => (okN_of en n1 n16 no).elim, fun n _ _ _ _ en _ tr _ _ _ _ _ => (okN_of en tr.n1 tr.n16 no).elim⟩
theorem made_roads {n : Nat} (h1 : Dq K H a d1) (h2 : Dq K H b d2) (b1 : (items d2).length ≤ 100000) (b2 : ∀ x ∈ items d2, (items x).length ≤ 100000) (en : d1 = .int (n : Int)) (n1 : 1 ≤ n) (n16 : n ≤ 16) (no : areRds d2 n = false) (next : ∀ l H', Ex H H' → H' l = some (.lst [.str "roads", b]) → N (.ref l) H') : sp__law_made K [a, b, .int k] H N E0 := by
  refine ⟨_, _, _, rfl, d1, d2, k, h1, h2, b1, b2, rfl, fun z => (okN_of en n1 n16 z).elim, fun _ _ _ _ _ l H1 e _ g => next l H1 e g, fun m _ _ en' _ _ ar _ _ _ _ _ _ _ _ _ => ?_, fun m _ _ _ _ en' ar _ _ _ _ _ _ => ?_⟩
  all_goals rw [← int_inj en en', no] at ar; cases ar
theorem made_joined {n j : Nat} (h1 : Dq K H a d1) (h2 : Dq K H b d2) (b1 : (items d2).length ≤ 100000) (b2 : ∀ x ∈ items d2, (items x).length ≤ 100000) (en : d1 = .int (n : Int)) (n1 : 1 ≤ n) (n16 : n ≤ 16) (yes : areRds d2 n = true) (jn : j < n)
    (at_j : ∀ F, M.Ways (nbs n (rdsOf d2)) 0 F → M.at_ F j = [] ∧ ∀ m, m < j → M.at_ F m ≠ []) (next : ∀ l H', Ex H H' → H' l = some (.lst [.str "joined", iV j]) → N (.ref l) H') : sp__law_made K [a, b, .int k] H N E0 := by
  refine ⟨_, _, _, rfl, d1, d2, k, h1, h2, b1, b2, rfl, fun z => (okN_of en n1 n16 z).elim, fun m en' _ _ ar _ _ _ _ _ => ?_, fun m F i en' _ _ _ W _ z1 z2 l H1 e _ g => ?_, fun m Fs t l H1 en' _ tr _ al _ _ _ => ?_⟩
  · rw [← int_inj en en', yes] at ar; cases ar
  · obtain rfl := int_inj en en'
    obtain ⟨w1, w2⟩ := at_j F W
    have : i = j := by
      rcases Nat.lt_trichotomy i j with c | c | c
      · exact absurd z1 (w2 i c)
      · exact c
      · exact absurd w1 (z2 j c)
    subst this
    exact next l H1 e g
  · obtain rfl := int_inj en en'
    have e0 : Fs[0]? = some (Fs[0]'(by rw [tr.fl]; omega)) := List.getElem?_eq_getElem _
    exact absurd (at_j _ (tr.fw 0 _ e0)).1 (al _ e0 j jn)
end
theorem path_in {ls : List (List Nat)} {S : Nat → Bool} (cl : ∀ a b, S a = true → b ∈ M.at_ ls a → S b = true) : ∀ {p : List Nat} {h v : Nat}, M.Path ls h v p → S h = true → S v = true
  | [], _, _, P, _ => absurd rfl P.ne
  | x :: p, h, v, P, s => by
    rcases P.uncons with ⟨_, rfl⟩ | ⟨b, q, e, P', m, _⟩
    · exact s
    · cases e
      exact path_in cl P' (cl _ _ s m)
/-- not joined at j: a check -/
theorem not_joined {n j : Nat} {rs : List (Nat × Nat)} (S : Nat → Bool) (h0 : S 0 = true) (hj : S j = false) (cl : ∀ a, a < n → ∀ b, b < n → S a = true → adj rs a b = true → S b = true) (yes : ∀ m, m < j → ∃ p, M.Path (nbs n rs) 0 m p) {F : List (List Nat)} (W : M.Ways (nbs n rs) 0 F) :
    M.at_ F j = [] ∧ ∀ m, m < j → M.at_ F m ≠ [] := by
  refine ⟨?_, fun m hm => let ⟨p, P⟩ := yes m hm; W.reach P⟩
  by_cases c : M.at_ F j = []
  · exact c
  · have z := path_in (S := S) (fun a b s m => by obtain ⟨h1, h2, h3⟩ := mem_nbs.mp m; exact cl a h1 b h2 s h3) (W.pa j c) h0
    rw [hj] at z; cases z
theorem path_two {n a b : Nat} {rs : List (Nat × Nat)} (ha : a < n) (hb : b < n) (ne : a ≠ b) (h : adj rs a b = true) : M.Path (nbs n rs) a b [a, b] := (M.Path.one (nbs n rs) b).cons (mem_nbs.mpr ⟨ha, hb, h⟩) (by simpa using ne)
def sp__law_two_wrongs_right (K : PySem.W.Frag) : Sp := sp0 fun H Q E => ∀ H', Ex H H' → Q (.bl true) H'
section
variable {K : PySem.W.Frag} {mg : Str → Option Value} {P : Program} {w : World} {base : Heap}
theorem ok__law_two_wrongs_right (T : Tx K mg) : Cal P w K mg base CX0 8 "_law_two_wrongs_right" [] (sp__law_two_wrongs_right K) := by
  refine cal_of (fD__law_two_wrongs_right T) (T.glo 44 rfl) sc__law_two_wrongs_right (fun _ _ _ _ _ _ us hl => match us, hl with | [], _ => rfl) (fun vs H Q E h => len0 h) (fun f cdv A outer s H vs Q E hr h => ?_)
  obtain ⟨rfl, h⟩ := h
  refine ⟨_, (PSs.nox (pss_cons (ps_set (i := 0) sc__law_two_wrongs_right.nd rfl (Or.inl rfl) (pe_lst (pa_cons (pe_c (ok__law_made T) (hr.mono (by decide)) rfl pass0 (pa_cons pe_int (pa_cons (pe_lst (pa_cons (pe_tup (pa_cons pe_int (pa_cons pe_int pa_nil))) (pa_cons (pe_tup (pa_cons pe_int (pa_cons pe_int pa_nil))) pa_nil))) (pa_cons pe_int pa_nil)))) (pa_cons (pe_c (ok__law_made T) (hr.mono (by decide)) rfl pass0 (pa_cons pe_int (pa_cons pe_str (pa_cons pe_int pa_nil)))) (pa_cons (pe_c (ok__law_made T) (hr.mono (by decide)) rfl pass0 (pa_cons pe_int (pa_cons (pe_lst (pa_cons (pe_tup (pa_cons pe_int (pa_cons pe_int pa_nil))) (pa_cons (pe_tup (pa_cons pe_int (pa_cons pe_int pa_nil))) (pa_cons (pe_tup (pa_cons pe_int (pa_cons pe_int pa_nil))) pa_nil)))) (pa_cons pe_int pa_nil)))) pa_nil)))))
      (pss_cons (ps_set (i := 0) sc__law_two_wrongs_right.nd rfl (Or.inl rfl) (pe_op op_cat (pv 0) (pe_lst (pa_cons (pe_c (ok__law_made T) (hr.mono (by decide)) rfl pass0 (pa_cons pe_int (pa_cons (pe_lst (pa_cons (pe_tup (pa_cons pe_int (pa_cons pe_int pa_nil))) (pa_cons (pe_tup (pa_cons pe_int (pa_cons pe_int pa_nil))) (pa_cons (pe_tup (pa_cons pe_int (pa_cons pe_int pa_nil))) (pa_cons (pe_tup (pa_cons pe_int (pa_cons pe_int pa_nil))) (pa_cons (pe_tup (pa_cons pe_int (pa_cons pe_int pa_nil))) pa_nil)))))) (pa_cons pe_int pa_nil)))) (pa_cons (pe_c (ok__law_made T) (hr.mono (by decide)) rfl pass0 (pa_cons pe_int (pa_cons (pe_lst pa_nil) (pa_cons pe_int pa_nil)))) pa_nil)))))
      (pss_cons (ps_set (i := 1) sc__law_two_wrongs_right.nd rfl (Or.inl rfl) (pe_lst (pa_cons (pe_lst (pa_cons pe_str (pa_cons (pe_lst (pa_cons (pe_tup (pa_cons pe_int (pa_cons pe_int pa_nil))) (pa_cons (pe_tup (pa_cons pe_int (pa_cons pe_int pa_nil))) pa_nil))) pa_nil))) (pa_cons (pe_lst (pa_cons pe_str (pa_cons pe_int pa_nil))) (pa_cons (pe_lst (pa_cons pe_str (pa_cons pe_int pa_nil))) (pa_cons (pe_lst (pa_cons pe_str (pa_cons pe_int pa_nil))) (pa_cons (pe_lst (pa_cons pe_str (pa_cons pe_int pa_nil))) pa_nil)))))))
      (pss_one (ps_ret (pe_cmpR op_eq (pe_callB (call_reprK (K := K) T.sm hr.g (hu64 hr.r)) (by rfl) (T.free 12 rfl) (by decide +kernel) (pa_cons (pv 0) pa_nil)) (pe_callB (call_reprK (K := K) T.sm hr.g (hu64 hr.r)) (by rfl) (T.free 12 rfl) (by decide +kernel) (pa_cons (pv 1) pa_nil)) (nomark _)))))))), ?_⟩
  have q := h
  refine seq_at (asg_at ?_)
  have ee : ∀ {Hx : Hp} {x : Addr} {o : HO}, Hx x = none → Ex Hx (upd Hx x o) := fun h => Evl.Ex.new h
  have xs : Ex H H := Evl.Ex.refl H
  refine ⟨(by show 2 ≤ sizeLine; decide), fun t1 ht1 => ?_⟩
  have xt1 : Ex H (upd H t1 (.tup [.int 0, .int 1])) := ee ht1
  have ft1 : Dq K (upd H t1 (.tup [.int 0, .int 1])) (.ref t1) (.tuple [.int 0, .int 1]) := .tup (SqT.of upd_same) (.cons (.int _) (.cons (.int _) .nil))
  replace xs := xs.trans xt1
  generalize upd H t1 (.tup [.int 0, .int 1]) = H1 at xs ft1 ⊢
  refine ⟨(by show 2 ≤ sizeLine; decide), fun t2 ht2 => ?_⟩
  have xt2 : Ex H1 (upd H1 t2 (.tup [.int 0, .int 1])) := ee ht2
  replace ft1 := ft1.mono xt2
  have ft2 : Dq K (upd H1 t2 (.tup [.int 0, .int 1])) (.ref t2) (.tuple [.int 0, .int 1]) := .tup (SqT.of upd_same) (.cons (.int _) (.cons (.int _) .nil))
  replace xs := xs.trans xt2
  generalize upd H1 t2 (.tup [.int 0, .int 1]) = H2 at xs ft1 ft2 ⊢
  refine ⟨(by show 2 ≤ sizeLine; decide), fun t3 ht3 => ?_⟩
  have xt3 : Ex H2 (upd H2 t3 (.lst [.ref t1, .ref t2])) := ee ht3
  replace ft1 := ft1.mono xt3
  replace ft2 := ft2.mono xt3
  have ft3 : Dq K (upd H2 t3 (.lst [.ref t1, .ref t2])) (.ref t3) (.list [.tuple [.int 0, .int 1], .tuple [.int 0, .int 1]]) := .lst (SqL.of upd_same) (.cons ft1 (.cons ft2 .nil))
  replace xs := xs.trans xt3
  generalize upd H2 t3 (.lst [.ref t1, .ref t2]) = H3 at xs ft1 ft2 ft3 ⊢
  try dsimp only [tCons, tC, tNil, tCall, List.append_nil, List.nil_append, List.cons_append]
  refine made_roads (n := 3) (d1 := .int 3) (.int _) ft3 (by decide) (by decide) rfl (by decide) (by decide) (by decide +kernel) fun t4 H4 xt4 gt4 => ?_
  replace ft1 := ft1.mono xt4
  replace ft2 := ft2.mono xt4
  replace ft3 := ft3.mono xt4
  have ft4 : Dq K H4 (.ref t4) (.list [.str "roads", .list [.tuple [.int 0, .int 1], .tuple [.int 0, .int 1]]]) := .lst (SqL.of gt4) (.cons (.str _) (.cons ft3 .nil))
  replace xs := xs.trans xt4
  clear gt4
  try dsimp only [tCons, tC, tNil, tCall, List.append_nil, List.nil_append, List.cons_append]
  refine made_houses (d1 := .int 17) (.int _) (.str _) (by decide) (by decide) (by decide) fun t5 H5 xt5 gt5 => ?_
  replace ft1 := ft1.mono xt5
  replace ft2 := ft2.mono xt5
  replace ft3 := ft3.mono xt5
  replace ft4 := ft4.mono xt5
  have ft5 : Dq K H5 (.ref t5) (.list [.str "houses", .int 17]) := .lst (SqL.of gt5) (.cons (.str _) (.cons (.int _) .nil))
  replace xs := xs.trans xt5
  clear gt5
  refine ⟨(by show 2 ≤ sizeLine; decide), fun t6 ht6 => ?_⟩
  have xt6 : Ex H5 (upd H5 t6 (.tup [.int 0, .int 1])) := ee ht6
  replace ft1 := ft1.mono xt6
  replace ft2 := ft2.mono xt6
  replace ft3 := ft3.mono xt6
  replace ft4 := ft4.mono xt6
  replace ft5 := ft5.mono xt6
  have ft6 : Dq K (upd H5 t6 (.tup [.int 0, .int 1])) (.ref t6) (.tuple [.int 0, .int 1]) := .tup (SqT.of upd_same) (.cons (.int _) (.cons (.int _) .nil))
  replace xs := xs.trans xt6
  generalize upd H5 t6 (.tup [.int 0, .int 1]) = H6 at xs ft1 ft2 ft3 ft4 ft5 ft6 ⊢
  refine ⟨(by show 2 ≤ sizeLine; decide), fun t7 ht7 => ?_⟩
  have xt7 : Ex H6 (upd H6 t7 (.tup [.int 0, .int 2])) := ee ht7
  replace ft1 := ft1.mono xt7
  replace ft2 := ft2.mono xt7
  replace ft3 := ft3.mono xt7
  replace ft4 := ft4.mono xt7
  replace ft5 := ft5.mono xt7
  replace ft6 := ft6.mono xt7
  have ft7 : Dq K (upd H6 t7 (.tup [.int 0, .int 2])) (.ref t7) (.tuple [.int 0, .int 2]) := .tup (SqT.of upd_same) (.cons (.int _) (.cons (.int _) .nil))
  replace xs := xs.trans xt7
  generalize upd H6 t7 (.tup [.int 0, .int 2]) = H7 at xs ft1 ft2 ft3 ft4 ft5 ft6 ft7 ⊢
  refine ⟨(by show 2 ≤ sizeLine; decide), fun t8 ht8 => ?_⟩
  have xt8 : Ex H7 (upd H7 t8 (.tup [.int 1, .int 2])) := ee ht8
  replace ft1 := ft1.mono xt8
  replace ft2 := ft2.mono xt8
  replace ft3 := ft3.mono xt8
  replace ft4 := ft4.mono xt8
  replace ft5 := ft5.mono xt8
  replace ft6 := ft6.mono xt8
  replace ft7 := ft7.mono xt8
  have ft8 : Dq K (upd H7 t8 (.tup [.int 1, .int 2])) (.ref t8) (.tuple [.int 1, .int 2]) := .tup (SqT.of upd_same) (.cons (.int _) (.cons (.int _) .nil))
  replace xs := xs.trans xt8
  generalize upd H7 t8 (.tup [.int 1, .int 2]) = H8 at xs ft1 ft2 ft3 ft4 ft5 ft6 ft7 ft8 ⊢
  refine ⟨(by show 3 ≤ sizeLine; decide), fun t9 ht9 => ?_⟩
  have xt9 : Ex H8 (upd H8 t9 (.lst [.ref t6, .ref t7, .ref t8])) := ee ht9
  replace ft1 := ft1.mono xt9
  replace ft2 := ft2.mono xt9
  replace ft3 := ft3.mono xt9
  replace ft4 := ft4.mono xt9
  replace ft5 := ft5.mono xt9
  replace ft6 := ft6.mono xt9
  replace ft7 := ft7.mono xt9
  replace ft8 := ft8.mono xt9
  have ft9 : Dq K (upd H8 t9 (.lst [.ref t6, .ref t7, .ref t8])) (.ref t9) (.list [.tuple [.int 0, .int 1], .tuple [.int 0, .int 2], .tuple [.int 1, .int 2]]) := .lst (SqL.of upd_same) (.cons ft6 (.cons ft7 (.cons ft8 .nil)))
  replace xs := xs.trans xt9
  generalize upd H8 t9 (.lst [.ref t6, .ref t7, .ref t8]) = H9 at xs ft1 ft2 ft3 ft4 ft5 ft6 ft7 ft8 ft9 ⊢
  try dsimp only [tCons, tC, tNil, tCall, List.append_nil, List.nil_append, List.cons_append]
  refine made_joined (n := 4) (j := 3) (d1 := .int 4) (.int _) ft9 (by decide) (by decide) rfl (by decide) (by decide) (by decide +kernel) (by decide) (fun F W => not_joined (fun a => decide (a < 3)) rfl rfl (by decide +kernel) (fun m hm => by
    have : m = 0 ∨ m = 1 ∨ m = 2 := by omega
    rcases this with rfl | rfl | rfl
    · exact ⟨_, M.Path.one _ 0⟩
    · exact ⟨_, path_two (by decide) (by decide) (by decide) (by decide +kernel)⟩
    · exact ⟨_, path_two (by decide) (by decide) (by decide) (by decide +kernel)⟩) W) fun t10 H10 xt10 gt10 => ?_
  replace ft1 := ft1.mono xt10
  replace ft2 := ft2.mono xt10
  replace ft3 := ft3.mono xt10
  replace ft4 := ft4.mono xt10
  replace ft5 := ft5.mono xt10
  replace ft6 := ft6.mono xt10
  replace ft7 := ft7.mono xt10
  replace ft8 := ft8.mono xt10
  replace ft9 := ft9.mono xt10
  have ft10 : Dq K H10 (.ref t10) (.list [.str "joined", .int 3]) := .lst (SqL.of gt10) (.cons (.str _) (.cons (.int _) .nil))
  replace xs := xs.trans xt10
  clear gt10
  refine ⟨(by show 3 ≤ sizeLine; decide), fun t11 ht11 => ?_⟩
  have xt11 : Ex H10 (upd H10 t11 (.lst [.ref t4, .ref t5, .ref t10])) := ee ht11
  replace ft1 := ft1.mono xt11
  replace ft2 := ft2.mono xt11
  replace ft3 := ft3.mono xt11
  replace ft4 := ft4.mono xt11
  replace ft5 := ft5.mono xt11
  replace ft6 := ft6.mono xt11
  replace ft7 := ft7.mono xt11
  replace ft8 := ft8.mono xt11
  replace ft9 := ft9.mono xt11
  replace ft10 := ft10.mono xt11
  have ft11 : Dq K (upd H10 t11 (.lst [.ref t4, .ref t5, .ref t10])) (.ref t11) (.list [.list [.str "roads", .list [.tuple [.int 0, .int 1], .tuple [.int 0, .int 1]]], .list [.str "houses", .int 17], .list [.str "joined", .int 3]]) := .lst (SqL.of upd_same) (.cons ft4 (.cons ft5 (.cons ft10 .nil)))
  replace xs := xs.trans xt11
  have gt11 : (upd H10 t11 (.lst [.ref t4, .ref t5, .ref t10])) t11 = some (.lst [.ref t4, .ref t5, .ref t10]) := upd_same
  generalize upd H10 t11 (.lst [.ref t4, .ref t5, .ref t10]) = H11 at xs gt11 ft1 ft2 ft3 ft4 ft5 ft6 ft7 ft8 ft9 ft10 ft11 ⊢
  dsimp only [gName]
  refine seq_at (asg_at ?_)
  refine ⟨_, rfl, ?_⟩
  refine ⟨(by show 2 ≤ sizeLine; decide), fun t12 ht12 => ?_⟩
  have xt12 : Ex H11 (upd H11 t12 (.tup [.int 0, .int 5])) := ee ht12
  replace ft1 := ft1.mono xt12
  replace ft2 := ft2.mono xt12
  replace ft3 := ft3.mono xt12
  replace ft4 := ft4.mono xt12
  replace ft5 := ft5.mono xt12
  replace ft6 := ft6.mono xt12
  replace ft7 := ft7.mono xt12
  replace ft8 := ft8.mono xt12
  replace ft9 := ft9.mono xt12
  replace ft10 := ft10.mono xt12
  replace ft11 := ft11.mono xt12
  have ft12 : Dq K (upd H11 t12 (.tup [.int 0, .int 5])) (.ref t12) (.tuple [.int 0, .int 5]) := .tup (SqT.of upd_same) (.cons (.int _) (.cons (.int _) .nil))
  replace gt11 := xt12 _ _ gt11
  replace xs := xs.trans xt12
  generalize upd H11 t12 (.tup [.int 0, .int 5]) = H12 at xs gt11 ft1 ft2 ft3 ft4 ft5 ft6 ft7 ft8 ft9 ft10 ft11 ft12 ⊢
  refine ⟨(by show 2 ≤ sizeLine; decide), fun t13 ht13 => ?_⟩
  have xt13 : Ex H12 (upd H12 t13 (.tup [.int 1, .int 2])) := ee ht13
  replace ft1 := ft1.mono xt13
  replace ft2 := ft2.mono xt13
  replace ft3 := ft3.mono xt13
  replace ft4 := ft4.mono xt13
  replace ft5 := ft5.mono xt13
  replace ft6 := ft6.mono xt13
  replace ft7 := ft7.mono xt13
  replace ft8 := ft8.mono xt13
  replace ft9 := ft9.mono xt13
  replace ft10 := ft10.mono xt13
  replace ft11 := ft11.mono xt13
  replace ft12 := ft12.mono xt13
  have ft13 : Dq K (upd H12 t13 (.tup [.int 1, .int 2])) (.ref t13) (.tuple [.int 1, .int 2]) := .tup (SqT.of upd_same) (.cons (.int _) (.cons (.int _) .nil))
  replace gt11 := xt13 _ _ gt11
  replace xs := xs.trans xt13
  generalize upd H12 t13 (.tup [.int 1, .int 2]) = H13 at xs gt11 ft1 ft2 ft3 ft4 ft5 ft6 ft7 ft8 ft9 ft10 ft11 ft12 ft13 ⊢
  refine ⟨(by show 2 ≤ sizeLine; decide), fun t14 ht14 => ?_⟩
  have xt14 : Ex H13 (upd H13 t14 (.tup [.int 1, .int 3])) := ee ht14
  replace ft1 := ft1.mono xt14
  replace ft2 := ft2.mono xt14
  replace ft3 := ft3.mono xt14
  replace ft4 := ft4.mono xt14
  replace ft5 := ft5.mono xt14
  replace ft6 := ft6.mono xt14
  replace ft7 := ft7.mono xt14
  replace ft8 := ft8.mono xt14
  replace ft9 := ft9.mono xt14
  replace ft10 := ft10.mono xt14
  replace ft11 := ft11.mono xt14
  replace ft12 := ft12.mono xt14
  replace ft13 := ft13.mono xt14
  have ft14 : Dq K (upd H13 t14 (.tup [.int 1, .int 3])) (.ref t14) (.tuple [.int 1, .int 3]) := .tup (SqT.of upd_same) (.cons (.int _) (.cons (.int _) .nil))
  replace gt11 := xt14 _ _ gt11
  replace xs := xs.trans xt14
  generalize upd H13 t14 (.tup [.int 1, .int 3]) = H14 at xs gt11 ft1 ft2 ft3 ft4 ft5 ft6 ft7 ft8 ft9 ft10 ft11 ft12 ft13 ft14 ⊢
  refine ⟨(by show 2 ≤ sizeLine; decide), fun t15 ht15 => ?_⟩
  have xt15 : Ex H14 (upd H14 t15 (.tup [.int 2, .int 3])) := ee ht15
  replace ft1 := ft1.mono xt15
  replace ft2 := ft2.mono xt15
  replace ft3 := ft3.mono xt15
  replace ft4 := ft4.mono xt15
  replace ft5 := ft5.mono xt15
  replace ft6 := ft6.mono xt15
  replace ft7 := ft7.mono xt15
  replace ft8 := ft8.mono xt15
  replace ft9 := ft9.mono xt15
  replace ft10 := ft10.mono xt15
  replace ft11 := ft11.mono xt15
  replace ft12 := ft12.mono xt15
  replace ft13 := ft13.mono xt15
  replace ft14 := ft14.mono xt15
  have ft15 : Dq K (upd H14 t15 (.tup [.int 2, .int 3])) (.ref t15) (.tuple [.int 2, .int 3]) := .tup (SqT.of upd_same) (.cons (.int _) (.cons (.int _) .nil))
  replace gt11 := xt15 _ _ gt11
  replace xs := xs.trans xt15
  generalize upd H14 t15 (.tup [.int 2, .int 3]) = H15 at xs gt11 ft1 ft2 ft3 ft4 ft5 ft6 ft7 ft8 ft9 ft10 ft11 ft12 ft13 ft14 ft15 ⊢
  refine ⟨(by show 2 ≤ sizeLine; decide), fun t16 ht16 => ?_⟩
  have xt16 : Ex H15 (upd H15 t16 (.tup [.int 2, .int 4])) := ee ht16
  replace ft1 := ft1.mono xt16
  replace ft2 := ft2.mono xt16
  replace ft3 := ft3.mono xt16
  replace ft4 := ft4.mono xt16
  replace ft5 := ft5.mono xt16
  replace ft6 := ft6.mono xt16
  replace ft7 := ft7.mono xt16
  replace ft8 := ft8.mono xt16
  replace ft9 := ft9.mono xt16
  replace ft10 := ft10.mono xt16
  replace ft11 := ft11.mono xt16
  replace ft12 := ft12.mono xt16
  replace ft13 := ft13.mono xt16
  replace ft14 := ft14.mono xt16
  replace ft15 := ft15.mono xt16
  have ft16 : Dq K (upd H15 t16 (.tup [.int 2, .int 4])) (.ref t16) (.tuple [.int 2, .int 4]) := .tup (SqT.of upd_same) (.cons (.int _) (.cons (.int _) .nil))
  replace gt11 := xt16 _ _ gt11
  replace xs := xs.trans xt16
  generalize upd H15 t16 (.tup [.int 2, .int 4]) = H16 at xs gt11 ft1 ft2 ft3 ft4 ft5 ft6 ft7 ft8 ft9 ft10 ft11 ft12 ft13 ft14 ft15 ft16 ⊢
  refine ⟨(by show 5 ≤ sizeLine; decide), fun t17 ht17 => ?_⟩
  have xt17 : Ex H16 (upd H16 t17 (.lst [.ref t12, .ref t13, .ref t14, .ref t15, .ref t16])) := ee ht17
  replace ft1 := ft1.mono xt17
  replace ft2 := ft2.mono xt17
  replace ft3 := ft3.mono xt17
  replace ft4 := ft4.mono xt17
  replace ft5 := ft5.mono xt17
  replace ft6 := ft6.mono xt17
  replace ft7 := ft7.mono xt17
  replace ft8 := ft8.mono xt17
  replace ft9 := ft9.mono xt17
  replace ft10 := ft10.mono xt17
  replace ft11 := ft11.mono xt17
  replace ft12 := ft12.mono xt17
  replace ft13 := ft13.mono xt17
  replace ft14 := ft14.mono xt17
  replace ft15 := ft15.mono xt17
  replace ft16 := ft16.mono xt17
  have ft17 : Dq K (upd H16 t17 (.lst [.ref t12, .ref t13, .ref t14, .ref t15, .ref t16])) (.ref t17) (.list [.tuple [.int 0, .int 5], .tuple [.int 1, .int 2], .tuple [.int 1, .int 3], .tuple [.int 2, .int 3], .tuple [.int 2, .int 4]]) := .lst (SqL.of upd_same) (.cons ft12 (.cons ft13 (.cons ft14 (.cons ft15 (.cons ft16 .nil)))))
  replace gt11 := xt17 _ _ gt11
  replace xs := xs.trans xt17
  generalize upd H16 t17 (.lst [.ref t12, .ref t13, .ref t14, .ref t15, .ref t16]) = H17 at xs gt11 ft1 ft2 ft3 ft4 ft5 ft6 ft7 ft8 ft9 ft10 ft11 ft12 ft13 ft14 ft15 ft16 ft17 ⊢
  try dsimp only [tCons, tC, tNil, tCall, List.append_nil, List.nil_append, List.cons_append]
  refine made_joined (n := 6) (j := 1) (d1 := .int 6) (.int _) ft17 (by decide) (by decide) rfl (by decide) (by decide) (by decide +kernel) (by decide) (fun F W => not_joined (fun a => decide (a = 0 ∨ a = 5)) rfl rfl (by decide +kernel) (fun m hm => by
    have : m = 0 := by omega
    subst this
    exact ⟨_, M.Path.one _ 0⟩) W) fun t18 H18 xt18 gt18 => ?_
  replace ft1 := ft1.mono xt18
  replace ft2 := ft2.mono xt18
  replace ft3 := ft3.mono xt18
  replace ft4 := ft4.mono xt18
  replace ft5 := ft5.mono xt18
  replace ft6 := ft6.mono xt18
  replace ft7 := ft7.mono xt18
  replace ft8 := ft8.mono xt18
  replace ft9 := ft9.mono xt18
  replace ft10 := ft10.mono xt18
  replace ft11 := ft11.mono xt18
  replace ft12 := ft12.mono xt18
  replace ft13 := ft13.mono xt18
  replace ft14 := ft14.mono xt18
  replace ft15 := ft15.mono xt18
  replace ft16 := ft16.mono xt18
  replace ft17 := ft17.mono xt18
  have ft18 : Dq K H18 (.ref t18) (.list [.str "joined", .int 1]) := .lst (SqL.of gt18) (.cons (.str _) (.cons (.int _) .nil))
  replace gt11 := xt18 _ _ gt11
  replace xs := xs.trans xt18
  clear gt18
  refine ⟨(by show 0 ≤ sizeLine; decide), fun t19 ht19 => ?_⟩
  have xt19 : Ex H18 (upd H18 t19 (.lst [])) := ee ht19
  replace ft1 := ft1.mono xt19
  replace ft2 := ft2.mono xt19
  replace ft3 := ft3.mono xt19
  replace ft4 := ft4.mono xt19
  replace ft5 := ft5.mono xt19
  replace ft6 := ft6.mono xt19
  replace ft7 := ft7.mono xt19
  replace ft8 := ft8.mono xt19
  replace ft9 := ft9.mono xt19
  replace ft10 := ft10.mono xt19
  replace ft11 := ft11.mono xt19
  replace ft12 := ft12.mono xt19
  replace ft13 := ft13.mono xt19
  replace ft14 := ft14.mono xt19
  replace ft15 := ft15.mono xt19
  replace ft16 := ft16.mono xt19
  replace ft17 := ft17.mono xt19
  replace ft18 := ft18.mono xt19
  have ft19 : Dq K (upd H18 t19 (.lst [])) (.ref t19) (.list []) := .lst (SqL.of upd_same) .nil
  replace gt11 := xt19 _ _ gt11
  replace xs := xs.trans xt19
  generalize upd H18 t19 (.lst []) = H19 at xs gt11 ft1 ft2 ft3 ft4 ft5 ft6 ft7 ft8 ft9 ft10 ft11 ft12 ft13 ft14 ft15 ft16 ft17 ft18 ft19 ⊢
  try dsimp only [tCons, tC, tNil, tCall, List.append_nil, List.nil_append, List.cons_append]
  refine made_houses (d1 := .int 0) (.int _) ft19 (by decide) (by decide) (by decide) fun t20 H20 xt20 gt20 => ?_
  replace ft1 := ft1.mono xt20
  replace ft2 := ft2.mono xt20
  replace ft3 := ft3.mono xt20
  replace ft4 := ft4.mono xt20
  replace ft5 := ft5.mono xt20
  replace ft6 := ft6.mono xt20
  replace ft7 := ft7.mono xt20
  replace ft8 := ft8.mono xt20
  replace ft9 := ft9.mono xt20
  replace ft10 := ft10.mono xt20
  replace ft11 := ft11.mono xt20
  replace ft12 := ft12.mono xt20
  replace ft13 := ft13.mono xt20
  replace ft14 := ft14.mono xt20
  replace ft15 := ft15.mono xt20
  replace ft16 := ft16.mono xt20
  replace ft17 := ft17.mono xt20
  replace ft18 := ft18.mono xt20
  replace ft19 := ft19.mono xt20
  have ft20 : Dq K H20 (.ref t20) (.list [.str "houses", .int 0]) := .lst (SqL.of gt20) (.cons (.str _) (.cons (.int _) .nil))
  replace gt11 := xt20 _ _ gt11
  replace xs := xs.trans xt20
  clear gt20
  refine ⟨(by show 2 ≤ sizeLine; decide), fun t21 ht21 => ?_⟩
  have xt21 : Ex H20 (upd H20 t21 (.lst [.ref t18, .ref t20])) := ee ht21
  replace ft1 := ft1.mono xt21
  replace ft2 := ft2.mono xt21
  replace ft3 := ft3.mono xt21
  replace ft4 := ft4.mono xt21
  replace ft5 := ft5.mono xt21
  replace ft6 := ft6.mono xt21
  replace ft7 := ft7.mono xt21
  replace ft8 := ft8.mono xt21
  replace ft9 := ft9.mono xt21
  replace ft10 := ft10.mono xt21
  replace ft11 := ft11.mono xt21
  replace ft12 := ft12.mono xt21
  replace ft13 := ft13.mono xt21
  replace ft14 := ft14.mono xt21
  replace ft15 := ft15.mono xt21
  replace ft16 := ft16.mono xt21
  replace ft17 := ft17.mono xt21
  replace ft18 := ft18.mono xt21
  replace ft19 := ft19.mono xt21
  replace ft20 := ft20.mono xt21
  have ft21 : Dq K (upd H20 t21 (.lst [.ref t18, .ref t20])) (.ref t21) (.list [.list [.str "joined", .int 1], .list [.str "houses", .int 0]]) := .lst (SqL.of upd_same) (.cons ft18 (.cons ft20 .nil))
  replace gt11 := xt21 _ _ gt11
  replace xs := xs.trans xt21
  have gt21 : (upd H20 t21 (.lst [.ref t18, .ref t20])) t21 = some (.lst [.ref t18, .ref t20]) := upd_same
  generalize upd H20 t21 (.lst [.ref t18, .ref t20]) = H21 at xs gt11 gt21 ft1 ft2 ft3 ft4 ft5 ft6 ft7 ft8 ft9 ft10 ft11 ft12 ft13 ft14 ft15 ft16 ft17 ft18 ft19 ft20 ft21 ⊢
  refine ⟨_, _, _, _, rfl, rfl, gt11, gt21, (by show 5 ≤ sizeLine; decide), fun tt htt => ?_⟩
  have xtt : Ex H21 (upd H21 tt (.lst ([.ref t4, .ref t5, .ref t10] ++ [.ref t18, .ref t20]))) := ee htt
  replace ft1 := ft1.mono xtt
  replace ft2 := ft2.mono xtt
  replace ft3 := ft3.mono xtt
  replace ft4 := ft4.mono xtt
  replace ft5 := ft5.mono xtt
  replace ft6 := ft6.mono xtt
  replace ft7 := ft7.mono xtt
  replace ft8 := ft8.mono xtt
  replace ft9 := ft9.mono xtt
  replace ft10 := ft10.mono xtt
  replace ft11 := ft11.mono xtt
  replace ft12 := ft12.mono xtt
  replace ft13 := ft13.mono xtt
  replace ft14 := ft14.mono xtt
  replace ft15 := ft15.mono xtt
  replace ft16 := ft16.mono xtt
  replace ft17 := ft17.mono xtt
  replace ft18 := ft18.mono xtt
  replace ft19 := ft19.mono xtt
  replace ft20 := ft20.mono xtt
  replace ft21 := ft21.mono xtt
  have ftt : Dq K (upd H21 tt (.lst ([.ref t4, .ref t5, .ref t10] ++ [.ref t18, .ref t20]))) (.ref tt) (.list [.list [.str "roads", .list [.tuple [.int 0, .int 1], .tuple [.int 0, .int 1]]], .list [.str "houses", .int 17], .list [.str "joined", .int 3], .list [.str "joined", .int 1], .list [.str "houses", .int 0]]) := .lst (SqL.of upd_same) (.cons ft4 (.cons ft5 (.cons ft10 (.cons ft18 (.cons ft20 .nil)))))
  replace xs := xs.trans xtt
  generalize upd H21 tt (.lst ([.ref t4, .ref t5, .ref t10] ++ [.ref t18, .ref t20])) = H22 at xs ftt ⊢
  dsimp only [gName]
  refine seq_at (asg_at ?_)
  refine ⟨(by show 2 ≤ sizeLine; decide), fun t22 ht22 => ?_⟩
  have xt22 : Ex H22 (upd H22 t22 (.tup [.int 0, .int 1])) := ee ht22
  replace ftt := ftt.mono xt22
  have ft22 : Dq K (upd H22 t22 (.tup [.int 0, .int 1])) (.ref t22) (.tuple [.int 0, .int 1]) := .tup (SqT.of upd_same) (.cons (.int _) (.cons (.int _) .nil))
  replace xs := xs.trans xt22
  generalize upd H22 t22 (.tup [.int 0, .int 1]) = H23 at xs ftt ft22 ⊢
  refine ⟨(by show 2 ≤ sizeLine; decide), fun t23 ht23 => ?_⟩
  have xt23 : Ex H23 (upd H23 t23 (.tup [.int 0, .int 1])) := ee ht23
  replace ftt := ftt.mono xt23
  replace ft22 := ft22.mono xt23
  have ft23 : Dq K (upd H23 t23 (.tup [.int 0, .int 1])) (.ref t23) (.tuple [.int 0, .int 1]) := .tup (SqT.of upd_same) (.cons (.int _) (.cons (.int _) .nil))
  replace xs := xs.trans xt23
  generalize upd H23 t23 (.tup [.int 0, .int 1]) = H24 at xs ftt ft22 ft23 ⊢
  refine ⟨(by show 2 ≤ sizeLine; decide), fun t24 ht24 => ?_⟩
  have xt24 : Ex H24 (upd H24 t24 (.lst [.ref t22, .ref t23])) := ee ht24
  replace ftt := ftt.mono xt24
  replace ft22 := ft22.mono xt24
  replace ft23 := ft23.mono xt24
  have ft24 : Dq K (upd H24 t24 (.lst [.ref t22, .ref t23])) (.ref t24) (.list [.tuple [.int 0, .int 1], .tuple [.int 0, .int 1]]) := .lst (SqL.of upd_same) (.cons ft22 (.cons ft23 .nil))
  replace xs := xs.trans xt24
  generalize upd H24 t24 (.lst [.ref t22, .ref t23]) = H25 at xs ftt ft22 ft23 ft24 ⊢
  refine ⟨(by show 2 ≤ sizeLine; decide), fun t25 ht25 => ?_⟩
  have xt25 : Ex H25 (upd H25 t25 (.lst [.str "roads", .ref t24])) := ee ht25
  replace ftt := ftt.mono xt25
  replace ft22 := ft22.mono xt25
  replace ft23 := ft23.mono xt25
  replace ft24 := ft24.mono xt25
  have ft25 : Dq K (upd H25 t25 (.lst [.str "roads", .ref t24])) (.ref t25) (.list [.str "roads", .list [.tuple [.int 0, .int 1], .tuple [.int 0, .int 1]]]) := .lst (SqL.of upd_same) (.cons (.str _) (.cons ft24 .nil))
  replace xs := xs.trans xt25
  generalize upd H25 t25 (.lst [.str "roads", .ref t24]) = H26 at xs ftt ft22 ft23 ft24 ft25 ⊢
  refine ⟨(by show 2 ≤ sizeLine; decide), fun t26 ht26 => ?_⟩
  have xt26 : Ex H26 (upd H26 t26 (.lst [.str "houses", .int 17])) := ee ht26
  replace ftt := ftt.mono xt26
  replace ft22 := ft22.mono xt26
  replace ft23 := ft23.mono xt26
  replace ft24 := ft24.mono xt26
  replace ft25 := ft25.mono xt26
  have ft26 : Dq K (upd H26 t26 (.lst [.str "houses", .int 17])) (.ref t26) (.list [.str "houses", .int 17]) := .lst (SqL.of upd_same) (.cons (.str _) (.cons (.int _) .nil))
  replace xs := xs.trans xt26
  generalize upd H26 t26 (.lst [.str "houses", .int 17]) = H27 at xs ftt ft22 ft23 ft24 ft25 ft26 ⊢
  refine ⟨(by show 2 ≤ sizeLine; decide), fun t27 ht27 => ?_⟩
  have xt27 : Ex H27 (upd H27 t27 (.lst [.str "joined", .int 3])) := ee ht27
  replace ftt := ftt.mono xt27
  replace ft22 := ft22.mono xt27
  replace ft23 := ft23.mono xt27
  replace ft24 := ft24.mono xt27
  replace ft25 := ft25.mono xt27
  replace ft26 := ft26.mono xt27
  have ft27 : Dq K (upd H27 t27 (.lst [.str "joined", .int 3])) (.ref t27) (.list [.str "joined", .int 3]) := .lst (SqL.of upd_same) (.cons (.str _) (.cons (.int _) .nil))
  replace xs := xs.trans xt27
  generalize upd H27 t27 (.lst [.str "joined", .int 3]) = H28 at xs ftt ft22 ft23 ft24 ft25 ft26 ft27 ⊢
  refine ⟨(by show 2 ≤ sizeLine; decide), fun t28 ht28 => ?_⟩
  have xt28 : Ex H28 (upd H28 t28 (.lst [.str "joined", .int 1])) := ee ht28
  replace ftt := ftt.mono xt28
  replace ft22 := ft22.mono xt28
  replace ft23 := ft23.mono xt28
  replace ft24 := ft24.mono xt28
  replace ft25 := ft25.mono xt28
  replace ft26 := ft26.mono xt28
  replace ft27 := ft27.mono xt28
  have ft28 : Dq K (upd H28 t28 (.lst [.str "joined", .int 1])) (.ref t28) (.list [.str "joined", .int 1]) := .lst (SqL.of upd_same) (.cons (.str _) (.cons (.int _) .nil))
  replace xs := xs.trans xt28
  generalize upd H28 t28 (.lst [.str "joined", .int 1]) = H29 at xs ftt ft22 ft23 ft24 ft25 ft26 ft27 ft28 ⊢
  refine ⟨(by show 2 ≤ sizeLine; decide), fun t29 ht29 => ?_⟩
  have xt29 : Ex H29 (upd H29 t29 (.lst [.str "houses", .int 0])) := ee ht29
  replace ftt := ftt.mono xt29
  replace ft22 := ft22.mono xt29
  replace ft23 := ft23.mono xt29
  replace ft24 := ft24.mono xt29
  replace ft25 := ft25.mono xt29
  replace ft26 := ft26.mono xt29
  replace ft27 := ft27.mono xt29
  replace ft28 := ft28.mono xt29
  have ft29 : Dq K (upd H29 t29 (.lst [.str "houses", .int 0])) (.ref t29) (.list [.str "houses", .int 0]) := .lst (SqL.of upd_same) (.cons (.str _) (.cons (.int _) .nil))
  replace xs := xs.trans xt29
  generalize upd H29 t29 (.lst [.str "houses", .int 0]) = H30 at xs ftt ft22 ft23 ft24 ft25 ft26 ft27 ft28 ft29 ⊢
  refine ⟨(by show 5 ≤ sizeLine; decide), fun t30 ht30 => ?_⟩
  have xt30 : Ex H30 (upd H30 t30 (.lst [.ref t25, .ref t26, .ref t27, .ref t28, .ref t29])) := ee ht30
  replace ftt := ftt.mono xt30
  replace ft22 := ft22.mono xt30
  replace ft23 := ft23.mono xt30
  replace ft24 := ft24.mono xt30
  replace ft25 := ft25.mono xt30
  replace ft26 := ft26.mono xt30
  replace ft27 := ft27.mono xt30
  replace ft28 := ft28.mono xt30
  replace ft29 := ft29.mono xt30
  have ft30 : Dq K (upd H30 t30 (.lst [.ref t25, .ref t26, .ref t27, .ref t28, .ref t29])) (.ref t30) (.list [.list [.str "roads", .list [.tuple [.int 0, .int 1], .tuple [.int 0, .int 1]]], .list [.str "houses", .int 17], .list [.str "joined", .int 3], .list [.str "joined", .int 1], .list [.str "houses", .int 0]]) := .lst (SqL.of upd_same) (.cons ft25 (.cons ft26 (.cons ft27 (.cons ft28 (.cons ft29 .nil)))))
  replace xs := xs.trans xt30
  generalize upd H30 t30 (.lst [.ref t25, .ref t26, .ref t27, .ref t28, .ref t29]) = H31 at xs ftt ft22 ft23 ft24 ft25 ft26 ft27 ft28 ft29 ft30 ⊢
  dsimp only [gName]
  refine ret_at ?_
  have sm : Small 10000 6 (.list [.list [.str "roads", .list [.tuple [.int 0, .int 1], .tuple [.int 0, .int 1]]], .list [.str "houses", .int 17], .list [.str "joined", .int 3], .list [.str "joined", .int 1], .list [.str "houses", .int 0]]) := smallB_ok (by decide +kernel)
  refine ⟨_, rfl, ?_⟩
  dsimp only [tNil]
  refine rRepr_of ftt sm (by decide) (by decide) ?_
  refine ⟨_, rfl, ?_⟩
  dsimp only [tNil]
  refine rRepr_of ft30 sm (by decide) (by decide) ?_
  refine ⟨rfl, ?_⟩
  rw [decide_eq_true rfl]
  exact q _ xs
end

end T1

namespace T1
open PySem PySem.Spec PyProof.Rows L2 G
open Evl (Ex)
local macro_rules | `(tactic| walk_at "dd") => `(tactic| (dsimp only [tCB, tCons, tNil, tC, tOp, tUn, tTest, tB, tVar, tAndV, tOrV, tNotV, tIf, tAnd, tOr, tNot, tSeq, tRet, tRetN, tIfS, tAsg, gName, tDrop, tTup, tLst, tChain, tNext, tCall, L2.start]))
def natD : PyData → Nat
  | .int i => i.toNat
  | _ => 0
/-- how many houses a question of this kind asks for -/
def cntK (k : Nat) : Nat := [1, 0, 2, 2, 3, 3, 2].getD k 0
def numsD (l : List Nat) : PyData := .list (l.map intD)
/-- the answer to a question, as data: its items -/
def ansG (n : Nat) (Fs : List (List (List Nat))) (k i j h : Nat) : List PyData :=
  match k with
  | 0 => [.str "told", numsD ((List.range n).filter fun x => decide ((wy Fs i x).length = 2))]
  | 1 => [.str "told", numsD ((List.range n).filter fun x => decide (((List.range n).filter fun y => decide ((wy Fs x y).length = 2)).length < 2))]
  | 2 => [.str "told", rowD (wy Fs i j)]
  | 3 => [.str "told", .int ((wy Fs i j).length - 1 : Int)]
  | 4 => [.str "told", .int (((mids Fs i j h).headD 0 : Nat) : Int)]
  | 5 => [.str "told", .bool ((wy Fs i j).contains h)]
  | _ => if (wy Fs i j).length = 2 then [.str "told", numsD ((List.range n).filter fun x => (wy Fs x j).contains i)] else [.str "road", intD i, intD j]
def ansE (n : Nat) (Fs : List (List (List Nat))) (k : Nat) (ds : List PyData) : List PyData :=
  if k = 7 then (if areIdx (ds.headD .none) n = true then [.str "told", numsD ((List.range n).filter (spanN Fs ((items (ds.headD .none)).map natD)))] else [.str "list", ds.headD .none])
  else match (ds.take (cntK k)).find? fun d => !isIdx d n with
    | some d => [.str "house", d]
    | none => ansG n Fs k (natD (ds.headD .none)) (natD (ds.getD 1 .none)) (natD (ds.getD 2 .none))
/-- what was told: vs the items of the new list -/
structure Out (K : PySem.W.Frag) (H H' : Hp) (l : Addr) (ts vs : List V) (es : List PyData) : Prop where
  dq : Dqs K H' vs es
  told : ∀ x, vs = [.str "told", x] → (∃ y ns, x = .ref y ∧ H' y = some (.lst ns) ∧ H y = none ∧ y ≠ l ∧ ns.length ≤ 16) ∨ ∃ d, es = [.str "told", d] ∧ isT "list" d = false
  lis : ∀ x, vs = [.str "list", x] → ts.head? = some x
theorem Out.mono {K : PySem.W.Frag} {H H' H'' : Hp} {l : Addr} {ts vs : List V} {es : List PyData} (e : Ex H' H'') (h : Out K H H' l ts vs es) : Out K H H'' l ts vs es :=
  ⟨h.dq.mono e, fun x q => (h.told x q).imp (fun ⟨y, ns, a, b, c⟩ => ⟨y, ns, a, e _ _ b, c⟩) id, h.lis⟩
theorem dqs_nums {K : PySem.W.Frag} {H : Hp} : ∀ l : List Nat, Dqs K H (l.map iV) (l.map intD)
  | [] => .nil
  | k :: l => .cons (.int _) (dqs_nums l)
theorem dqs_uncons {K : PySem.W.Frag} {H : Hp} {ts : List V} {ds : List PyData} (h : Dqs K H ts ds) (l : 1 ≤ ts.length) : ∃ x ts' d ds', ts = x :: ts' ∧ ds = d :: ds' ∧ Dq K H x d ∧ Dqs K H ts' ds' := by
  cases h with
  | nil => simp at l
  | cons qx qr => exact ⟨_, _, _, _, rfl, rfl, qx, qr⟩
theorem map_natD (is : List Nat) : (is.map intD).map natD = is := by
  rw [List.map_map]
  exact (List.map_congr_left fun k _ => by show ((k : Int)).toNat = k; simp).trans (List.map_id _)
theorem areIdx_nums {d : PyData} {n : Nat} {is : List Nat} (hs : isSeq d = true) (hi : items d = is.map intD) (lt : ∀ i ∈ is, i < n) : areIdx d n = true := by
  unfold areIdx
  rw [hs, hi, Bool.true_and, List.all_eq_true]
  intro x hx
  obtain ⟨k, hk, rfl⟩ := List.mem_map.mp hx
  exact isIdx_nat (lt k hk)
def sp__law_asked (K : PySem.W.Frag) : Sp := sp3 fun a b e H Q E => ∃ (s T : Addr) (n : Nat) (rs : List (Nat × Nat)) (Fs : List (List (List Nat))) (ts : List V) (ds : List PyData) (kk : Nat), a = .ref s ∧ TreeAt K H s n rs Fs ∧ TreeG n rs ∧ b = .int (kk : Int) ∧ kk < 16 ∧ e = .ref T ∧ (SqL K H T ts ∨ SqT K H T ts) ∧ Dqs K H ts ds ∧
  (kk % 8 = 7 → 1 ≤ ts.length ∧ (items (ds.headD .none)).length ≤ 100000) ∧ (kk % 8 ≠ 7 → cntK (kk % 8) ≤ ts.length) ∧
  ∀ l H' vs, Ex H H' → H l = none → H' l = some (.lst vs) → Out K H H' l ts vs (ansE n Fs (kk % 8) ds) → Q (.ref l) H'
section
variable {K : PySem.W.Frag} {mg : Str → Option Value} {P : Program} {w : World} {base : Heap}
theorem ok__law_asked (T : Tx K mg) : Cal P w K mg base CX0 8 "_law_asked" ["_law_web", "_law_kind", "_law_things_here"] (sp__law_asked K) := by
  refine cal_of (fD__law_asked T) (T.glo 45 rfl) sc__law_asked (fun _ _ _ _ _ _ us hl => match us, hl with | [_, _, _], _ => rfl) (fun vs H Q E h => len3 h) (fun f cdv A outer s H vs Q E hr h => ?_)
  obtain ⟨a, b, c, rfl, h⟩ := h
  refine ⟨_, (PSs.nox (pss_one (ps_tryAs (i := 3) rfl rfl sc__law_asked.nd rfl rfl (fun W pn xe tk po => (pss_cons (ps_if (pt_cmpR op_eq (pe_op op_mod (pv 1) pe_int) pe_int (nomark _)) (pss_one (ps_ret (pe_lst (pa_cons pe_str (pa_cons (pe_ifExp (pt_cmpR op_lt (pv 1) pe_int (nomark _)) (pe_cW (ok_span T) (hr.mono (by decide)) rfl tk (pa_cons (pv 0) (pa_cons (pe_ix (ix_seqK (K := K)) (pv 2) pe_int (fun _ _ => rfl)) pa_nil))) (pe_ckW (ks := ["houses", "tree"]) [1, 0] (ok_span T) (fD_span T) (fun _ _ _ _ _ _ us ws h1 h2 => match us, ws, h1, h2 with | [], [_, _], _, _ => rfl) (hr.mono (by decide)) rfl tk (pk_cons (pe_ix (ix_seqK (K := K)) (pv 2) pe_int (fun _ _ => rfl)) (pk_cons (pv 0) pk_nil)))) pa_nil))))) pss_nil)
      (pss_cons (ps_if (pt_cmpR op_eq (pe_op op_mod (pv 1) pe_int) pe_int (nomark _)) (pss_one (ps_ret (pe_lst (pa_cons pe_str (pa_cons (pe_ifExp (pt_cmpR op_lt (pv 1) pe_int (nomark _)) (pe_cW (ok_side T) (hr.mono (by decide)) rfl tk (pa_cons (pv 0) (pa_cons (pe_ix (ix_seqK (K := K)) (pv 2) pe_int (fun _ _ => rfl)) (pa_cons (pe_ix (ix_seqK (K := K)) (pv 2) pe_int (fun _ _ => rfl)) pa_nil)))) (pe_ckW (ks := ["v", "u", "tree"]) [2, 1, 0] (ok_side T) (fD_side T) (fun _ _ _ _ _ _ us ws h1 h2 => match us, ws, h1, h2 with | [], [_, _, _], _, _ => rfl) (hr.mono (by decide)) rfl tk (pk_cons (pe_ix (ix_seqK (K := K)) (pv 2) pe_int (fun _ _ => rfl)) (pk_cons (pe_ix (ix_seqK (K := K)) (pv 2) pe_int (fun _ _ => rfl)) (pk_cons (pv 0) pk_nil))))) pa_nil))))) pss_nil)
      (pss_cons (ps_if (pt_cmpR op_eq (pv 1) pe_int (nomark _)) (pss_one (ps_ret (pe_lst (pa_cons pe_str (pa_cons (pe_cW (ok_neighbours T) (hr.mono (by decide)) rfl tk (pa_cons (pv 0) (pa_cons (pe_ix (ix_seqK (K := K)) (pv 2) pe_int (fun _ _ => rfl)) pa_nil))) pa_nil))))) pss_nil)
      (pss_cons (ps_if (pt_cmpR op_eq (pv 1) pe_int (nomark _)) (pss_one (ps_ret (pe_lst (pa_cons pe_str (pa_cons (pe_ckW (ks := ["house", "tree"]) [1, 0] (ok_neighbours T) (fD_neighbours T) (fun _ _ _ _ _ _ us ws h1 h2 => match us, ws, h1, h2 with | [], [_, _], _, _ => rfl) (hr.mono (by decide)) rfl tk (pk_cons (pe_ix (ix_seqK (K := K)) (pv 2) pe_int (fun _ _ => rfl)) (pk_cons (pv 0) pk_nil))) pa_nil))))) pss_nil)
      (pss_cons (ps_if (pt_cmpR op_eq (pe_op op_mod (pv 1) pe_int) pe_int (nomark _)) (pss_one (ps_ret (pe_lst (pa_cons pe_str (pa_cons (pe_ifExp (pt_cmpR op_lt (pv 1) pe_int (nomark _)) (pe_c (ok_ends T) (hr.mono (by decide)) rfl pass0 (pa_cons (pv 0) pa_nil)) (pe_ck (ks := ["tree"]) [0] (ok_ends T) (fD_ends T) (fun _ _ _ _ _ _ us ws h1 h2 => match us, ws, h1, h2 with | [], [_], _, _ => rfl) (hr.mono (by decide)) rfl pass0 (pk_cons (pv 0) pk_nil))) pa_nil))))) pss_nil)
      (pss_cons (ps_if (pt_cmpR op_eq (pe_op op_mod (pv 1) pe_int) pe_int (nomark _)) (pss_one (ps_ret (pe_lst (pa_cons pe_str (pa_cons (pe_ifExp (pt_cmpR op_lt (pv 1) pe_int (nomark _)) (pe_cW (ok_way T) (hr.mono (by decide)) rfl tk (pa_cons (pv 0) (pa_cons (pe_ix (ix_seqK (K := K)) (pv 2) pe_int (fun _ _ => rfl)) (pa_cons (pe_ix (ix_seqK (K := K)) (pv 2) pe_int (fun _ _ => rfl)) pa_nil)))) (pe_ckW (ks := ["b", "tree", "a"]) [1, 2, 0] (ok_way T) (fD_way T) (fun _ _ _ _ _ _ us ws h1 h2 => match us, ws, h1, h2 with | [], [_, _, _], _, _ => rfl) (hr.mono (by decide)) rfl tk (pk_cons (pe_ix (ix_seqK (K := K)) (pv 2) pe_int (fun _ _ => rfl)) (pk_cons (pv 0) (pk_cons (pe_ix (ix_seqK (K := K)) (pv 2) pe_int (fun _ _ => rfl)) pk_nil))))) pa_nil))))) pss_nil)
      (pss_cons (ps_if (pt_cmpR op_eq (pv 1) pe_int (nomark _)) (pss_one (ps_ret (pe_lst (pa_cons pe_str (pa_cons (pe_cW (ok_distance T) (hr.mono (by decide)) rfl tk (pa_cons (pv 0) (pa_cons (pe_ix (ix_seqK (K := K)) (pv 2) pe_int (fun _ _ => rfl)) (pa_cons (pe_ix (ix_seqK (K := K)) (pv 2) pe_int (fun _ _ => rfl)) pa_nil)))) pa_nil))))) pss_nil)
      (pss_cons (ps_if (pt_cmpR op_eq (pv 1) pe_int (nomark _)) (pss_one (ps_ret (pe_lst (pa_cons pe_str (pa_cons (pe_ckW (ks := ["a", "b", "tree"]) [2, 0, 1] (ok_distance T) (fD_distance T) (fun _ _ _ _ _ _ us ws h1 h2 => match us, ws, h1, h2 with | [], [_, _, _], _, _ => rfl) (hr.mono (by decide)) rfl tk (pk_cons (pe_ix (ix_seqK (K := K)) (pv 2) pe_int (fun _ _ => rfl)) (pk_cons (pe_ix (ix_seqK (K := K)) (pv 2) pe_int (fun _ _ => rfl)) (pk_cons (pv 0) pk_nil)))) pa_nil))))) pss_nil)
      (pss_cons (ps_if (pt_cmpR op_eq (pv 1) pe_int (nomark _)) (pss_one (ps_ret (pe_lst (pa_cons pe_str (pa_cons (pe_cW (ok_middle T) (hr.mono (by decide)) rfl tk (pa_cons (pv 0) (pa_cons (pe_ix (ix_seqK (K := K)) (pv 2) pe_int (fun _ _ => rfl)) (pa_cons (pe_ix (ix_seqK (K := K)) (pv 2) pe_int (fun _ _ => rfl)) (pa_cons (pe_ix (ix_seqK (K := K)) (pv 2) pe_int (fun _ _ => rfl)) pa_nil))))) pa_nil))))) pss_nil)
      (pss_cons (ps_if (pt_cmpR op_eq (pv 1) pe_int (nomark _)) (pss_one (ps_ret (pe_lst (pa_cons pe_str (pa_cons (pe_ckW (ks := ["c", "b", "a", "tree"]) [3, 2, 1, 0] (ok_middle T) (fD_middle T) (fun _ _ _ _ _ _ us ws h1 h2 => match us, ws, h1, h2 with | [], [_, _, _, _], _, _ => rfl) (hr.mono (by decide)) rfl tk (pk_cons (pe_ix (ix_seqK (K := K)) (pv 2) pe_int (fun _ _ => rfl)) (pk_cons (pe_ix (ix_seqK (K := K)) (pv 2) pe_int (fun _ _ => rfl)) (pk_cons (pe_ix (ix_seqK (K := K)) (pv 2) pe_int (fun _ _ => rfl)) (pk_cons (pv 0) pk_nil))))) pa_nil))))) pss_nil)
      (pss_cons (ps_if (pt_cmpR op_eq (pv 1) pe_int (nomark _)) (pss_one (ps_ret (pe_lst (pa_cons pe_str (pa_cons (pe_cW (ok_on_way T) (hr.mono (by decide)) rfl tk (pa_cons (pv 0) (pa_cons (pe_ix (ix_seqK (K := K)) (pv 2) pe_int (fun _ _ => rfl)) (pa_cons (pe_ix (ix_seqK (K := K)) (pv 2) pe_int (fun _ _ => rfl)) (pa_cons (pe_ix (ix_seqK (K := K)) (pv 2) pe_int (fun _ _ => rfl)) pa_nil))))) pa_nil))))) pss_nil)
      (pss_one (ps_ret (pe_lst (pa_cons pe_str (pa_cons (pe_ckW (ks := ["house", "a", "tree", "b"]) [2, 1, 3, 0] (ok_on_way T) (fD_on_way T) (fun _ _ _ _ _ _ us ws h1 h2 => match us, ws, h1, h2 with | [], [_, _, _, _], _, _ => rfl) (hr.mono (by decide)) rfl tk (pk_cons (pe_ix (ix_seqK (K := K)) (pv 2) pe_int (fun _ _ => rfl)) (pk_cons (pe_ix (ix_seqK (K := K)) (pv 2) pe_int (fun _ _ => rfl)) (pk_cons (pv 0) (pk_cons (pe_ix (ix_seqK (K := K)) (pv 2) pe_int (fun _ _ => rfl)) pk_nil))))) pa_nil))))))))))))))))) (HdsAs.cons ⟨rfl, by decide, .inl (T.glo 3 rfl)⟩ (fun ax oe cls dx pn hz hf => (pss_one (ps_ret (pe_lst (pa_cons pe_str (pa_cons (pe_xf (T.err 2 rfl).xf ((T.err 2 rfl).no "given" (by simp)) hz hf (pv 3)) pa_nil)))))) (HdsAs.cons ⟨rfl, by decide, .inl (T.glo 8 rfl)⟩ (fun ax oe cls dx pn hz hf => (pss_one (ps_ret (pe_lst (pa_cons pe_str (pa_cons (pe_xf (T.err 7 rfl).xf ((T.err 7 rfl).no "u" (by simp)) hz hf (pv 3)) (pa_cons (pe_xf (T.err 7 rfl).xf ((T.err 7 rfl).no "v" (by simp)) hz hf (pv 3)) pa_nil))))))) (HdsAs.cons ⟨rfl, by decide, .inl (T.glo 4 rfl)⟩ (fun ax oe cls dx pn hz hf => (pss_one (ps_ret (pe_lst (pa_cons pe_str (pa_cons (pe_xf (T.err 3 rfl).xf ((T.err 3 rfl).no "given" (by simp)) hz hf (pv 3)) pa_nil)))))) HdsAs.nil)))))), ?_⟩
  obtain ⟨s0, U, n, rs, Fs, ts, ds, kk, rfl, tr, g, rfl, k16, rfl, hU, hds, c7, cn, q⟩ := h
  have w := tr.ways

  have short : ∀ f : Nat → Bool, (((List.range n).filter f).map iV).length ≤ 16 := fun f => by
    have := List.length_filter_le f (List.range n)
    have := tr.n16
    rw [List.length_range] at *
    rw [List.length_map]; omega
  generalize hW : wNamed _ 3 _ _ = W
  have fin : ∀ {v : V} {H1 : Hp} {d : PyData}, Ex H H1 → Dq K H1 v d → ((∃ y ns, v = .ref y ∧ H1 y = some (.lst ns) ∧ H y = none ∧ ns.length ≤ 16) ∨ isT "list" d = false) → ansE n Fs (kk % 8) ds = [.str "told", d] → ∀ l, H1 l = none → Q (.ref l) (upd H1 l (.lst [.str "told", v])) := fun {v H1 d} e dq fr ea l hl => by
    have el := Evl.Ex.new (o := .lst [.str "told", v]) hl
    refine q l _ [.str "told", v] (e.trans el) (Evl.fresh_back e hl) upd_same ⟨?_, ?_, ?_⟩
    · rw [ea]; exact .cons (.str _) (.cons (dq.mono el) .nil)
    · intro x ex
      injection ex with _ ex
      injection ex with ex _
      subst ex
      rcases fr with ⟨y, ns, a, b, c, c'⟩ | z
      · exact .inl ⟨y, ns, a, el _ _ b, c, (fun z => by rw [z, hl] at b; cases b), c'⟩
      · exact .inr ⟨d, ea, z⟩
    · intro x ex
      injection ex with ex _
      injection ex with ex
      exact absurd ex (by decide)
  have no : ∀ {a b : Str} {x : V} {xs ys : List V}, a ≠ b → V.str a :: xs = V.str b :: ys → False := fun ne e => by
    injection e with e _
    injection e with e
    exact ne e
  have house : ∀ {x : V} {d : PyData}, Dq K H x d → ansE n Fs (kk % 8) ds = [.str "house", d] → Err1 K (atS W (L2.start ["_law_web", "_law_kind", "_law_things_here", "e"] [.ref s0, .int (kk : Int), .ref U])) H "InvalidHouse" "given" x := fun {x d} dq ea dx H1 e hx => by
    show W _ _ _ _
    rw [← hW]
    refine ⟨true, T.exm (x := "InvalidHouse") (y := "InvalidHouse") 2 2 rfl rfl rfl, fun _ ax hax => ⟨_, rfl, rfl, rfl, dx, _, _, rfl, hx, rfl, (by show 2 ≤ sizeLine; decide), fun l hl => ?_⟩, fun z => (nomatch z)⟩
    have el := Evl.Ex.new (o := .lst [.str "house", x]) hl
    refine q l _ _ (e.trans el) (Evl.fresh_back e hl) upd_same ⟨?_, fun y ey => (no (x := x) (by decide) ey).elim, fun y ey => (no (x := x) (by decide) ey).elim⟩
    rw [ea]; exact .cons (.str _) (.cons ((dq.mono e).mono el) .nil)
  have road : ∀ {x y : V} {d d' : PyData}, Dq K H x d → Dq K H y d' → ansE n Fs (kk % 8) ds = [.str "road", d, d'] → Err2 K (atS W (L2.start ["_law_web", "_law_kind", "_law_things_here", "e"] [.ref s0, .int (kk : Int), .ref U])) H "NotARoad" "u" "v" x y := fun {x y d d'} dq dq' ea dx H1 e hx => by
    show W _ _ _ _
    rw [← hW]
    refine ⟨false, T.exm (x := "NotARoad") (y := "InvalidHouse") 7 2 rfl rfl rfl, fun z => (nomatch z), fun _ => ⟨true, T.exm (x := "NotARoad") (y := "NotARoad") 7 7 rfl rfl rfl, fun _ ax hax => ⟨_, rfl, rfl, rfl, dx, _, _, rfl, hx, rfl, _, rfl, rfl, rfl, dx, _, _, rfl, hx, rfl, (by show 3 ≤ sizeLine; decide), fun l hl => ?_⟩, fun z => (nomatch z)⟩⟩
    have el := Evl.Ex.new (o := .lst [.str "road", x, y]) hl
    refine q l _ _ (e.trans el) (Evl.fresh_back e hl) upd_same ⟨?_, fun z ez => (no (x := x) (by decide) ez).elim, fun z ez => (no (x := x) (by decide) ez).elim⟩
    rw [ea]; exact .cons (.str _) (.cons ((dq.mono e).mono el) (.cons ((dq'.mono e).mono el) .nil))
  have list_ : ∀ {x : V} {d : PyData}, Dq K H x d → ts.head? = some x → ansE n Fs (kk % 8) ds = [.str "list", d] → Err1 K (atS W (L2.start ["_law_web", "_law_kind", "_law_things_here", "e"] [.ref s0, .int (kk : Int), .ref U])) H "InvalidHouseList" "given" x := fun {x d} dq hd ea dx H1 e hx => by
    show W _ _ _ _
    rw [← hW]
    refine ⟨false, T.exm (x := "InvalidHouseList") (y := "InvalidHouse") 3 2 rfl rfl rfl, fun z => (nomatch z), fun _ => ⟨false, T.exm (x := "InvalidHouseList") (y := "NotARoad") 3 7 rfl rfl rfl, fun z => (nomatch z), fun _ => ⟨true, T.exm (x := "InvalidHouseList") (y := "InvalidHouseList") 3 3 rfl rfl rfl, fun _ ax hax => ⟨_, rfl, rfl, rfl, dx, _, _, rfl, hx, rfl, (by show 2 ≤ sizeLine; decide), fun l hl => ?_⟩, fun z => (nomatch z)⟩⟩⟩
    have el := Evl.Ex.new (o := .lst [.str "list", x]) hl
    refine q l _ _ (e.trans el) (Evl.fresh_back e hl) upd_same ⟨?_, fun y ey => (no (x := x) (by decide) ey).elim, fun y ey => ?_⟩
    · rw [ea]; exact .cons (.str _) (.cons ((dq.mono e).mono el) .nil)
    · injection ey with _ ey
      injection ey with ey _
      rw [← ey]; exact hd
  -- what is said of the answer, whatever comes behind it
  have S0 : kk % 8 = 0 → ∀ (x : V) (N : VK), ts[0]? = some x → (∀ v H1, (∀ l, H1 l = none → Q (.ref l) (upd H1 l (.lst [.str "told", v]))) → N v H1) → sp_neighbours K [.ref s0, x] H N (atS W (L2.start ["_law_web", "_law_kind", "_law_things_here", "e"] [.ref s0, .int (kk : Int), .ref U])) := by
    intro kr x N hx link
    have c := cn (by omega)
    rw [kr] at c fin house
    obtain ⟨x0, ts', d0, ds', rfl, rfl, q0, h'⟩ := dqs_uncons hds c
    cases hx
    refine ⟨_, _, rfl, s0, n, rs, Fs, d0, rfl, tr, q0, fun i l e hi hl => link _ _ (fin (Evl.Ex.new hl) (.lst (SqL.of upd_same) (dqs_nums _)) (.inl ⟨l, _, rfl, upd_same, hl, short _⟩) ?_), fun bad => house q0 ?_⟩
    · subst e
      simp [ansE, cntK, isIdx_nat hi, natD, ansG, w.nb g tr.good hi, numsD]
    · simp [ansE, cntK, bad]
  have S1 : kk % 8 = 1 → ∀ (N : VK), (∀ v H1, (∀ l, H1 l = none → Q (.ref l) (upd H1 l (.lst [.str "told", v]))) → N v H1) → sp_ends K [.ref s0] H N E0 := by
    intro kr N link
    rw [kr] at fin
    refine ⟨_, rfl, s0, n, rs, Fs, rfl, tr, fun l H1 e hl g1 => link _ _ (fin e (.lst (SqL.of g1) (dqs_nums _)) (.inl ⟨l, _, rfl, g1, hl, short _⟩) ?_)⟩
    have : (List.range n).filter (fun i => decide ((nb rs n i).length ≤ 1)) = (List.range n).filter fun x => decide (((List.range n).filter fun y => decide ((wy Fs x y).length = 2)).length < 2) :=
      List.filter_congr fun i hi => by rw [w.nb g tr.good (List.mem_range.mp hi)]; rw [Bool.eq_iff_iff]; simp only [decide_eq_true_eq]; omega
    rw [this]
    simp [ansE, cntK, ansG, numsD]
  have S2 : kk % 8 = 2 → ∀ (x y : V) (N : VK), ts[0]? = some x → ts[1]? = some y → (∀ v H1, (∀ l, H1 l = none → Q (.ref l) (upd H1 l (.lst [.str "told", v]))) → N v H1) → sp_way K [.ref s0, x, y] H N (atS W (L2.start ["_law_web", "_law_kind", "_law_things_here", "e"] [.ref s0, .int (kk : Int), .ref U])) := by
    intro kr x y N hx hy link
    have c := cn (by omega)
    rw [kr] at c fin house
    obtain ⟨x0, ts', d0, ds', rfl, rfl, q0, h'⟩ := dqs_uncons hds (Nat.le_trans (by decide) c)
    obtain ⟨x1, ts'', d1, ds'', rfl, rfl, q1, h''⟩ := dqs_uncons h' (Nat.le_of_succ_le_succ c)
    cases hx; cases hy
    refine ⟨_, _, _, rfl, s0, n, rs, Fs, d0, d1, rfl, tr, q0, q1, fun i j tt e1 e2 hi hj st => link _ _ (fin (Evl.Ex.refl _) (.tup st (dqs_nums _)) (.inr rfl) ?_), fun bad => house q0 ?_, fun ok bad => house q1 ?_⟩
    · subst e1 e2
      simp [ansE, cntK, isIdx_nat hi, isIdx_nat hj, natD, ansG, rowD]
    · simp [ansE, cntK, bad]
    · simp [ansE, cntK, ok, bad]
  have S3 : kk % 8 = 3 → ∀ (x y : V) (N : VK), ts[0]? = some x → ts[1]? = some y → (∀ v H1, (∀ l, H1 l = none → Q (.ref l) (upd H1 l (.lst [.str "told", v]))) → N v H1) → sp_distance K [.ref s0, x, y] H N (atS W (L2.start ["_law_web", "_law_kind", "_law_things_here", "e"] [.ref s0, .int (kk : Int), .ref U])) := by
    intro kr x y N hx hy link
    have c := cn (by omega)
    rw [kr] at c fin house
    obtain ⟨x0, ts', d0, ds', rfl, rfl, q0, h'⟩ := dqs_uncons hds (Nat.le_trans (by decide) c)
    obtain ⟨x1, ts'', d1, ds'', rfl, rfl, q1, h''⟩ := dqs_uncons h' (Nat.le_of_succ_le_succ c)
    cases hx; cases hy
    refine ⟨_, _, _, rfl, s0, n, rs, Fs, d0, d1, rfl, tr, q0, q1, fun i j e1 e2 hi hj => link _ _ (fin (Evl.Ex.refl _) (.int _) (.inr rfl) ?_), fun bad => house q0 ?_, fun ok bad => house q1 ?_⟩
    · subst e1 e2
      simp [ansE, cntK, isIdx_nat hi, isIdx_nat hj, natD, ansG]
    · simp [ansE, cntK, bad]
    · simp [ansE, cntK, ok, bad]
  have S4 : kk % 8 = 4 → ∀ (x y z : V) (N : VK), ts[0]? = some x → ts[1]? = some y → ts[2]? = some z → (∀ v H1, (∀ l, H1 l = none → Q (.ref l) (upd H1 l (.lst [.str "told", v]))) → N v H1) → sp_middle K [.ref s0, x, y, z] H N (atS W (L2.start ["_law_web", "_law_kind", "_law_things_here", "e"] [.ref s0, .int (kk : Int), .ref U])) := by
    intro kr x y z N hx hy hz link
    have c := cn (by omega)
    rw [kr] at c fin house
    obtain ⟨x0, ts', d0, ds', rfl, rfl, q0, h'⟩ := dqs_uncons hds (Nat.le_trans (by decide) c)
    obtain ⟨x1, ts'', d1, ds'', rfl, rfl, q1, h''⟩ := dqs_uncons h' (Nat.le_trans (by decide) (Nat.le_of_succ_le_succ c))
    obtain ⟨x2, ts3, d2, ds3, rfl, rfl, q2, h3⟩ := dqs_uncons h'' (Nat.le_of_succ_le_succ (Nat.le_of_succ_le_succ c))
    cases hx; cases hy; cases hz
    refine ⟨_, _, _, _, rfl, s0, n, rs, Fs, d0, d1, d2, rfl, tr, q0, q1, q2, fun i j k e1 e2 e3 hi hj hk => ?_, fun bad => house q0 ?_, fun ok bad => house q1 ?_, fun ok ok2 bad => house q2 ?_⟩
    · obtain ⟨m, l, em⟩ := w.mids g hi hj hk
      refine ⟨m, l, em, fun H1 e => link _ _ (fin e (.int _) (.inr rfl) ?_)⟩
      subst e1 e2 e3
      simp [ansE, cntK, isIdx_nat hi, isIdx_nat hj, isIdx_nat hk, natD, ansG, em]
    · simp [ansE, cntK, bad]
    · simp [ansE, cntK, ok, bad]
    · simp [ansE, cntK, ok, ok2, bad]
  have S5 : kk % 8 = 5 → ∀ (x y z : V) (N : VK), ts[0]? = some x → ts[1]? = some y → ts[2]? = some z → (∀ v H1, (∀ l, H1 l = none → Q (.ref l) (upd H1 l (.lst [.str "told", v]))) → N v H1) → sp_on_way K [.ref s0, x, y, z] H N (atS W (L2.start ["_law_web", "_law_kind", "_law_things_here", "e"] [.ref s0, .int (kk : Int), .ref U])) := by
    intro kr x y z N hx hy hz link
    have c := cn (by omega)
    rw [kr] at c fin house
    obtain ⟨x0, ts', d0, ds', rfl, rfl, q0, h'⟩ := dqs_uncons hds (Nat.le_trans (by decide) c)
    obtain ⟨x1, ts'', d1, ds'', rfl, rfl, q1, h''⟩ := dqs_uncons h' (Nat.le_trans (by decide) (Nat.le_of_succ_le_succ c))
    obtain ⟨x2, ts3, d2, ds3, rfl, rfl, q2, h3⟩ := dqs_uncons h'' (Nat.le_of_succ_le_succ (Nat.le_of_succ_le_succ c))
    cases hx; cases hy; cases hz
    refine ⟨_, _, _, _, rfl, s0, n, rs, Fs, d0, d1, d2, rfl, tr, q0, q1, q2, fun i j k e1 e2 e3 hi hj hk => link _ _ (fin (Evl.Ex.refl _) (.bl _) (.inr rfl) ?_), fun bad => house q0 ?_, fun ok bad => house q1 ?_, fun ok ok2 bad => house q2 ?_⟩
    · subst e1 e2 e3
      simp [ansE, cntK, isIdx_nat hi, isIdx_nat hj, isIdx_nat hk, natD, ansG]
    · simp [ansE, cntK, bad]
    · simp [ansE, cntK, ok, bad]
    · simp [ansE, cntK, ok, ok2, bad]
  have S6 : kk % 8 = 6 → ∀ (x y : V) (N : VK), ts[0]? = some x → ts[1]? = some y → (∀ v H1, (∀ l, H1 l = none → Q (.ref l) (upd H1 l (.lst [.str "told", v]))) → N v H1) → sp_side K [.ref s0, x, y] H N (atS W (L2.start ["_law_web", "_law_kind", "_law_things_here", "e"] [.ref s0, .int (kk : Int), .ref U])) := by
    intro kr x y N hx hy link
    have c := cn (by omega)
    rw [kr] at c fin house road
    obtain ⟨x0, ts', d0, ds', rfl, rfl, q0, h'⟩ := dqs_uncons hds (Nat.le_trans (by decide) c)
    obtain ⟨x1, ts'', d1, ds'', rfl, rfl, q1, h''⟩ := dqs_uncons h' (Nat.le_of_succ_le_succ c)
    cases hx; cases hy
    have two : ∀ {i j : Nat}, i < n → j < n → (nb rs n i).contains j = decide ((wy Fs i j).length = 2) := fun {i j} hi hj => by
      rw [w.nb g tr.good hi, Bool.eq_iff_iff]
      simp [hj]
    refine ⟨_, _, _, rfl, s0, n, rs, Fs, d0, d1, rfl, tr, q0, q1, fun i j l H1 e1 e2 hi hj nc e hl g1 => link _ _ (fin e (.lst (SqL.of g1) (dqs_nums _)) (.inl ⟨l, _, rfl, g1, hl, short _⟩) ?_), fun bad => house q0 ?_, fun ok bad => house q1 ?_, fun i j e1 e2 hi hj nc => road q0 q1 ?_⟩
    · subst e1 e2
      rw [two hi hj, decide_eq_true_eq] at nc
      simp [ansE, cntK, isIdx_nat hi, isIdx_nat hj, natD, ansG, nc, numsD]
    · simp [ansE, cntK, bad]
    · simp [ansE, cntK, ok, bad]
    · subst e1 e2
      rw [two hi hj, decide_eq_false_iff_not] at nc
      simp [ansE, cntK, isIdx_nat hi, isIdx_nat hj, natD, ansG, nc, intD]
  have S7 : kk % 8 = 7 → ∀ (x : V) (N : VK), ts[0]? = some x → (∀ v H1, (∀ l, H1 l = none → Q (.ref l) (upd H1 l (.lst [.str "told", v]))) → N v H1) → sp_span K [.ref s0, x] H N (atS W (L2.start ["_law_web", "_law_kind", "_law_things_here", "e"] [.ref s0, .int (kk : Int), .ref U])) := by
    intro kr x N hx link
    obtain ⟨c, il⟩ := c7 kr
    rw [kr] at fin list_
    obtain ⟨x0, ts', d0, ds', rfl, rfl, q0, h'⟩ := dqs_uncons hds c
    cases hx
    refine ⟨_, _, rfl, s0, n, rs, Fs, d0, rfl, tr, q0, il, fun is l H1 isq ei lt e hl g1 => link _ _ (fin e (.lst (SqL.of g1) (dqs_nums _)) (.inl ⟨l, _, rfl, g1, hl, short _⟩) ?_), fun bad => list_ q0 rfl ?_⟩
    · rw [w.span g lt]
      simp [ansE, areIdx_nums isq ei lt, ei, map_natD, numsD]
      rw [← List.map_map, map_natD]
    · simp [ansE, bad]
  have item : ∀ i, i < ts.length → ∃ x, ts[i]? = some x := fun i hi => ⟨_, List.getElem?_eq_getElem hi⟩
  have all : kk = 0 ∨ kk = 1 ∨ kk = 2 ∨ kk = 3 ∨ kk = 4 ∨ kk = 5 ∨ kk = 6 ∨ kk = 7 ∨ kk = 8 ∨ kk = 9 ∨ kk = 10 ∨ kk = 11 ∨ kk = 12 ∨ kk = 13 ∨ kk = 14 ∨ kk = 15 := by omega
  rcases all with rfl | rfl | rfl | rfl | rfl | rfl | rfl | rfl | rfl | rfl | rfl | rfl | rfl | rfl | rfl | rfl
  · have hc : 1 ≤ ts.length := cn (by decide)
    obtain ⟨x0, g0⟩ := item 0 (by omega)
    refine seq_at ?_
    refine ⟨_, rfl, _, 8, rfl, rfl, (by show (0 : Int) < 8; decide), rfl, _, rfl, ?_⟩
    refine iteF ?_
    dsimp only [tNext]
    refine seq_at ?_
    refine ⟨_, rfl, _, 8, rfl, rfl, (by show (0 : Int) < 8; decide), rfl, _, rfl, ?_⟩
    refine iteF ?_
    dsimp only [tNext]
    refine seq_at ?_
    refine ⟨_, rfl, rfl, _, rfl, ?_⟩
    refine iteT ?_
    refine ⟨_, rfl, _, rfl, ix_seq_at (i := 0) hU g0 ?_⟩
    try dsimp only [tCons, tNil, List.nil_append, List.append_nil, List.cons_append]
    exact S0 rfl _ _ g0 (fun v H1 z => ⟨(by show 2 ≤ sizeLine; decide), z⟩)
  · refine seq_at ?_
    refine ⟨_, rfl, _, 8, rfl, rfl, (by show (0 : Int) < 8; decide), rfl, _, rfl, ?_⟩
    refine iteF ?_
    dsimp only [tNext]
    refine seq_at ?_
    refine ⟨_, rfl, _, 8, rfl, rfl, (by show (0 : Int) < 8; decide), rfl, _, rfl, ?_⟩
    refine iteF ?_
    dsimp only [tNext]
    refine seq_at ?_
    refine ⟨_, rfl, rfl, _, rfl, ?_⟩
    refine iteF ?_
    dsimp only [tNext]
    refine seq_at ?_
    refine ⟨_, rfl, rfl, _, rfl, ?_⟩
    refine iteF ?_
    dsimp only [tNext]
    refine seq_at ?_
    refine ⟨_, rfl, _, 8, rfl, rfl, (by show (0 : Int) < 8; decide), rfl, _, rfl, ?_⟩
    refine iteT ?_
    refine ⟨_, rfl, _, _, rfl, rfl, _, rfl, ?_⟩
    refine iteT ?_
    refine ⟨_, rfl, ?_⟩
    try dsimp only [tCons, tNil, List.nil_append, List.append_nil, List.cons_append]
    exact S1 rfl _ (fun v H1 z => ⟨(by show 2 ≤ sizeLine; decide), z⟩)
  · have hc : 2 ≤ ts.length := cn (by decide)
    obtain ⟨x0, g0⟩ := item 0 (by omega)
    obtain ⟨x1, g1⟩ := item 1 (by omega)
    refine seq_at ?_
    refine ⟨_, rfl, _, 8, rfl, rfl, (by show (0 : Int) < 8; decide), rfl, _, rfl, ?_⟩
    refine iteF ?_
    dsimp only [tNext]
    refine seq_at ?_
    refine ⟨_, rfl, _, 8, rfl, rfl, (by show (0 : Int) < 8; decide), rfl, _, rfl, ?_⟩
    refine iteF ?_
    dsimp only [tNext]
    refine seq_at ?_
    refine ⟨_, rfl, rfl, _, rfl, ?_⟩
    refine iteF ?_
    dsimp only [tNext]
    refine seq_at ?_
    refine ⟨_, rfl, rfl, _, rfl, ?_⟩
    refine iteF ?_
    dsimp only [tNext]
    refine seq_at ?_
    refine ⟨_, rfl, _, 8, rfl, rfl, (by show (0 : Int) < 8; decide), rfl, _, rfl, ?_⟩
    refine iteF ?_
    dsimp only [tNext]
    refine seq_at ?_
    refine ⟨_, rfl, _, 8, rfl, rfl, (by show (0 : Int) < 8; decide), rfl, _, rfl, ?_⟩
    refine iteT ?_
    refine ⟨_, rfl, _, _, rfl, rfl, _, rfl, ?_⟩
    refine iteT ?_
    refine ⟨_, rfl, _, rfl, ix_seq_at (i := 0) hU g0 ⟨_, rfl, ix_seq_at (i := 1) hU g1 ?_⟩⟩
    try dsimp only [tCons, tNil, List.nil_append, List.append_nil, List.cons_append]
    exact S2 rfl _ _ _ g0 g1 (fun v H1 z => ⟨(by show 2 ≤ sizeLine; decide), z⟩)
  · have hc : 2 ≤ ts.length := cn (by decide)
    obtain ⟨x0, g0⟩ := item 0 (by omega)
    obtain ⟨x1, g1⟩ := item 1 (by omega)
    refine seq_at ?_
    refine ⟨_, rfl, _, 8, rfl, rfl, (by show (0 : Int) < 8; decide), rfl, _, rfl, ?_⟩
    refine iteF ?_
    dsimp only [tNext]
    refine seq_at ?_
    refine ⟨_, rfl, _, 8, rfl, rfl, (by show (0 : Int) < 8; decide), rfl, _, rfl, ?_⟩
    refine iteF ?_
    dsimp only [tNext]
    refine seq_at ?_
    refine ⟨_, rfl, rfl, _, rfl, ?_⟩
    refine iteF ?_
    dsimp only [tNext]
    refine seq_at ?_
    refine ⟨_, rfl, rfl, _, rfl, ?_⟩
    refine iteF ?_
    dsimp only [tNext]
    refine seq_at ?_
    refine ⟨_, rfl, _, 8, rfl, rfl, (by show (0 : Int) < 8; decide), rfl, _, rfl, ?_⟩
    refine iteF ?_
    dsimp only [tNext]
    refine seq_at ?_
    refine ⟨_, rfl, _, 8, rfl, rfl, (by show (0 : Int) < 8; decide), rfl, _, rfl, ?_⟩
    refine iteF ?_
    dsimp only [tNext]
    refine seq_at ?_
    refine ⟨_, rfl, rfl, _, rfl, ?_⟩
    refine iteT ?_
    refine ⟨_, rfl, _, rfl, ix_seq_at (i := 0) hU g0 ⟨_, rfl, ix_seq_at (i := 1) hU g1 ?_⟩⟩
    try dsimp only [tCons, tNil, List.nil_append, List.append_nil, List.cons_append]
    exact S3 rfl _ _ _ g0 g1 (fun v H1 z => ⟨(by show 2 ≤ sizeLine; decide), z⟩)
  · have hc : 3 ≤ ts.length := cn (by decide)
    obtain ⟨x0, g0⟩ := item 0 (by omega)
    obtain ⟨x1, g1⟩ := item 1 (by omega)
    obtain ⟨x2, g2⟩ := item 2 (by omega)
    refine seq_at ?_
    refine ⟨_, rfl, _, 8, rfl, rfl, (by show (0 : Int) < 8; decide), rfl, _, rfl, ?_⟩
    refine iteF ?_
    dsimp only [tNext]
    refine seq_at ?_
    refine ⟨_, rfl, _, 8, rfl, rfl, (by show (0 : Int) < 8; decide), rfl, _, rfl, ?_⟩
    refine iteF ?_
    dsimp only [tNext]
    refine seq_at ?_
    refine ⟨_, rfl, rfl, _, rfl, ?_⟩
    refine iteF ?_
    dsimp only [tNext]
    refine seq_at ?_
    refine ⟨_, rfl, rfl, _, rfl, ?_⟩
    refine iteF ?_
    dsimp only [tNext]
    refine seq_at ?_
    refine ⟨_, rfl, _, 8, rfl, rfl, (by show (0 : Int) < 8; decide), rfl, _, rfl, ?_⟩
    refine iteF ?_
    dsimp only [tNext]
    refine seq_at ?_
    refine ⟨_, rfl, _, 8, rfl, rfl, (by show (0 : Int) < 8; decide), rfl, _, rfl, ?_⟩
    refine iteF ?_
    dsimp only [tNext]
    refine seq_at ?_
    refine ⟨_, rfl, rfl, _, rfl, ?_⟩
    refine iteF ?_
    dsimp only [tNext]
    refine seq_at ?_
    refine ⟨_, rfl, rfl, _, rfl, ?_⟩
    refine iteF ?_
    dsimp only [tNext]
    refine seq_at ?_
    refine ⟨_, rfl, rfl, _, rfl, ?_⟩
    refine iteT ?_
    refine ⟨_, rfl, _, rfl, ix_seq_at (i := 0) hU g0 ⟨_, rfl, ix_seq_at (i := 1) hU g1 ⟨_, rfl, ix_seq_at (i := 2) hU g2 ?_⟩⟩⟩
    try dsimp only [tCons, tNil, List.nil_append, List.append_nil, List.cons_append]
    exact S4 rfl _ _ _ _ g0 g1 g2 (fun v H1 z => ⟨(by show 2 ≤ sizeLine; decide), z⟩)
  · have hc : 3 ≤ ts.length := cn (by decide)
    obtain ⟨x0, g0⟩ := item 0 (by omega)
    obtain ⟨x1, g1⟩ := item 1 (by omega)
    obtain ⟨x2, g2⟩ := item 2 (by omega)
    refine seq_at ?_
    refine ⟨_, rfl, _, 8, rfl, rfl, (by show (0 : Int) < 8; decide), rfl, _, rfl, ?_⟩
    refine iteF ?_
    dsimp only [tNext]
    refine seq_at ?_
    refine ⟨_, rfl, _, 8, rfl, rfl, (by show (0 : Int) < 8; decide), rfl, _, rfl, ?_⟩
    refine iteF ?_
    dsimp only [tNext]
    refine seq_at ?_
    refine ⟨_, rfl, rfl, _, rfl, ?_⟩
    refine iteF ?_
    dsimp only [tNext]
    refine seq_at ?_
    refine ⟨_, rfl, rfl, _, rfl, ?_⟩
    refine iteF ?_
    dsimp only [tNext]
    refine seq_at ?_
    refine ⟨_, rfl, _, 8, rfl, rfl, (by show (0 : Int) < 8; decide), rfl, _, rfl, ?_⟩
    refine iteF ?_
    dsimp only [tNext]
    refine seq_at ?_
    refine ⟨_, rfl, _, 8, rfl, rfl, (by show (0 : Int) < 8; decide), rfl, _, rfl, ?_⟩
    refine iteF ?_
    dsimp only [tNext]
    refine seq_at ?_
    refine ⟨_, rfl, rfl, _, rfl, ?_⟩
    refine iteF ?_
    dsimp only [tNext]
    refine seq_at ?_
    refine ⟨_, rfl, rfl, _, rfl, ?_⟩
    refine iteF ?_
    dsimp only [tNext]
    refine seq_at ?_
    refine ⟨_, rfl, rfl, _, rfl, ?_⟩
    refine iteF ?_
    dsimp only [tNext]
    refine seq_at ?_
    refine ⟨_, rfl, rfl, _, rfl, ?_⟩
    refine iteF ?_
    dsimp only [tNext]
    refine seq_at ?_
    refine ⟨_, rfl, rfl, _, rfl, ?_⟩
    refine iteT ?_
    refine ⟨_, rfl, _, rfl, ix_seq_at (i := 0) hU g0 ⟨_, rfl, ix_seq_at (i := 1) hU g1 ⟨_, rfl, ix_seq_at (i := 2) hU g2 ?_⟩⟩⟩
    try dsimp only [tCons, tNil, List.nil_append, List.append_nil, List.cons_append]
    exact S5 rfl _ _ _ _ g0 g1 g2 (fun v H1 z => ⟨(by show 2 ≤ sizeLine; decide), z⟩)
  · have hc : 2 ≤ ts.length := cn (by decide)
    obtain ⟨x0, g0⟩ := item 0 (by omega)
    obtain ⟨x1, g1⟩ := item 1 (by omega)
    refine seq_at ?_
    refine ⟨_, rfl, _, 8, rfl, rfl, (by show (0 : Int) < 8; decide), rfl, _, rfl, ?_⟩
    refine iteF ?_
    dsimp only [tNext]
    refine seq_at ?_
    refine ⟨_, rfl, _, 8, rfl, rfl, (by show (0 : Int) < 8; decide), rfl, _, rfl, ?_⟩
    refine iteT ?_
    refine ⟨_, rfl, _, _, rfl, rfl, _, rfl, ?_⟩
    refine iteT ?_
    refine ⟨_, rfl, _, rfl, ix_seq_at (i := 0) hU g0 ⟨_, rfl, ix_seq_at (i := 1) hU g1 ?_⟩⟩
    try dsimp only [tCons, tNil, List.nil_append, List.append_nil, List.cons_append]
    exact S6 rfl _ _ _ g0 g1 (fun v H1 z => ⟨(by show 2 ≤ sizeLine; decide), z⟩)
  · have hc : 1 ≤ ts.length := (c7 rfl).1
    obtain ⟨x0, g0⟩ := item 0 (by omega)
    refine seq_at ?_
    refine ⟨_, rfl, _, 8, rfl, rfl, (by show (0 : Int) < 8; decide), rfl, _, rfl, ?_⟩
    refine iteT ?_
    refine ⟨_, rfl, _, _, rfl, rfl, _, rfl, ?_⟩
    refine iteT ?_
    refine ⟨_, rfl, _, rfl, ix_seq_at (i := 0) hU g0 ?_⟩
    try dsimp only [tCons, tNil, List.nil_append, List.append_nil, List.cons_append]
    exact S7 rfl _ _ g0 (fun v H1 z => ⟨(by show 2 ≤ sizeLine; decide), z⟩)
  · have hc : 1 ≤ ts.length := cn (by decide)
    obtain ⟨x0, g0⟩ := item 0 (by omega)
    refine seq_at ?_
    refine ⟨_, rfl, _, 8, rfl, rfl, (by show (0 : Int) < 8; decide), rfl, _, rfl, ?_⟩
    refine iteF ?_
    dsimp only [tNext]
    refine seq_at ?_
    refine ⟨_, rfl, _, 8, rfl, rfl, (by show (0 : Int) < 8; decide), rfl, _, rfl, ?_⟩
    refine iteF ?_
    dsimp only [tNext]
    refine seq_at ?_
    refine ⟨_, rfl, rfl, _, rfl, ?_⟩
    refine iteF ?_
    dsimp only [tNext]
    refine seq_at ?_
    refine ⟨_, rfl, rfl, _, rfl, ?_⟩
    refine iteT ?_
    refine ⟨_, rfl, ix_seq_at (i := 0) hU g0 ⟨_, rfl, rfl, rfl, ?_⟩⟩
    try dsimp only [tCons, tNil, List.nil_append, List.append_nil, List.cons_append]
    exact S0 rfl _ _ g0 (fun v H1 z => ⟨(by show 2 ≤ sizeLine; decide), z⟩)
  · refine seq_at ?_
    refine ⟨_, rfl, _, 8, rfl, rfl, (by show (0 : Int) < 8; decide), rfl, _, rfl, ?_⟩
    refine iteF ?_
    dsimp only [tNext]
    refine seq_at ?_
    refine ⟨_, rfl, _, 8, rfl, rfl, (by show (0 : Int) < 8; decide), rfl, _, rfl, ?_⟩
    refine iteF ?_
    dsimp only [tNext]
    refine seq_at ?_
    refine ⟨_, rfl, rfl, _, rfl, ?_⟩
    refine iteF ?_
    dsimp only [tNext]
    refine seq_at ?_
    refine ⟨_, rfl, rfl, _, rfl, ?_⟩
    refine iteF ?_
    dsimp only [tNext]
    refine seq_at ?_
    refine ⟨_, rfl, _, 8, rfl, rfl, (by show (0 : Int) < 8; decide), rfl, _, rfl, ?_⟩
    refine iteT ?_
    refine ⟨_, rfl, _, _, rfl, rfl, _, rfl, ?_⟩
    refine iteF ?_
    refine ⟨_, rfl, rfl, rfl, ?_⟩
    try dsimp only [tCons, tNil, List.nil_append, List.append_nil, List.cons_append]
    exact S1 rfl _ (fun v H1 z => ⟨(by show 2 ≤ sizeLine; decide), z⟩)
  · have hc : 2 ≤ ts.length := cn (by decide)
    obtain ⟨x0, g0⟩ := item 0 (by omega)
    obtain ⟨x1, g1⟩ := item 1 (by omega)
    refine seq_at ?_
    refine ⟨_, rfl, _, 8, rfl, rfl, (by show (0 : Int) < 8; decide), rfl, _, rfl, ?_⟩
    refine iteF ?_
    dsimp only [tNext]
    refine seq_at ?_
    refine ⟨_, rfl, _, 8, rfl, rfl, (by show (0 : Int) < 8; decide), rfl, _, rfl, ?_⟩
    refine iteF ?_
    dsimp only [tNext]
    refine seq_at ?_
    refine ⟨_, rfl, rfl, _, rfl, ?_⟩
    refine iteF ?_
    dsimp only [tNext]
    refine seq_at ?_
    refine ⟨_, rfl, rfl, _, rfl, ?_⟩
    refine iteF ?_
    dsimp only [tNext]
    refine seq_at ?_
    refine ⟨_, rfl, _, 8, rfl, rfl, (by show (0 : Int) < 8; decide), rfl, _, rfl, ?_⟩
    refine iteF ?_
    dsimp only [tNext]
    refine seq_at ?_
    refine ⟨_, rfl, _, 8, rfl, rfl, (by show (0 : Int) < 8; decide), rfl, _, rfl, ?_⟩
    refine iteT ?_
    refine ⟨_, rfl, _, _, rfl, rfl, _, rfl, ?_⟩
    refine iteF ?_
    refine ⟨_, rfl, ix_seq_at (i := 1) hU g1 ⟨_, rfl, _, rfl, ix_seq_at (i := 0) hU g0 ⟨rfl, rfl, ?_⟩⟩⟩
    try dsimp only [tCons, tNil, List.nil_append, List.append_nil, List.cons_append]
    exact S2 rfl _ _ _ g0 g1 (fun v H1 z => ⟨(by show 2 ≤ sizeLine; decide), z⟩)
  · have hc : 2 ≤ ts.length := cn (by decide)
    obtain ⟨x0, g0⟩ := item 0 (by omega)
    obtain ⟨x1, g1⟩ := item 1 (by omega)
    refine seq_at ?_
    refine ⟨_, rfl, _, 8, rfl, rfl, (by show (0 : Int) < 8; decide), rfl, _, rfl, ?_⟩
    refine iteF ?_
    dsimp only [tNext]
    refine seq_at ?_
    refine ⟨_, rfl, _, 8, rfl, rfl, (by show (0 : Int) < 8; decide), rfl, _, rfl, ?_⟩
    refine iteF ?_
    dsimp only [tNext]
    refine seq_at ?_
    refine ⟨_, rfl, rfl, _, rfl, ?_⟩
    refine iteF ?_
    dsimp only [tNext]
    refine seq_at ?_
    refine ⟨_, rfl, rfl, _, rfl, ?_⟩
    refine iteF ?_
    dsimp only [tNext]
    refine seq_at ?_
    refine ⟨_, rfl, _, 8, rfl, rfl, (by show (0 : Int) < 8; decide), rfl, _, rfl, ?_⟩
    refine iteF ?_
    dsimp only [tNext]
    refine seq_at ?_
    refine ⟨_, rfl, _, 8, rfl, rfl, (by show (0 : Int) < 8; decide), rfl, _, rfl, ?_⟩
    refine iteF ?_
    dsimp only [tNext]
    refine seq_at ?_
    refine ⟨_, rfl, rfl, _, rfl, ?_⟩
    refine iteF ?_
    dsimp only [tNext]
    refine seq_at ?_
    refine ⟨_, rfl, rfl, _, rfl, ?_⟩
    refine iteT ?_
    refine ⟨_, rfl, ix_seq_at (i := 0) hU g0 ⟨_, rfl, ix_seq_at (i := 1) hU g1 ⟨_, rfl, rfl, rfl, ?_⟩⟩⟩
    try dsimp only [tCons, tNil, List.nil_append, List.append_nil, List.cons_append]
    exact S3 rfl _ _ _ g0 g1 (fun v H1 z => ⟨(by show 2 ≤ sizeLine; decide), z⟩)
  · have hc : 3 ≤ ts.length := cn (by decide)
    obtain ⟨x0, g0⟩ := item 0 (by omega)
    obtain ⟨x1, g1⟩ := item 1 (by omega)
    obtain ⟨x2, g2⟩ := item 2 (by omega)
    refine seq_at ?_
    refine ⟨_, rfl, _, 8, rfl, rfl, (by show (0 : Int) < 8; decide), rfl, _, rfl, ?_⟩
    refine iteF ?_
    dsimp only [tNext]
    refine seq_at ?_
    refine ⟨_, rfl, _, 8, rfl, rfl, (by show (0 : Int) < 8; decide), rfl, _, rfl, ?_⟩
    refine iteF ?_
    dsimp only [tNext]
    refine seq_at ?_
    refine ⟨_, rfl, rfl, _, rfl, ?_⟩
    refine iteF ?_
    dsimp only [tNext]
    refine seq_at ?_
    refine ⟨_, rfl, rfl, _, rfl, ?_⟩
    refine iteF ?_
    dsimp only [tNext]
    refine seq_at ?_
    refine ⟨_, rfl, _, 8, rfl, rfl, (by show (0 : Int) < 8; decide), rfl, _, rfl, ?_⟩
    refine iteF ?_
    dsimp only [tNext]
    refine seq_at ?_
    refine ⟨_, rfl, _, 8, rfl, rfl, (by show (0 : Int) < 8; decide), rfl, _, rfl, ?_⟩
    refine iteF ?_
    dsimp only [tNext]
    refine seq_at ?_
    refine ⟨_, rfl, rfl, _, rfl, ?_⟩
    refine iteF ?_
    dsimp only [tNext]
    refine seq_at ?_
    refine ⟨_, rfl, rfl, _, rfl, ?_⟩
    refine iteF ?_
    dsimp only [tNext]
    refine seq_at ?_
    refine ⟨_, rfl, rfl, _, rfl, ?_⟩
    refine iteF ?_
    dsimp only [tNext]
    refine seq_at ?_
    refine ⟨_, rfl, rfl, _, rfl, ?_⟩
    refine iteT ?_
    refine ⟨_, rfl, ix_seq_at (i := 2) hU g2 ⟨_, rfl, ix_seq_at (i := 1) hU g1 ⟨_, rfl, ix_seq_at (i := 0) hU g0 ⟨_, rfl, rfl, rfl, ?_⟩⟩⟩⟩
    try dsimp only [tCons, tNil, List.nil_append, List.append_nil, List.cons_append]
    exact S4 rfl _ _ _ _ g0 g1 g2 (fun v H1 z => ⟨(by show 2 ≤ sizeLine; decide), z⟩)
  · have hc : 3 ≤ ts.length := cn (by decide)
    obtain ⟨x0, g0⟩ := item 0 (by omega)
    obtain ⟨x1, g1⟩ := item 1 (by omega)
    obtain ⟨x2, g2⟩ := item 2 (by omega)
    refine seq_at ?_
    refine ⟨_, rfl, _, 8, rfl, rfl, (by show (0 : Int) < 8; decide), rfl, _, rfl, ?_⟩
    refine iteF ?_
    dsimp only [tNext]
    refine seq_at ?_
    refine ⟨_, rfl, _, 8, rfl, rfl, (by show (0 : Int) < 8; decide), rfl, _, rfl, ?_⟩
    refine iteF ?_
    dsimp only [tNext]
    refine seq_at ?_
    refine ⟨_, rfl, rfl, _, rfl, ?_⟩
    refine iteF ?_
    dsimp only [tNext]
    refine seq_at ?_
    refine ⟨_, rfl, rfl, _, rfl, ?_⟩
    refine iteF ?_
    dsimp only [tNext]
    refine seq_at ?_
    refine ⟨_, rfl, _, 8, rfl, rfl, (by show (0 : Int) < 8; decide), rfl, _, rfl, ?_⟩
    refine iteF ?_
    dsimp only [tNext]
    refine seq_at ?_
    refine ⟨_, rfl, _, 8, rfl, rfl, (by show (0 : Int) < 8; decide), rfl, _, rfl, ?_⟩
    refine iteF ?_
    dsimp only [tNext]
    refine seq_at ?_
    refine ⟨_, rfl, rfl, _, rfl, ?_⟩
    refine iteF ?_
    dsimp only [tNext]
    refine seq_at ?_
    refine ⟨_, rfl, rfl, _, rfl, ?_⟩
    refine iteF ?_
    dsimp only [tNext]
    refine seq_at ?_
    refine ⟨_, rfl, rfl, _, rfl, ?_⟩
    refine iteF ?_
    dsimp only [tNext]
    refine seq_at ?_
    refine ⟨_, rfl, rfl, _, rfl, ?_⟩
    refine iteF ?_
    dsimp only [tNext]
    refine seq_at ?_
    refine ⟨_, rfl, rfl, _, rfl, ?_⟩
    refine iteF ?_
    dsimp only [tNext]
    refine ret_at ?_
    refine ⟨_, rfl, ix_seq_at (i := 2) hU g2 ⟨_, rfl, ix_seq_at (i := 0) hU g0 ⟨_, rfl, _, rfl, ix_seq_at (i := 1) hU g1 ⟨rfl, rfl, ?_⟩⟩⟩⟩
    try dsimp only [tCons, tNil, List.nil_append, List.append_nil, List.cons_append]
    exact S5 rfl _ _ _ _ g0 g1 g2 (fun v H1 z => ⟨(by show 2 ≤ sizeLine; decide), z⟩)
  · have hc : 2 ≤ ts.length := cn (by decide)
    obtain ⟨x0, g0⟩ := item 0 (by omega)
    obtain ⟨x1, g1⟩ := item 1 (by omega)
    refine seq_at ?_
    refine ⟨_, rfl, _, 8, rfl, rfl, (by show (0 : Int) < 8; decide), rfl, _, rfl, ?_⟩
    refine iteF ?_
    dsimp only [tNext]
    refine seq_at ?_
    refine ⟨_, rfl, _, 8, rfl, rfl, (by show (0 : Int) < 8; decide), rfl, _, rfl, ?_⟩
    refine iteT ?_
    refine ⟨_, rfl, _, _, rfl, rfl, _, rfl, ?_⟩
    refine iteF ?_
    refine ⟨_, rfl, ix_seq_at (i := 1) hU g1 ⟨_, rfl, ix_seq_at (i := 0) hU g0 ⟨_, rfl, rfl, rfl, ?_⟩⟩⟩
    try dsimp only [tCons, tNil, List.nil_append, List.append_nil, List.cons_append]
    exact S6 rfl _ _ _ g0 g1 (fun v H1 z => ⟨(by show 2 ≤ sizeLine; decide), z⟩)
  · have hc : 1 ≤ ts.length := (c7 rfl).1
    obtain ⟨x0, g0⟩ := item 0 (by omega)
    refine seq_at ?_
    refine ⟨_, rfl, _, 8, rfl, rfl, (by show (0 : Int) < 8; decide), rfl, _, rfl, ?_⟩
    refine iteT ?_
    refine ⟨_, rfl, _, _, rfl, rfl, _, rfl, ?_⟩
    refine iteF ?_
    refine ⟨_, rfl, ix_seq_at (i := 0) hU g0 ⟨_, rfl, rfl, rfl, ?_⟩⟩
    try dsimp only [tCons, tNil, List.nil_append, List.append_nil, List.cons_append]
    exact S7 rfl _ _ g0 (fun v H1 z => ⟨(by show 2 ≤ sizeLine; decide), z⟩)
end

end T1

namespace T1
open PySem PySem.Spec PyProof.Rows L2 G
open Evl (Ex)
local macro_rules | `(tactic| walk_at "dd") => `(tactic| (dsimp only [tCB, tCons, tNil, tC, tOp, tUn, tTest, tB, tVar, tAndV, tOrV, tNotV, tIf, tAnd, tOr, tNot, tSeq, tRet, tRetN, tIfS, tAsg, gName, tDrop, tTup, tLst, tChain, tNext, tCall, L2.start]))
theorem find_first {α : Type} (p : α → Bool) : ∀ (l : List α) (j : Nat) (d : α), (∀ i, i < j → ∀ x, l[i]? = some x → p x = false) → l[j]? = some d → p d = true → l.find? p = some d
  | [], _, _, _, h, _ => by simp at h
  | a :: l, 0, d, _, h, hd => by
    simp at h; subst h
    rw [List.find?_cons, hd]
  | a :: l, j + 1, d, hn, h, hd => by
    have z := hn 0 (by omega) a rfl
    rw [List.find?_cons, z]
    exact find_first p l j d (fun i hi x hx => hn (i + 1) (by omega) x (by simpa using hx)) (by simpa using h) hd
theorem nth_iV {l : List Nat} {z : Nat} (h : z < l.length) : nth (l.map iV) z = iV l[z] := by
  unfold nth; rw [List.getElem?_map, List.getElem?_eq_getElem h]; rfl
/-- houses of a list, picked by a test -/
theorem lc_filter {wi : TI} {tt : TT} {σ : L2.St} {H : Hp} {Q : VK} {i : Nat} {vs : List Nat} (l : List Nat) (f : Nat → Bool) (hl : l.length ≤ 1000) (hw : ∀ P : It → Hp → Prop, (∀ J H1, Ex H H1 → ItS J H1 (l.map iV).length (nth (l.map iV)) → P J H1) → wi σ H P)
    (hσ : ∀ x : V, wipe ((wipe σ vs).set i (some x)) vs = wipe σ vs) (hget : ∀ x : V, ((wipe σ vs).set i (some x))[i]? = some (some x))
    (turn : ∀ x D H', x ∈ l → H D = none → Ex H H' → (∃ acc, H' D = some (.lst acc)) → ∀ R : Bool → Hp → Prop, (∀ H'', Ex H' H'' → R (f x) H'') → tt ((wipe σ vs).set i (some (iV x))) H' R)
    (fin : ∀ D H', H D = none → Ex H H' → H' D = some (.lst ((l.filter f).map iV)) → Q (.ref D) H') : tLc wi (gName i) tt (tVar i) vs σ H Q := by
  refine lc_at (fun z => f (l[z]?.getD 0)) (fun z D y H' => y = iV (l[z]?.getD 0)) (line_big (n := (l.map iV).length) (by rw [List.length_map]; omega)) hw (fun _ _ _ _ _ _ h => h) (fun _ _ _ _ _ _ h => h) ?_ ?_
  · rintro z D H' hz hD e acc Ny Nn hy hn
    rw [List.length_map] at hz
    have ez : l[z]?.getD 0 = l[z] := by rw [List.getElem?_eq_getElem hz]; rfl
    rw [nth_iV hz]
    rw [ez] at hy hn
    refine ⟨hσ _, turn l[z] D H' (List.getElem_mem hz) hD e acc _ fun H'' e'' => ?_⟩
    cases c : f l[z] with
    | true => rw [if_pos rfl]; exact ⟨_, hget _, hy _ _ c e'' rfl⟩
    | false => rw [if_neg Bool.false_ne_true]; exact hn _ c e''
  · intro D ys H' hD e hd ff
    rw [List.length_map] at ff
    have e1 := F2.map_eq (f := fun z => iV (l[z]?.getD 0)) ff
    have e2 : ys = (l.filter f).map iV := by rw [e1, ← filter_nth l f, List.map_map]; rfl
    subst e2
    exact fin D H' hD e hd
theorem dec_len (k m : Nat) : decide (V.int (k : Int) = V.int (m : Int)) = decide (k = m) := by
  refine decide_eq_decide.mpr ⟨?_, ?_⟩
  · intro z; have := V.int.inj z; omega
  · rintro rfl; rfl
/-- each row of the law's ways has n items -/
def RowsAt (H : Hp) (w : V) (n : Nat) : Prop := ∀ (a : Addr) (vs : List V) (i : Nat) (A : Addr) (ws : List V), w = V.ref a → H a = some (.lst vs) → vs[i]? = some (V.ref A) → H A = some (.lst ws) → ws.length = n
theorem look {H : Hp} {w : V} {n : Nat} {Fs} (h : WaysAt H w n Fs) : ∃ a vs, w = .ref a ∧ H a = some (.lst vs) ∧ ∀ i, i < n → ∃ A ws, vs[i]? = some (.ref A) ∧ H A = some (.lst ws) ∧ ∀ j, j < n → ∃ t, ws[j]? = some (.ref t) ∧ H t = some (.tup ((wy Fs i j).map iV)) := h
theorem idx_list {n : Nat} : ∀ {ds : List PyData}, (∀ x ∈ ds, isIdx x n = true) → ∃ is : List Nat, ds = is.map intD ∧ ∀ i ∈ is, i < n
  | [], _ => ⟨[], rfl, by simp⟩
  | x :: ds, h => by
    obtain ⟨is, e, l⟩ := idx_list (ds := ds) fun y m => h y (List.mem_cons_of_mem _ m)
    obtain ⟨i, rfl, hi⟩ := idx_nat (h x List.mem_cons_self)
    exact ⟨i :: is, by rw [e]; rfl, fun y m => by rcases List.mem_cons.mp m with rfl | m; exact hi; exact l y m⟩
def sp__law_due (K : PySem.W.Frag) : Sp := sp4 fun a b e f H Q E => ∃ (n : Nat) (rs : List (Nat × Nat)) (Fs : List (List (List Nat))) (U : Addr) (ts : List V) (ds : List PyData) (k : Nat), WorldAt K H a n rs ∧ WaysAt H b n Fs ∧ WaysOk n rs Fs ∧ RowsAt H b n ∧ TreeG n rs ∧ e = .int (k : Int) ∧ k < 8 ∧ f = .ref U ∧ (SqL K H U ts ∨ SqT K H U ts) ∧ Dqs K H ts ds ∧
  (k = 7 → 1 ≤ ts.length ∧ (items (ds.headD .none)).length ≤ 1000) ∧ (k ≠ 7 → cntK k ≤ ts.length) ∧
  ∀ l H' vs, Ex H H' → H l = none → H' l = some (.lst vs) → Dqs K H' vs (ansE n Fs k ds) → Q (.ref l) H'
section
variable {K : PySem.W.Frag} {mg : Str → Option Value} {P : Program} {w : World} {base : Heap}
theorem ok__law_due (T : Tx K mg) : Cal P w K mg base CX0 4 "_law_due" ["_law_world_here", "_law_ways", "_law_kind", "_law_things_here"] (sp__law_due K) := by
  refine cal_of (fD__law_due T) (T.glo 47 rfl) sc__law_due (fun _ _ _ _ _ _ us hl => match us, hl with | [_, _, _, _], _ => rfl) (fun vs H Q E h => len4 h) (fun f cdv A outer s H vs Q E hr h => ?_)
  obtain ⟨a, b, c, d, rfl, h⟩ := h
  refine ⟨_, (PSs.nox (pss_cons (ps_asg (pe_tup (pa_cons (pe_ix (ix_listK (K := K)) (pv 0) pe_int (fun _ _ => rfl)) (pa_cons (pe_listRg rfl rfl (T.free 8 rfl) (prg_1 rfl (T.free 11 rfl) (pe_ix (ix_listK (K := K)) (pv 0) pe_int (fun _ _ => rfl)))) pa_nil))) (pg_tup rfl (pgs_cons (pg_name (i := 4) sc__law_due.nd rfl (Or.inr rfl)) (pgs_cons (pg_name (i := 5) sc__law_due.nd rfl (Or.inl rfl)) pgs_nil))))
      (pss_cons (ps_if (pt_cmpR op_eq (pv 2) pe_int (nomark _)) (pss_cons (ps_set (i := 6) sc__law_due.nd rfl (Or.inl rfl) (pe_ix (ix_seqK (K := K)) (pv 3) pe_int (fun _ _ => rfl)))
      (pss_cons (ps_if (PW.pt (pw_or (pt_not (pt_val (pe_callB (call_isiTK (K := K)) (by rfl) (T.free 6 rfl) (by decide +kernel) (pa_cons (pv 6) (pa_cons (pe_tup (pa_cons (pe_bltn (v := .ty "list") (u := .type "list") (by rfl) (T.free 8 rfl) (by decide +kernel) rfl) (pa_cons (pe_bltn (v := .ty "tuple") (u := .type "tuple") (by rfl) (T.free 15 rfl) (by decide +kernel) rfl) pa_nil))) pa_nil))))) (pw_or1 (pt_cmpR (op_neNil (K := K) (hu0 hr.r)) (pe_lc (own := [("_law_one", 11)]) rfl sc__law_due.nd (pi_seq (pv 6)) (blkOk_by (own := [("_law_one", 11)]) (N := ["_law_world_here", "_law_ways", "_law_kind", "_law_things_here", "_law_many", "_law_spots", "_law_some", "_law_thing", "_law_row", "_law_both", "_law_spot", "_law_one"]) (sc := defScope st__law_due) (by decide +kernel)) (fun _ _ _ _ _ => (pg_name (i := 11) sc__law_due.nd rfl (Or.inl rfl))) (fun _ _ _ _ _ => (pts_one (pt_not (pt_val (pe_c (ok__law_index T) (hr.mono (by decide)) rfl pass0 (pa_cons (pv 11) (pa_cons (pv 4) pa_nil))))))) (fun _ _ _ _ _ => (pv 11))) (pe_lst pa_nil) (nomark _))))) (pss_one (ps_ret (pe_lst (pa_cons pe_str (pa_cons (pv 6) pa_nil))))) pss_nil)
      (pss_one (ps_ret (pe_lst (pa_cons pe_str (pa_cons (pe_c (ok__law_span T) (hr.mono (by decide)) rfl pass0 (pa_cons (pv 1) (pa_cons (pv 6) pa_nil))) pa_nil))))))) pss_nil)
      (pss_cons (ps_for PassesOwn.never rfl (pi_seq (pe_slice (sl_any (K := K)) (pv 3) po_none (po_some (pe_ix (ix_listK (K := K)) (pe_lst (pa_cons pe_int (pa_cons pe_int (pa_cons pe_int (pa_cons pe_int (pa_cons pe_int (pa_cons pe_int (pa_cons pe_int pa_nil)))))))) (pv 2) (fun _ _ => rfl))))) (pg_name (i := 7) sc__law_due.nd rfl (Or.inl rfl)) (pss_one (ps_if (pt_not (pt_val (pe_c (ok__law_index T) (hr.mono (by decide)) rfl pass0 (pa_cons (pv 7) (pa_cons (pv 4) pa_nil))))) (pss_one (ps_ret (pe_lst (pa_cons pe_str (pa_cons (pv 7) pa_nil))))) pss_nil)))
      (pss_cons (ps_if (pt_cmpR op_eq (pv 2) pe_int (nomark _)) (pss_one (ps_ret (pe_lst (pa_cons pe_str (pa_cons (pe_lc (own := [("_law_spot", 10)]) rfl sc__law_due.nd (pi_list (pv 5)) (blkOk_by (own := [("_law_spot", 10)]) (N := ["_law_world_here", "_law_ways", "_law_kind", "_law_things_here", "_law_many", "_law_spots", "_law_some", "_law_thing", "_law_row", "_law_both", "_law_spot", "_law_one"]) (sc := defScope st__law_due) (by decide +kernel)) (fun _ _ _ _ _ => (pg_name (i := 10) sc__law_due.nd rfl (Or.inl rfl))) (fun _ _ _ _ _ => (pts_one (pt_cmpR op_eq (pe_callB (call_lenK (K := K)) (by rfl) (T.free 7 rfl) (by decide +kernel) (pa_cons (pe_ix (ix_listK (K := K)) (pe_ix (ix_listK (K := K)) (pv 1) (pe_ix (ix_seqK (K := K)) (pv 3) pe_int (fun _ _ => rfl)) (fun _ _ => rfl)) (pv 10) (fun _ _ => rfl)) pa_nil)) pe_int (nomark _)))) (fun _ _ _ _ _ => (pv 10))) pa_nil))))) pss_nil)
      (pss_cons (ps_if (pt_cmpR op_eq (pv 2) pe_int (nomark _)) (pss_one (ps_ret (pe_lst (pa_cons pe_str (pa_cons (pe_lc (own := [("_law_spot", 10)]) rfl sc__law_due.nd (pi_list (pv 5)) (blkOk_by (own := [("_law_spot", 10)]) (N := ["_law_world_here", "_law_ways", "_law_kind", "_law_things_here", "_law_many", "_law_spots", "_law_some", "_law_thing", "_law_row", "_law_both", "_law_spot", "_law_one"]) (sc := defScope st__law_due) (by decide +kernel)) (fun _ _ _ _ _ => (pg_name (i := 10) sc__law_due.nd rfl (Or.inl rfl))) (fun _ _ _ _ _ => (pts_one (pt_cmpR op_lt (pe_callB (call_lenK (K := K)) (by rfl) (T.free 7 rfl) (by decide +kernel) (pa_cons (pe_lc (own := [("_law_row", 8)]) rfl sc__law_due.nd (pi_listK (K := K) (pe_ix (ix_listK (K := K)) (pv 1) (pv 10) (fun _ _ => rfl))) (blkOk_by (own := [("_law_row", 8)]) (N := ["_law_world_here", "_law_ways", "_law_kind", "_law_things_here", "_law_many", "_law_spots", "_law_some", "_law_thing", "_law_row", "_law_both", "_law_spot", "_law_one"]) (sc := relS _ (defScope st__law_due)) (by decide +kernel)) (fun _ _ _ _ _ => (pg_name (i := 8) sc__law_due.nd rfl (Or.inl rfl))) (fun _ _ _ _ _ => (pts_one (pt_cmpR op_eq (pe_callB (call_lenK (K := K)) (by rfl) (T.free 7 rfl) (by decide +kernel) (pa_cons (pv 8) pa_nil)) pe_int (nomark _)))) (fun _ _ _ _ _ => (pv 8))) pa_nil)) pe_int (nomark _)))) (fun _ _ _ _ _ => (pv 10))) pa_nil))))) pss_nil)
      (pss_cons (ps_set (i := 8) sc__law_due.nd rfl (Or.inl rfl) (pe_ix (ix_listK (K := K)) (pe_ix (ix_listK (K := K)) (pv 1) (pe_ix (ix_seqK (K := K)) (pv 3) pe_int (fun _ _ => rfl)) (fun _ _ => rfl)) (pe_ix (ix_seqK (K := K)) (pv 3) pe_int (fun _ _ => rfl)) (fun _ _ => rfl)))
      (pss_cons (ps_if (pt_cmpR op_eq (pv 2) pe_int (nomark _)) (pss_one (ps_ret (pe_lst (pa_cons pe_str (pa_cons (pv 8) pa_nil))))) pss_nil)
      (pss_cons (ps_if (pt_cmpR op_eq (pv 2) pe_int (nomark _)) (pss_one (ps_ret (pe_lst (pa_cons pe_str (pa_cons (pe_op op_sub (pe_callB (call_lenK (K := K)) (by rfl) (T.free 7 rfl) (by decide +kernel) (pa_cons (pv 8) pa_nil)) pe_int) pa_nil))))) pss_nil)
      (pss_cons (ps_if (pt_cmpR op_eq (pv 2) pe_int (nomark _)) (pss_cons (ps_setLc (i := 9) (own := [("_law_spot", 10)]) rfl sc__law_due.nd rfl rfl (sw_true rfl rfl rfl (by decide +kernel)) (pi_tup (pv 8)) (blkOk_by (own := [("_law_spot", 10)]) (N := ["_law_world_here", "_law_ways", "_law_kind", "_law_things_here", "_law_many", "_law_spots", "_law_some", "_law_thing", "_law_row", "_law_both", "_law_spot", "_law_one"]) (sc := defScope st__law_due) (by decide +kernel)) (fun _ _ _ _ _ => (pg_name (i := 10) sc__law_due.nd rfl (Or.inl rfl))) (fun _ _ _ _ _ => (pts_one (pt_cmpR (op_inK (K := K)) (pv 10) (pe_ix (ix_listK (K := K)) (pe_ix (ix_listK (K := K)) (pv 1) (pe_ix (ix_seqK (K := K)) (pv 3) pe_int (fun _ _ => rfl)) (fun _ _ => rfl)) (pe_ix (ix_seqK (K := K)) (pv 3) pe_int (fun _ _ => rfl)) (fun _ _ => rfl)) (by with_unfolding_all rfl)))) (fun _ _ _ _ _ => (pv 10)))
      (pss_one (ps_ret (pe_lst (pa_cons pe_str (pa_cons (pe_ix (ix_listK (K := K)) (pe_lc (own := [("_law_spot", 10)]) rfl sc__law_due.nd (pi_list (pv 9)) (blkOk_by (own := [("_law_spot", 10)]) (N := ["_law_world_here", "_law_ways", "_law_kind", "_law_things_here", "_law_many", "_law_spots", "_law_some", "_law_thing", "_law_row", "_law_both", "_law_spot", "_law_one"]) (sc := defScope st__law_due) (by decide +kernel)) (fun _ _ _ _ _ => (pg_name (i := 10) sc__law_due.nd rfl (Or.inl rfl))) (fun _ _ _ _ _ => (pts_one (pt_cmpR (op_inK (K := K)) (pv 10) (pe_ix (ix_listK (K := K)) (pe_ix (ix_listK (K := K)) (pv 1) (pe_ix (ix_seqK (K := K)) (pv 3) pe_int (fun _ _ => rfl)) (fun _ _ => rfl)) (pe_ix (ix_seqK (K := K)) (pv 3) pe_int (fun _ _ => rfl)) (fun _ _ => rfl)) (by with_unfolding_all rfl)))) (fun _ _ _ _ _ => (pv 10))) pe_int (fun _ _ => rfl)) pa_nil)))))) pss_nil)
      (pss_cons (ps_if (pt_cmpR op_eq (pv 2) pe_int (nomark _)) (pss_one (ps_ret (pe_lst (pa_cons pe_str (pa_cons (pe_cmpR (op_inK (K := K)) (pe_ix (ix_seqK (K := K)) (pv 3) pe_int (fun _ _ => rfl)) (pv 8) (by with_unfolding_all rfl)) pa_nil))))) pss_nil)
      (pss_cons (ps_if (pt_cmpR op_ne (pe_callB (call_lenK (K := K)) (by rfl) (T.free 7 rfl) (by decide +kernel) (pa_cons (pv 8) pa_nil)) pe_int (nomark _)) (pss_one (ps_ret (pe_lst (pa_cons pe_str (pa_cons (pe_ix (ix_seqK (K := K)) (pv 3) pe_int (fun _ _ => rfl)) (pa_cons (pe_ix (ix_seqK (K := K)) (pv 3) pe_int (fun _ _ => rfl)) pa_nil)))))) pss_nil)
      (pss_one (ps_ret (pe_lst (pa_cons pe_str (pa_cons (pe_lc (own := [("_law_spot", 10)]) rfl sc__law_due.nd (pi_list (pv 5)) (blkOk_by (own := [("_law_spot", 10)]) (N := ["_law_world_here", "_law_ways", "_law_kind", "_law_things_here", "_law_many", "_law_spots", "_law_some", "_law_thing", "_law_row", "_law_both", "_law_spot", "_law_one"]) (sc := defScope st__law_due) (by decide +kernel)) (fun _ _ _ _ _ => (pg_name (i := 10) sc__law_due.nd rfl (Or.inl rfl))) (fun _ _ _ _ _ => (pts_one (pt_cmpR (op_inK (K := K)) (pe_ix (ix_seqK (K := K)) (pv 3) pe_int (fun _ _ => rfl)) (pe_ix (ix_listK (K := K)) (pe_ix (ix_listK (K := K)) (pv 1) (pv 10) (fun _ _ => rfl)) (pe_ix (ix_seqK (K := K)) (pv 3) pe_int (fun _ _ => rfl)) (fun _ _ => rfl)) (by with_unfolding_all rfl)))) (fun _ _ _ _ _ => (pv 10))) pa_nil))))))))))))))))), ?_⟩
  obtain ⟨n, rs, Fs, U, ts, ds, k, wo, wa, w, wr, g, rfl, k8, rfl, hU, hds, c7, cn, q⟩ := h
  obtain ⟨W, S, tsw, rfl, hW, hS, hts⟩ := wo.at_
  obtain ⟨wa', vs, rfl, hwa, hwi⟩ := look wa
  have n1 := wo.ok.n1
  have n16 := wo.ok.n16
  have good := wo.ok.good
  refine seq_at (asg_at ?_)
  refine ⟨_, rfl, W, _, 0, _, rfl, rfl, SqL.of hW, rfl, _, rfl, W, _, 0, _, rfl, rfl, SqL.of hW, rfl, n, rfl, ⟨by decide, by decide, by omega, by omega, by omega⟩, fun p hp => ⟨(by show 2 ≤ sizeLine; decide), fun t ht => ⟨t, _, rfl, SqT.of upd_same, rfl, _, _, rfl, _, _, rfl, rfl, ?_⟩⟩⟩
  have e2 : Ex H (upd (upd H p (.lst (rgV 0 (n : Int)))) t (.tup [iV n, .ref p])) := (Evl.Ex.new hp).trans (Evl.Ex.new ht)
  have hp2 : upd (upd H p (.lst (rgV 0 (n : Int)))) t (.tup [iV n, .ref p]) p = some (.lst ((List.range n).map iV)) := by
    rw [Evl.Ex.new ht _ _ (upd_same (H := H) (a := p) (o := .lst (rgV 0 (n : Int)))), rgV_nat]; rfl
  show tSeq _ _ _ _ (upd (upd H p (.lst (rgV 0 (n : Int)))) t (.tup [iV n, .ref p]))
  generalize upd (upd H p (.lst (rgV 0 (n : Int)))) t (.tup [iV n, .ref p]) = H2 at e2 hp2 ⊢
  have hU2 : SqL K H2 U ts ∨ SqT K H2 U ts := hU.imp (Evl.ex_l e2) (Evl.ex_t e2)
  have hU' : ∀ {H'}, Ex H2 H' → SqL K H' U ts ∨ SqT K H' U ts := fun e => hU2.imp (Evl.ex_l e) (Evl.ex_t e)
  -- what is answered: a new list
  have ret2 : ∀ {H' : Hp} {x : V} {d : PyData} {z : Str}, Ex H2 H' → Dq K H' x d → ansE n Fs k ds = [.str z, d] → ∀ l, H' l = none → Q (.ref l) (upd H' l (.lst [.str z, x])) := fun {H' x d z} e dq ea l hl => by
    refine q l _ _ ((e2.trans e).trans (Evl.Ex.new hl)) (Evl.fresh_back (e2.trans e) hl) upd_same ?_
    rw [ea]; exact .cons (.str _) (.cons (dq.mono (Evl.Ex.new hl)) .nil)
  dsimp only [gName]
  have item : ∀ j, j < ts.length → ∃ x d, ts[j]? = some x ∧ ds[j]? = some d ∧ Dq K H x d := fun j hj => by
    have gx : ts[j]? = some ts[j] := List.getElem?_eq_getElem hj
    obtain ⟨d, h1, h2⟩ := hds.get gx
    exact ⟨_, d, gx, h1, h2⟩
  refine seq_at ?_
  refine ⟨_, rfl, rfl, _, rfl, ?_⟩
  by_cases kk7 : k = 7
  · rw [decide_eq_true (show V.int (k : Int) = V.int 7 by rw [kk7]; rfl)]
    refine iteT ?_
    obtain ⟨h1, il⟩ := c7 kk7
    obtain ⟨x0, ts', d0, ds', rfl, rfl, q0, h'⟩ := dqs_uncons hds h1
    refine seq_at (asg_at ?_)
    refine ⟨_, rfl, ix_seq_at (i := 0) hU2 rfl ?_⟩
    dsimp only [gName]
    refine seq_at ?_
    refine ifS_split (fun H' => Ex H2 H' ∧ areIdx d0 n = false) (fun H' => Ex H2 H' ∧ areIdx d0 n = true) ?_ ?_ ?_
    rotate_left 2
    · intro R hT hF
      refine ⟨_, rfl, (by show 2 ≤ sizeLine; decide), fun t2 ht2 => ?_⟩
      have et := Evl.Ex.new (o := .tup [.ty "list", .ty "tuple"]) ht2
      dsimp only [tNil, tCons, tC]
      refine isi_seq ((q0.mono e2).mono et) upd_same ⟨_, rfl, ?_⟩
      rw [isSeq_eq]
      cases es : isSeq d0 with
      | false => exact hT _ ⟨et, by unfold areIdx; rw [es]; rfl⟩
      | true =>
        refine iteF ?_
        dsimp only [tTest, tOp]
        obtain ⟨p0, xs, ev, hx, hds0⟩ := dq_seq ((q0.mono e2).mono et) es
        subst ev
        have hn := hds0.length
        refine lc_at (n := xs.length) (item := nth xs) (fun i => !isIdx ((items d0)[i]?.getD .none) n) (fun z D y H' => True) (line_big (by have := il; simp only [List.headD_cons] at this; omega)) (fun P q => l_seq (i := 6) rfl hx q) (fun _ _ _ _ _ _ _ => trivial) (fun _ _ _ _ _ _ _ => trivial) ?_ ?_
        · rintro z D H' hz hD e' ⟨acc, hacc⟩ Ny Nn hy hn'
          obtain ⟨dz, g1, g2⟩ := dqs_nth hds0 hz
          have ez : ((items d0)[z]?.getD .none) = dz := by rw [g1]; rfl
          refine ⟨rfl, ?_⟩
          refine ⟨_, rfl, _, rfl, _, _, rfl, dz, n, g2.mono e', rfl, _, rfl, ?_⟩
          cases er : isIdx dz n with
          | true => refine iteF ?_; exact hn' _ (by rw [ez, er]; rfl) (Evl.Ex.refl _)
          | false => refine iteT ?_; exact ⟨_, rfl, hy _ _ (by rw [ez, er]; rfl) (Evl.Ex.refl _) trivial⟩
        · intro D ys H' hD e' hd' f
          have len := f.length
          refine ⟨Nat.zero_le _, fun d2 hd2 => ⟨D, ys, d2, rfl, rfl, SqL.of (Evl.Ex.new hd2 _ _ hd'), SqL.of upd_same, _, rfl, ?_⟩⟩
          have eD := (et.trans e').trans (Evl.Ex.new (o := .lst []) hd2)
          have all : areIdx d0 n = ys.isEmpty := by
            unfold areIdx
            rw [es, Bool.true_and]
            cases ys with
            | nil =>
              rw [List.length_nil] at len
              show _ = true
              rw [List.all_eq_true]
              intro x hx'
              obtain ⟨z, hz, ez⟩ := List.getElem_of_mem hx'
              have := List.filter_eq_nil_iff.mp (List.eq_nil_of_length_eq_zero len) z (List.mem_range.mpr (by omega))
              rw [List.getElem?_eq_getElem hz, ez] at this
              simpa using this
            | cons y ys =>
              show _ = false
              rw [Bool.eq_false_iff]
              intro al
              have ne : 0 < ((List.range xs.length).filter fun i => !isIdx ((items d0)[i]?.getD .none) n).length := by rw [len]; simp
              obtain ⟨z, hz⟩ := List.exists_mem_of_length_pos ne
              obtain ⟨hz1, hz2⟩ := List.mem_filter.mp hz
              have hz3 := List.mem_range.mp hz1
              have hz4 : z < (items d0).length := by omega
              rw [List.getElem?_eq_getElem hz4] at hz2
              have := List.all_eq_true.mp al _ (List.getElem_mem hz4)
              simp [this] at hz2
          cases ys with
          | nil => exact hF _ ⟨eD, all⟩
          | cons y ys => exact hT _ ⟨eD, all⟩
    · rintro H5 ⟨e5, bad⟩
      refine ⟨_, rfl, (by show 2 ≤ sizeLine; decide), ret2 e5 ((q0.mono e2).mono e5) ?_⟩
      subst kk7
      simp [ansE, bad]
    · rintro H5 ⟨e5, ok⟩
      dsimp only [tNext]
      have es : isSeq d0 = true := by unfold areIdx at ok; rw [Bool.and_eq_true] at ok; exact ok.1
      obtain ⟨is, ei, lt⟩ : ∃ is : List Nat, items d0 = is.map intD ∧ ∀ i ∈ is, i < n := by
        have al : (items d0).all (isIdx · n) = true := by unfold areIdx at ok; rw [Bool.and_eq_true] at ok; exact ok.2
        exact idx_list (List.all_eq_true.mp al)
      refine ret_at ?_
      have i1000 : is.length ≤ 1000 := by simp only [List.headD_cons] at il; rw [ei, List.length_map] at il; exact il
      refine ⟨_, rfl, _, rfl, _, _, rfl, n, Fs, is, d0, (wa.mono e2).mono e5, (q0.mono e2).mono e5, es, ei, lt, n16, i1000, fun i j hi hj => ⟨(w.path g hi hj).nd, path_lt (w.path g hi hj) hi⟩, fun l H6 e6 hl gl => ⟨(by show 2 ≤ sizeLine; decide), ret2 (e5.trans e6) (.lst (SqL.of gl) (dqs_nums _)) ?_⟩⟩
      subst kk7
      simp [ansE, ok, ei, map_natD, numsD]
      rw [← List.map_map, map_natD]
  rw [decide_eq_false (show ¬ V.int (k : Int) = V.int 7 from fun z => kk7 (by have := V.int.inj z; omega))]
  refine iteF ?_
  dsimp only [tNext]
  have cn' := cn kk7
  have cl : cntK k ≤ 3 := by
    have : k = 0 ∨ k = 1 ∨ k = 2 ∨ k = 3 ∨ k = 4 ∨ k = 5 ∨ k = 6 := by omega
    rcases this with rfl | rfl | rfl | rfl | rfl | rfl | rfl <;> decide
  have lk : [V.int 1, V.int 0, V.int 2, V.int 2, V.int 3, V.int 3, V.int 2][k]? = some (.int (cntK k : Nat)) := by
    have : k = 0 ∨ k = 1 ∨ k = 2 ∨ k = 3 ∨ k = 4 ∨ k = 5 ∨ k = 6 := by omega
    rcases this with rfl | rfl | rfl | rfl | rfl | rfl | rfl <;> rfl
  refine seq_at (st_join (fun σ' H' => (∃ s7, σ' = [some (V.ref W), some (.ref wa'), some (.int (k : Int)), some (.ref U), some (iV n), some (.ref p), none, s7, none, none, none, none]) ∧ Ex H2 H' ∧ ∀ d ∈ ds.take (cntK k), isIdx d n = true) ?_ ?_)
  rotate_left
  · intro N hN
    rcases hU2 with hUx | hUx
    · refine .inl ⟨_, rfl, (by show 7 ≤ sizeLine; decide), fun M hM => ⟨_, rfl, M, _, _, _, rfl, rfl, SqL.of upd_same, atI_nat lk, _, rfl, U, ts, rfl, .inl ⟨Evl.ex_l (Evl.Ex.new hM) hUx, fun p2 H3 e3 sq => ⟨p2, rfl, ⟨_, sq⟩, ?_⟩⟩⟩⟩
      rw [cut_take] at sq
      have e23 := (Evl.Ex.new (o := .lst [.int 1, .int 0, .int 2, .int 2, .int 3, .int 3, .int 2]) hM).trans e3
      have ct : (ts.take (cntK k)).length = cntK k := by rw [List.length_take]; omega
      refine for_gen (its_l sq) (fun j σ' H' => (∃ s7, σ' = [some (V.ref W), some (.ref wa'), some (.int (k : Int)), some (.ref U), some (iV n), some (.ref p), none, s7, none, none, none, none]) ∧ Ex H3 H' ∧ ∀ i, i < j → ∀ x, ds[i]? = some x → isIdx x n = true) ⟨⟨_, rfl⟩, Evl.Ex.refl _, by omega⟩ (fun j σ' H' z => z.2.1) ?_ ?_
      · rintro j σ' H' hj ⟨⟨s7, rfl⟩, e', inv⟩
        rw [ct] at hj
        obtain ⟨x, d, g1, g2, dq⟩ := item j (by omega)
        have ex : nth (ts.take (cntK k)) j = x := by unfold nth; rw [List.getElem?_take_of_lt hj, g1]; rfl
        rw [ex]
        have e2' := e23.trans e'
        refine ⟨_, rfl, _, rfl, _, _, rfl, d, n, (dq.mono e2).mono e2', rfl, _, rfl, ?_⟩
        cases ii : isIdx d n with
        | true =>
          refine iteF ?_
          dsimp only [tNext]
          refine ⟨⟨_, rfl⟩, e', fun i hi y hy => ?_⟩
          by_cases ij : i = j
          · subst ij; rw [g2] at hy; cases hy; exact ii
          · exact inv i (by omega) y hy
        | false =>
          refine iteT ?_
          refine ⟨_, rfl, (by show 2 ≤ sizeLine; decide), ret2 e2' ((dq.mono e2).mono e2') ?_⟩
          have ff : (ds.take (cntK k)).find? (fun d => !isIdx d n) = some d := find_first _ _ j d (fun i hi y hy => by
            rw [List.getElem?_take_of_lt (by omega)] at hy
            rw [inv i hi y hy]; rfl) (by rw [List.getElem?_take_of_lt hj]; exact g2) (by rw [ii]; rfl)
          unfold ansE
          rw [if_neg kk7, ff]
      · rintro σ' H' ⟨⟨s7, rfl⟩, e', inv⟩
        rw [ct] at inv
        refine hN _ _ ⟨⟨_, rfl⟩, e23.trans e', fun y hy => ?_⟩
        obtain ⟨i, hi, rfl⟩ := List.getElem_of_mem hy
        rw [List.length_take] at hi
        rw [List.getElem_take]
        exact inv i (by omega) _ (List.getElem?_eq_getElem _)
    · refine .inr ⟨_, rfl, (by show 7 ≤ sizeLine; decide), fun M hM => ⟨_, rfl, M, _, _, _, rfl, rfl, SqL.of upd_same, atI_nat lk, _, rfl, U, ts, rfl, .inr ⟨Evl.ex_t (Evl.Ex.new hM) hUx, fun p2 H3 e3 sq => ⟨p2, rfl, ⟨_, sq⟩, ?_⟩⟩⟩⟩
      rw [cut_take] at sq
      have e23 := (Evl.Ex.new (o := .lst [.int 1, .int 0, .int 2, .int 2, .int 3, .int 3, .int 2]) hM).trans e3
      have ct : (ts.take (cntK k)).length = cntK k := by rw [List.length_take]; omega
      refine for_gen (its_t sq) (fun j σ' H' => (∃ s7, σ' = [some (V.ref W), some (.ref wa'), some (.int (k : Int)), some (.ref U), some (iV n), some (.ref p), none, s7, none, none, none, none]) ∧ Ex H3 H' ∧ ∀ i, i < j → ∀ x, ds[i]? = some x → isIdx x n = true) ⟨⟨_, rfl⟩, Evl.Ex.refl _, by omega⟩ (fun j σ' H' z => z.2.1) ?_ ?_
      · rintro j σ' H' hj ⟨⟨s7, rfl⟩, e', inv⟩
        rw [ct] at hj
        obtain ⟨x, d, g1, g2, dq⟩ := item j (by omega)
        have ex : nth (ts.take (cntK k)) j = x := by unfold nth; rw [List.getElem?_take_of_lt hj, g1]; rfl
        rw [ex]
        have e2' := e23.trans e'
        refine ⟨_, rfl, _, rfl, _, _, rfl, d, n, (dq.mono e2).mono e2', rfl, _, rfl, ?_⟩
        cases ii : isIdx d n with
        | true =>
          refine iteF ?_
          dsimp only [tNext]
          refine ⟨⟨_, rfl⟩, e', fun i hi y hy => ?_⟩
          by_cases ij : i = j
          · subst ij; rw [g2] at hy; cases hy; exact ii
          · exact inv i (by omega) y hy
        | false =>
          refine iteT ?_
          refine ⟨_, rfl, (by show 2 ≤ sizeLine; decide), ret2 e2' ((dq.mono e2).mono e2') ?_⟩
          have ff : (ds.take (cntK k)).find? (fun d => !isIdx d n) = some d := find_first _ _ j d (fun i hi y hy => by
            rw [List.getElem?_take_of_lt (by omega)] at hy
            rw [inv i hi y hy]; rfl) (by rw [List.getElem?_take_of_lt hj]; exact g2) (by rw [ii]; rfl)
          unfold ansE
          rw [if_neg kk7, ff]
      · rintro σ' H' ⟨⟨s7, rfl⟩, e', inv⟩
        rw [ct] at inv
        refine hN _ _ ⟨⟨_, rfl⟩, e23.trans e', fun y hy => ?_⟩
        obtain ⟨i, hi, rfl⟩ := List.getElem_of_mem hy
        rw [List.length_take] at hi
        rw [List.getElem_take]
        exact inv i (by omega) _ (List.getElem?_eq_getElem _)
  rintro σ5 H5 ⟨⟨s7, rfl⟩, e5, all⟩
  have e05 := e2.trans e5
  have ea : ansE n Fs k ds = ansG n Fs k (natD (ds.headD .none)) (natD (ds.getD 1 .none)) (natD (ds.getD 2 .none)) := by
    have ff : (ds.take (cntK k)).find? (fun d => !isIdx d n) = none := List.find?_eq_none.mpr fun x hx => by rw [all x hx]; simp
    unfold ansE
    rw [if_neg kk7, ff]
  have ix : ∀ j, j < cntK k → ∃ i, i < n ∧ ts[j]? = some (iV i) ∧ ds[j]? = some (.int (i : Int)) := fun j hj => by
    obtain ⟨x, d, g1, g2, dq⟩ := item j (by omega)
    have lj := (List.getElem?_eq_some_iff.mp g2).1
    have m : d ∈ ds.take (cntK k) := List.mem_of_getElem? (i := j) (by rw [List.getElem?_take_of_lt hj]; exact g2)
    obtain ⟨i, rfl, hi⟩ := idx_nat (all d m)
    cases dq
    exact ⟨i, hi, g1, g2⟩
  have hd0 : ∀ {d}, ds[0]? = some d → ds.headD .none = d := fun h => by cases ds with
    | nil => simp at h
    | cons a l => simpa using h
  have hdj : ∀ {j d}, ds[j]? = some d → ds.getD j .none = d := fun h => by rw [List.getD_eq_getElem?_getD, h]; rfl
  have pn := e5 _ _ hp2
  have gwa := e05 _ _ hwa
  dsimp only
  refine seq_at ?_
  refine ⟨_, rfl, rfl, _, rfl, ?_⟩
  by_cases k0 : k = 0
  · rw [decide_eq_true (show V.int (k : Int) = V.int 0 by rw [k0]; rfl)]
    refine iteT ?_
    subst k0
    obtain ⟨i, hi, g0, gd0⟩ := ix 0 (by decide)
    rw [hd0 gd0] at ea
    obtain ⟨A1, ws, v1, hA1, row⟩ := hwi i hi
    dsimp only [tRet, tLst, tCons, tC, tOp]
    refine lc_filter (i := 10) (List.range n) (fun x => decide ((wy Fs i x).length = 2)) (by simp; omega) (fun P q => l_list (i := 5) rfl (SqL.of pn) q) (fun x => rfl) (fun x => rfl) ?_ ?_
    · intro x D H' hx hD e' acc R hR
      obtain ⟨t1, w1, ht1⟩ := row x (List.mem_range.mp hx)
      refine ⟨_, rfl, _, rfl, ix_seq_at (i := 0) (hU' (e5.trans e')) g0 ⟨wa', vs, _, _, rfl, rfl, SqL.of (e' _ _ gwa), atI_nat v1, _, rfl, A1, ws, _, _, rfl, rfl, SqL.of (e' _ _ (e05 _ _ hA1)), atI_nat w1, t1, _, rfl, .inr (SqT.of (e' _ _ (e05 _ _ ht1))), rfl, _, rfl, ?_⟩⟩
      have := hR _ (Evl.Ex.refl _)
      rw [← dec_len, ← List.length_map (f := iV)] at this
      exact this
    · intro D H' hD e' gD
      refine ⟨(by show 2 ≤ sizeLine; decide), ret2 (e5.trans e') (.lst (SqL.of gD) (dqs_nums _)) ?_⟩
      rw [ea]; rfl
  rw [decide_eq_false (show ¬ V.int (k : Int) = V.int 0 from fun z => k0 (by have := V.int.inj z; omega))]
  refine iteF ?_
  dsimp only [tNext]
  refine seq_at ?_
  refine ⟨_, rfl, rfl, _, rfl, ?_⟩
  by_cases k1 : k = 1
  · rw [decide_eq_true (show V.int (k : Int) = V.int 1 by rw [k1]; rfl)]
    refine iteT ?_
    subst k1
    dsimp only [tRet, tLst, tCons, tC, tOp]
    refine lc_filter (i := 10) (List.range n) (fun x => decide (((List.range n).filter fun y => decide ((wy Fs x y).length = 2)).length < 2)) (by simp; omega) (fun P q => l_list (i := 5) rfl (SqL.of pn) q) (fun x => rfl) (fun x => rfl) ?_ ?_
    · intro x D H' hx hD e' acc R hR
      obtain ⟨A1, ws, v1, hA1, row⟩ := hwi x (List.mem_range.mp hx)
      have wl := wr wa' vs x A1 ws rfl hwa v1 hA1
      have sws := SqL.of (K := K) (e' _ _ (e05 _ _ hA1))
      dsimp only [tTest, tOp, tCB, tCons]
      refine lc_at (n := ws.length) (item := nth ws) (fun y => decide ((wy Fs x y).length = 2)) (fun z D y H' => True) (line_big (by omega)) (fun P q => ⟨_, rfl, _, rfl, wa', vs, _, _, rfl, rfl, SqL.of (e' _ _ gwa), atI_nat v1, A1, rfl, ⟨ws, sws⟩, q _ _ (Evl.Ex.refl _) (its_l sws)⟩) (fun _ _ _ _ _ _ _ => trivial) (fun _ _ _ _ _ _ _ => trivial) ?_ ?_
      · rintro z D2 H6 hz hD2 e6 ⟨acc, hacc⟩ Ny Nn hy hn
        obtain ⟨t1, w1, ht1⟩ := row z (by omega)
        have ez : nth ws z = .ref t1 := by unfold nth; rw [w1]; rfl
        rw [ez]
        refine ⟨rfl, _, rfl, t1, _, rfl, .inr (SqT.of (e6 _ _ (e' _ _ (e05 _ _ ht1)))), rfl, _, rfl, ?_⟩
        have ed : decide (V.int (((wy Fs x z).map iV).length : Int) = V.int 2) = decide ((wy Fs x z).length = 2) := by rw [List.length_map]; exact dec_len _ 2
        rw [ed]
        cases c : decide ((wy Fs x z).length = 2) with
        | true => refine iteT ⟨_, rfl, hy _ _ c (Evl.Ex.refl _) trivial⟩
        | false => refine iteF (hn _ c (Evl.Ex.refl _))
      · intro D2 ys H6 hD2 e6 hd6 f6
        have fl := f6.length
        rw [wl] at fl
        refine ⟨D2, ys, rfl, .inl (SqL.of hd6), _, _, rfl, rfl, _, rfl, ?_⟩
        have := hR H6 e6
        rw [fl] at this
        have ed : decide ((ys.length : Int) < 2) = decide (ys.length < 2) := by rw [Bool.eq_iff_iff, decide_eq_true_eq, decide_eq_true_eq]; omega
        rw [ed]; exact this
    · intro D H' hD e' gD
      refine ⟨(by show 2 ≤ sizeLine; decide), ret2 (e5.trans e') (.lst (SqL.of gD) (dqs_nums _)) ?_⟩
      rw [ea]; simp [ansG, numsD]
  rw [decide_eq_false (show ¬ V.int (k : Int) = V.int 1 from fun z => k1 (by have := V.int.inj z; omega))]
  refine iteF ?_
  dsimp only [tNext]
  have c2 : 2 ≤ cntK k := by
    have : k = 2 ∨ k = 3 ∨ k = 4 ∨ k = 5 ∨ k = 6 := by omega
    rcases this with rfl | rfl | rfl | rfl | rfl <;> decide
  obtain ⟨i, hi, g0, gd0⟩ := ix 0 (by omega)
  obtain ⟨j, hj, g1, gd1⟩ := ix 1 (by omega)
  rw [hd0 gd0, hdj gd1] at ea
  have ni : natD (.int (i : Int)) = i := by simp [natD]
  have nj : natD (.int (j : Int)) = j := by simp [natD]
  rw [ni, nj] at ea
  obtain ⟨A1, ws, v1, hA1, row⟩ := hwi i hi
  obtain ⟨t1, w1, ht1⟩ := row j hj
  have gA1 := e05 _ _ hA1
  have gt1 := e05 _ _ ht1
  refine seq_at (asg_at ?_)
  refine ⟨_, rfl, _, rfl, ix_seq_at (i := 0) (hU' e5) g0 ⟨wa', vs, _, _, rfl, rfl, SqL.of gwa, atI_nat v1, _, rfl, ix_seq_at (i := 1) (hU' e5) g1 ⟨A1, ws, _, _, rfl, rfl, SqL.of gA1, atI_nat w1, ?_⟩⟩⟩
  dsimp only [gName]
  refine seq_at ?_
  refine ⟨_, rfl, rfl, _, rfl, ?_⟩
  by_cases k2 : k = 2
  · rw [decide_eq_true (show V.int (k : Int) = V.int 2 by rw [k2]; rfl)]
    refine iteT ?_
    subst k2
    refine ⟨_, rfl, (by show 2 ≤ sizeLine; decide), ret2 e5 (.tup (SqT.of gt1) (dqs_nums _)) ?_⟩
    rw [ea]; rfl
  rw [decide_eq_false (show ¬ V.int (k : Int) = V.int 2 from fun z => k2 (by have := V.int.inj z; omega))]
  refine iteF ?_
  dsimp only [tNext]
  refine seq_at ?_
  refine ⟨_, rfl, rfl, _, rfl, ?_⟩
  by_cases k3 : k = 3
  · rw [decide_eq_true (show V.int (k : Int) = V.int 3 by rw [k3]; rfl)]
    refine iteT ?_
    subst k3
    refine ⟨_, rfl, t1, _, rfl, .inr (SqT.of gt1), _, _, rfl, rfl, (by show 2 ≤ sizeLine; decide), ret2 e5 (.int _) ?_⟩
    rw [ea, List.length_map]; rfl
  rw [decide_eq_false (show ¬ V.int (k : Int) = V.int 3 from fun z => k3 (by have := V.int.inj z; omega))]
  refine iteF ?_
  dsimp only [tNext]
  refine seq_at ?_
  refine ⟨_, rfl, rfl, _, rfl, ?_⟩
  have wlen : (wy Fs i j).length ≤ n := nodup_len (w.path g hi hj).nd (path_lt (w.path g hi hj) hi)
  by_cases k4 : k = 4
  · rw [decide_eq_true (show V.int (k : Int) = V.int 4 by rw [k4]; rfl)]
    refine iteT ?_
    subst k4
    obtain ⟨h, hh, g2, gd2⟩ := ix 2 (by decide)
    rw [hdj gd2, show natD (.int (h : Int)) = h by simp [natD]] at ea
    obtain ⟨A2, ws2, v2, hA2, row2⟩ := hwi j hj
    obtain ⟨t2, w2, ht2⟩ := row2 h hh
    obtain ⟨t3, w3, ht3⟩ := row h hh
    refine seq_at (asg_at ?_)
    refine lc_filter (i := 10) (wy Fs i j) (fun x => (wy Fs j h).contains x) (by omega) (fun P q => l_tup (i := 8) rfl (SqT.of gt1) q) (fun x => rfl) (fun x => rfl) ?_ ?_
    · intro x D H' hx hD e' acc R hR
      refine ⟨_, rfl, _, rfl, _, rfl, ix_seq_at (i := 1) (hU' (e5.trans e')) g1 ⟨wa', vs, _, _, rfl, rfl, SqL.of (e' _ _ gwa), atI_nat v2, _, rfl, ix_seq_at (i := 2) (hU' (e5.trans e')) g2 ⟨A2, ws2, _, _, rfl, rfl, SqL.of (e' _ _ (e05 _ _ hA2)), atI_nat w2, t2, _, rfl, .inr (SqT.of (e' _ _ (e05 _ _ ht2))), rfl, flat_iV _, _, rfl, ?_⟩⟩⟩
      show R (inV (iV x) ((wy Fs j h).map iV)) H'
      rw [inV_iff]
      exact hR _ (Evl.Ex.refl _)
    · intro D H' hD e' gD
      dsimp only [gName]
      refine ret_at ?_
      dsimp only [tRet, tLst, tCons, tC, tOp]
      refine lc_filter (i := 10) ((wy Fs i j).filter fun x => (wy Fs j h).contains x) (fun x => (wy Fs i h).contains x) (by have := List.length_filter_le (fun x => (wy Fs j h).contains x) (wy Fs i j); omega) (fun P q => l_list (i := 9) rfl (SqL.of gD) q) (fun x => rfl) (fun x => rfl) ?_ ?_
      · intro x D' H'' hx hD' e'' acc R hR
        have e3 := e'.trans e''
        refine ⟨_, rfl, _, rfl, _, rfl, ix_seq_at (i := 0) (hU' (e5.trans e3)) g0 ⟨wa', vs, _, _, rfl, rfl, SqL.of (e3 _ _ gwa), atI_nat v1, _, rfl, ix_seq_at (i := 2) (hU' (e5.trans e3)) g2 ⟨A1, ws, _, _, rfl, rfl, SqL.of (e3 _ _ gA1), atI_nat w3, t3, _, rfl, .inr (SqT.of (e3 _ _ (e05 _ _ ht3))), rfl, flat_iV _, _, rfl, ?_⟩⟩⟩
        show R (inV (iV x) ((wy Fs i h).map iV)) H''
        rw [inV_iff]
        exact hR _ (Evl.Ex.refl _)
      · intro D' H'' hD' e'' gD'
        have em : ((wy Fs i j).filter fun x => (wy Fs j h).contains x).filter (fun x => (wy Fs i h).contains x) = mids Fs i j h := by
          rw [List.filter_filter]
          unfold mids
          exact List.filter_congr fun x _ => Bool.and_comm _ _
        rw [em] at gD'
        obtain ⟨m, l, ml⟩ := w.mids g hi hj hh
        rw [ml] at gD'
        refine ⟨D', _, 0, _, rfl, rfl, SqL.of gD', atI_nat (j := 0) rfl, (by show 2 ≤ sizeLine; decide), ret2 ((e5.trans e').trans e'') (.int _) ?_⟩
        rw [ea]; simp [ansG, ml]
  rw [decide_eq_false (show ¬ V.int (k : Int) = V.int 4 from fun z => k4 (by have := V.int.inj z; omega))]
  refine iteF ?_
  dsimp only [tNext]
  refine seq_at ?_
  refine ⟨_, rfl, rfl, _, rfl, ?_⟩
  by_cases k5 : k = 5
  · rw [decide_eq_true (show V.int (k : Int) = V.int 5 by rw [k5]; rfl)]
    refine iteT ?_
    subst k5
    obtain ⟨h, hh, g2, gd2⟩ := ix 2 (by decide)
    rw [hdj gd2, show natD (.int (h : Int)) = h by simp [natD]] at ea
    refine ⟨_, rfl, ix_seq_at (i := 2) (hU' e5) g2 ⟨_, rfl, t1, _, rfl, .inr (SqT.of gt1), rfl, flat_iV _, (by show 2 ≤ sizeLine; decide), ret2 e5 (.bl _) ?_⟩⟩
    rw [ea]
    show [PyData.str "told", .bool ((wy Fs i j).contains h)] = [.str "told", .bool (inV (iV h) ((wy Fs i j).map iV))]
    rw [inV_iff]
  rw [decide_eq_false (show ¬ V.int (k : Int) = V.int 5 from fun z => k5 (by have := V.int.inj z; omega))]
  refine iteF ?_
  dsimp only [tNext]
  have k6 : k = 6 := by omega
  subst k6
  refine seq_at ?_
  refine ⟨_, rfl, t1, _, rfl, .inr (SqT.of gt1), rfl, _, rfl, ?_⟩
  have ed : decide (V.int (((wy Fs i j).map iV).length : Int) = V.int 2) = decide ((wy Fs i j).length = 2) := by rw [List.length_map]; exact dec_len _ 2
  rw [ed]
  by_cases l2 : (wy Fs i j).length = 2
  · rw [decide_eq_true l2]
    refine iteF ?_
    dsimp only [tNext]
    refine ret_at ?_
    dsimp only [tRet, tLst, tCons, tC, tOp]
    refine lc_filter (i := 10) (List.range n) (fun x => (wy Fs x j).contains i) (by simp; omega) (fun P q => l_list (i := 5) rfl (SqL.of pn) q) (fun x => rfl) (fun x => rfl) ?_ ?_
    · intro x D H' hx hD e' acc R hR
      obtain ⟨A2, ws2, v2, hA2, row2⟩ := hwi x (List.mem_range.mp hx)
      obtain ⟨t2, w2, ht2⟩ := row2 j hj
      refine ⟨_, rfl, ix_seq_at (i := 0) (hU' (e5.trans e')) g0 ⟨_, rfl, _, rfl, wa', vs, _, _, rfl, rfl, SqL.of (e' _ _ gwa), atI_nat v2, _, rfl, ix_seq_at (i := 1) (hU' (e5.trans e')) g1 ⟨A2, ws2, _, _, rfl, rfl, SqL.of (e' _ _ (e05 _ _ hA2)), atI_nat w2, t2, _, rfl, .inr (SqT.of (e' _ _ (e05 _ _ ht2))), rfl, flat_iV _, _, rfl, ?_⟩⟩⟩
      show R (inV (iV i) ((wy Fs x j).map iV)) H'
      rw [inV_iff]
      exact hR _ (Evl.Ex.refl _)
    · intro D H' hD e' gD
      refine ⟨(by show 2 ≤ sizeLine; decide), ret2 (e5.trans e') (.lst (SqL.of gD) (dqs_nums _)) ?_⟩
      rw [ea]; simp [ansG, l2, numsD]
  · rw [decide_eq_false l2]
    refine iteT ?_
    refine ⟨_, rfl, ix_seq_at (i := 0) (hU' e5) g0 ⟨_, rfl, ix_seq_at (i := 1) (hU' e5) g1 ⟨(by show 3 ≤ sizeLine; decide), fun l hl => ?_⟩⟩⟩
    refine q l _ _ (e05.trans (Evl.Ex.new hl)) (Evl.fresh_back e05 hl) upd_same ?_
    rw [ea]
    have : ansG n Fs 6 i j (natD (ds.getD 2 .none)) = [.str "road", intD i, intD j] := by simp [ansG, l2]
    rw [this]
    exact .cons (.str _) (.cons (.int _) (.cons (.int _) .nil))
end

end T1

namespace T1
open PySem PySem.Spec PyProof.Rows L2 G
open Evl (Ex)
local macro_rules | `(tactic| walk_at "dd") => `(tactic| (dsimp only [tCB, tCons, tNil, tC, tOp, tUn, tTest, tB, tVar, tAndV, tOrV, tNotV, tIf, tAnd, tOr, tNot, tSeq, tRet, tRetN, tIfS, tAsg, gName, tDrop, tTup, tLst, tChain, tNext, tCall, L2.start]))
theorem del_mono {H H' : Hp} {A : Addr} (e : Ex (L2.del H A) H') : Ex (L2.del H A) (L2.del H' A) := fun a o z => by
  have ne : a ≠ A := by rintro rfl; rw [del_same] at z; cases z
  rw [del_ne ne]; exact e a o z
theorem del_mono2 {H H' : Hp} {A D : Addr} (e : Ex (L2.del H A) H') : Ex (L2.del (L2.del H D) A) (L2.del (L2.del H' D) A) := fun a o z => by
  have ne : a ≠ A := by rintro rfl; rw [del_same] at z; cases z
  rw [del_ne ne] at z
  have nd : a ≠ D := by rintro rfl; rw [del_same] at z; cases z
  rw [del_ne nd] at z
  rw [del_ne ne, del_ne nd]
  exact e a o (by rw [del_ne ne]; exact z)
theorem un_del {H H' : Hp} {A p : Addr} (e : Ex (L2.del H A) H') (n : H' A ≠ none) (hp : H' p = none) : H p = none ∧ p ≠ A := by
  have ne : p ≠ A := by rintro rfl; exact n hp
  refine ⟨?_, ne⟩
  cases c : H p with
  | none => rfl
  | some o => exact absurd (e p o (by rw [del_ne ne]; exact c)) (by rw [hp]; simp)
theorem BoxAt.upd {H : Hp} {A D : Addr} {c : Nat} {o : HO} (h : BoxAt H A c) (ne : D ≠ A) : BoxAt (upd H D o) A c := let ⟨x, b, y, k, z, r⟩ := h; ⟨x, b, y, k, by rw [upd_ne (Ne.symm ne)]; exact z, r⟩
theorem BoxAt.nn {H : Hp} {A : Addr} {c : Nat} (h : BoxAt H A c) : H A ≠ none := by obtain ⟨l, z⟩ := h.some; rw [z]; simp
/-- a comprehension over what is known only when it is made -/
theorem lc_wi {wi : TI} {g : TG} {tt : TT} {te : TE} {vs : List Nat} {σ : L2.St} {H : Hp} {Q : VK} (C : It → Hp → Prop) (hw : ∀ P : It → Hp → Prop, (∀ J H1, C J H1 → P J H1) → wi σ H P)
    (go : ∀ J H1, C J H1 → ∃ (B : Hp) (n : Nat) (item : Nat → V) (Pv : Addr → Nat → Hp → Prop), ItS J B n item ∧ (∀ D H', Ex H1 H' → H' D = none → Pv D 0 (upd H' D (.lst []))) ∧ (∀ D i H', Pv D i H' → Ex B H') ∧
      (∀ D i H', i < n → Pv D i H' → g (item i) (wipe σ vs) H' fun σ2 H2 => wipe σ2 vs = wipe σ vs ∧ tt σ2 H2 fun b H3 => if b = true then te σ2 H3 fun y H4 => ∃ acc, H4 D = some (.lst acc) ∧ acc.length < sizeLine ∧ Pv D (i + 1) (upd H4 D (.lst (acc ++ [y]))) else Pv D (i + 1) H3) ∧
      ∀ D H', Pv D n H' → Q (.ref D) H') : tLc wi g tt te vs σ H Q :=
  hw _ fun J H1 c => let ⟨_, _, _, Pv, S, h0, he, turn, fin⟩ := go J H1 c; lc_inv (wi := fun _ H P => P J H) (fun _ q => q J H1 (Evl.Ex.refl _) S) Pv h0 he turn fin
theorem f2_mem {α β : Type} {R : α → β → Prop} : ∀ {as : List α} {bs : List β}, F2 R as bs → ∀ b ∈ bs, ∃ a ∈ as, R a b
  | _, _, .nil, b, h => by simp at h
  | _, _, .cons r t, b, h => by
    rcases List.mem_cons.1 h with rfl | h
    · exact ⟨_, List.mem_cons_self, r⟩
    · obtain ⟨a, h1, h2⟩ := f2_mem t b h
      exact ⟨a, List.mem_cons_of_mem _ h1, h2⟩
theorem nth_mem {ys : List V} {z : Nat} (h : z < ys.length) : nth ys z ∈ ys := by
  unfold nth
  rw [List.getElem?_eq_getElem h]
  exact List.getElem_mem h
theorem picks_small : (List.range 17).all (fun n => (pickL n).all fun d => smallB 200 4 d) = true := by decide +kernel
theorem Picked.small {n : Nat} {d : PyData} (h : Picked n d) (n16 : n ≤ 16) : Small 200 4 d := by
  rcases h with ⟨i, hi, rfl⟩ | h
  · exact (Small.nat (by omega)).mono (by decide) (by decide)
  · exact smallB_ok (List.all_eq_true.mp (List.all_eq_true.mp picks_small n (List.mem_range.mpr (by omega))) d h)
/-- what a question is asked of -/
structure ThingsR (K : PySem.W.Frag) (H H' : Hp) (k : Nat) (T : Addr) (ts : List V) (ds : List PyData) : Prop where
  sq : SqL K H' T ts ∨ SqT K H' T ts
  dq : Dqs K H' ts ds
  sm : SmallAll 5000 5 ds
  ln : ts.length ≤ 3
  c7 : k = 7 → 1 ≤ ts.length ∧ (items (ds.headD .none)).length ≤ 20
  cn : k ≠ 7 → 3 ≤ ts.length ∨ (k = 6 ∧ 2 ≤ ts.length)
  ls : k = 7 → ∀ ms, ds.headD .none = .list ms → ∃ L xs, ts = [.ref L] ∧ H L = none ∧ H' L = some (.lst xs) ∧ xs.length ≤ 20 ∧ H' T = some (.lst ts) ∧ T ≠ L
/-- a list of houses that was picked -/
structure SomeR (K : PySem.W.Frag) (H H' : Hp) (A : Addr) (n : Nat) (D : Addr) (ys : List V) : Prop where
  fr : H D = none
  ne : D ≠ A
  at_ : H' D = some (.lst ys)
  ln : ys.length ≤ 4
  it : ∀ v ∈ ys, ∃ d, Dq K (L2.del H' A) v d ∧ Picked n d
theorem SomeR.mono {K : PySem.W.Frag} {H H' H'' : Hp} {A : Addr} {n : Nat} {D : Addr} {ys : List V} (e : Ex (L2.del H' A) H'') (h : SomeR K H H' A n D ys) : SomeR K H H'' A n D ys :=
  ⟨h.fr, h.ne, del_get e h.ne h.at_, h.ln, fun v hv => let ⟨d, h1, h2⟩ := h.it v hv; ⟨d, h1.mono (del_mono e), h2⟩⟩
theorem ThingsR.seven {K : PySem.W.Frag} {H Hc : Hp} {y : V} {d : PyData} {T : Addr} (hT : Hc T = none) (dq : Dq K Hc y d) (sm : Small 5000 5 d) (ln : (items d).length ≤ 20)
    (ls : ∀ ms, d = .list ms → ∃ L xs, y = .ref L ∧ H L = none ∧ Hc L = some (.lst xs) ∧ xs.length ≤ 20) : ThingsR K H (upd Hc T (.lst [y])) 7 T [y] [d] where
  sq := .inl (SqL.of upd_same)
  dq := .cons (dq.mono (Evl.Ex.new hT)) .nil
  sm := fun x hx => by rw [List.mem_singleton] at hx; subst hx; exact sm
  ln := by simp
  c7 := fun _ => ⟨Nat.le_refl _, ln⟩
  cn := fun z => absurd rfl z
  ls := fun _ ms e => by
    obtain ⟨L, xs, rfl, h1, h2, h3⟩ := ls ms e
    exact ⟨L, xs, rfl, h1, Evl.Ex.new hT _ _ h2, h3, upd_same, fun z => by rw [z, h2] at hT; cases hT⟩
theorem rep_mem {ys : List V} {k m : Nat} : ∀ v ∈ cutV (List.replicate k ys).flatten none (some (m : Int)), v ∈ ys := fun v hv => by
  unfold cutV at hv
  obtain ⟨l, h1, h2⟩ := List.mem_flatten.mp (List.mem_of_mem_drop (List.mem_of_mem_take hv))
  rw [List.eq_of_mem_replicate h1] at h2
  exact h2
theorem cut20 (xs : List V) : (cutV xs none (some (20 : Int))).length ≤ 20 := by
  unfold cutV
  rw [List.length_take]
  have : HT.sIx xs.length xs.length (some (20 : Int)) ≤ 20 := by
    show HT.sIx xs.length xs.length (some ((20 : Nat) : Int)) ≤ 20
    unfold HT.sIx
    simp
    omega
  omega
def sp__law_things (K : PySem.W.Frag) : Sp := sp3 fun a b e H Q E => ∃ (A : Addr) (n c k : Nat) (rs : List (Nat × Nat)), a = .ref A ∧ WorldAt K H b n rs ∧ c ≤ 800000 ∧ BoxAt H A c ∧ e = .int (k : Int) ∧ k < 8 ∧
  ∀ T ts ds H', Ex (L2.del H A) H' → BoxAt H' A (c + 12) → ThingsR K H H' k T ts ds → Q (.ref T) H'
section
variable {K : PySem.W.Frag} {mg : Str → Option Value} {P : Program} {w : World} {base : Heap}
theorem ok__law_things (T : Tx K mg) : Cal P w K mg base CX0 3 "_law_things" ["_law_box_here", "_law_world_here", "_law_kind"] (sp__law_things K) := by
  refine cal_of (fD__law_things T) (T.glo 49 rfl) sc__law_things (fun _ _ _ _ _ _ us hl => match us, hl with | [_, _, _], _ => rfl) (fun vs H Q E h => len3 h) (fun f cdv A outer s H vs Q E hr h => ?_)
  obtain ⟨a, b, c, rfl, h⟩ := h
  refine ⟨_, (PSs.nox (pss_cons (ps_if (pt_cmpR op_eq (pv 2) pe_int (nomark _)) (pss_cons (ps_setLc (i := 3) (own := [("_law_turn", 5)]) rfl sc__law_things.nd rfl rfl (sw_true rfl rfl rfl (by decide +kernel)) (pi_range1 (by rfl) (T.free 11 rfl) (pa_cons (pe_c (ok__law_take T) (hr.mono (by decide)) rfl pass0 (pa_cons (pv 0) (pa_cons pe_int pa_nil))) pa_nil)) (blkOk_by (own := [("_law_turn", 5)]) (N := ["_law_box_here", "_law_world_here", "_law_kind", "_law_some", "_law_pair", "_law_turn", "_law_one"]) (sc := defScope st__law_things) (by decide +kernel)) (fun _ _ _ _ _ => (pg_name (i := 5) sc__law_things.nd rfl (Or.inl rfl))) (fun _ _ _ _ _ => pts_nil) (fun _ _ _ _ _ => (pe_c (ok__law_pick T) (hr.mono (by decide)) rfl pass0 (pa_cons (pv 0) (pa_cons (pe_ix (ix_listK (K := K)) (pv 1) pe_int (fun _ _ => rfl)) pa_nil)))))
      (pss_cons (ps_if (pt_cmpR op_gt (pe_c (ok__law_take T) (hr.mono (by decide)) rfl pass0 (pa_cons (pv 0) (pa_cons pe_int pa_nil))) pe_int (nomark _)) (pss_one (ps_setLc (i := 3) (own := [("_law_one", 6)]) rfl sc__law_things.nd rfl rfl (sw_true rfl rfl rfl (by decide +kernel)) (pi_list (pv 3)) (blkOk_by (own := [("_law_one", 6)]) (N := ["_law_box_here", "_law_world_here", "_law_kind", "_law_some", "_law_pair", "_law_turn", "_law_one"]) (sc := defScope st__law_things) (by decide +kernel)) (fun _ _ _ _ _ => (pg_name (i := 6) sc__law_things.nd rfl (Or.inl rfl))) (fun _ _ _ _ _ => (pts_one (pt_val (pe_c (ok__law_index T) (hr.mono (by decide)) rfl pass0 (pa_cons (pv 6) (pa_cons (pe_ix (ix_listK (K := K)) (pv 1) pe_int (fun _ _ => rfl)) pa_nil)))))) (fun _ _ _ _ _ => (pv 6)))) pss_nil)
      (pss_one (ps_ret (pe_lst (pa_cons (pe_ix (ix_listK (K := K)) (pe_lst (pa_cons (pv 3) (pa_cons (pe_callTy (call_tupK (K := K)) (by rfl) (T.free 15 rfl) (by decide +kernel) (pa_cons (pv 3) pa_nil)) (pa_cons (pe_slice (sl_listK (K := K)) (pe_op op_rep (pv 3) pe_int) po_none (po_some pe_int)) (pa_cons (pe_ix (ix_listK (K := K)) (pe_lst (pa_cons pe_non (pa_cons pe_int (pa_cons pe_str (pa_cons pe_dnewK (pa_cons pe_bl pa_nil)))))) (pe_c (ok__law_take T) (hr.mono (by decide)) rfl pass0 (pa_cons (pv 0) (pa_cons pe_int pa_nil))) (fun _ _ => rfl)) pa_nil))))) (pe_c (ok__law_take T) (hr.mono (by decide)) rfl pass0 (pa_cons (pv 0) (pa_cons pe_int pa_nil))) (fun _ _ => rfl)) pa_nil)))))) pss_nil)
      (pss_cons (ps_if (PW.pt (pw_and (pt_cmpR op_eq (pv 2) pe_int (nomark _)) (pw_and (pt_cmpR (op_neNil (K := K) (hu0 hr.r)) (pe_ix (ix_listK (K := K)) (pv 1) pe_int (fun _ _ => rfl)) (pe_lst pa_nil) (nomark _)) (pw_and1 (pt_cmpR op_gt (pe_c (ok__law_take T) (hr.mono (by decide)) rfl pass0 (pa_cons (pv 0) (pa_cons pe_int pa_nil))) pe_int (nomark _)))))) (pss_cons (ps_set (i := 4) sc__law_things.nd rfl (Or.inl rfl) (pe_ix (ix_listK (K := K)) (pe_ix (ix_listK (K := K)) (pv 1) pe_int (fun _ _ => rfl)) (pe_c (ok__law_take T) (hr.mono (by decide)) rfl pass0 (pa_cons (pv 0) (pa_cons (pe_callB (call_lenK (K := K)) (by rfl) (T.free 7 rfl) (by decide +kernel) (pa_cons (pe_ix (ix_listK (K := K)) (pv 1) pe_int (fun _ _ => rfl)) pa_nil)) pa_nil))) (fun _ _ => rfl)))
      (pss_one (ps_ret (pe_ix (ix_listK (K := K)) (pe_lst (pa_cons (pv 4) (pa_cons (pe_tup (pa_cons (pe_ix (ix_tupK (K := K)) (pv 4) pe_int (fun _ _ => rfl)) (pa_cons (pe_ix (ix_tupK (K := K)) (pv 4) pe_int (fun _ _ => rfl)) pa_nil))) pa_nil))) (pe_c (ok__law_take T) (hr.mono (by decide)) rfl pass0 (pa_cons (pv 0) (pa_cons pe_int pa_nil))) (fun _ _ => rfl))))) pss_nil)
      (pss_one (ps_ret (pe_lst (pa_cons (pe_c (ok__law_pick T) (hr.mono (by decide)) rfl pass0 (pa_cons (pv 0) (pa_cons (pe_ix (ix_listK (K := K)) (pv 1) pe_int (fun _ _ => rfl)) pa_nil))) (pa_cons (pe_c (ok__law_pick T) (hr.mono (by decide)) rfl pass0 (pa_cons (pv 0) (pa_cons (pe_ix (ix_listK (K := K)) (pv 1) pe_int (fun _ _ => rfl)) pa_nil))) (pa_cons (pe_c (ok__law_pick T) (hr.mono (by decide)) rfl pass0 (pa_cons (pv 0) (pa_cons (pe_ix (ix_listK (K := K)) (pv 1) pe_int (fun _ _ => rfl)) pa_nil))) pa_nil))))))))), ?_⟩
  obtain ⟨A, n, c, k, rs, rfl, wo, c9, hb, rfl, k8, q⟩ := h
  obtain ⟨W, S, ts, rfl, hW, hS, hts⟩ := wo.at_
  have n1 := wo.ok.n1
  have n16 := wo.ok.n16
  have hAn := hb.nn
  obtain ⟨W', S', ts', eW, hWd, hSd, htd⟩ := (wo.del hb).at_
  cases eW
  have WA : W ≠ A := by rintro rfl; rw [del_same] at hWd; cases hWd
  rw [del_ne WA, hW] at hWd
  cases hWd
  have SA : S ≠ A := by rintro rfl; rw [del_same] at hSd; cases hSd
  rw [del_ne SA, hS] at hSd
  cases hSd
  refine seq_at ?_
  refine ⟨_, rfl, rfl, _, rfl, ?_⟩
  by_cases k7 : k = 7
  · rw [decide_eq_true (show V.int (k : Int) = V.int 7 by rw [k7]; rfl)]
    refine iteT ?_
    refine seq_at (asg_split (fun v H' => ∃ D ys, v = .ref D ∧ Ex (L2.del H A) H' ∧ BoxAt H' A (c + 9) ∧ SomeR K H H' A n D ys) ?_ ?_)
    rotate_left
    · intro R hR
      refine lc_wi (fun J H1 => ∃ i : Nat, J = Itr 0 i ∧ i < 5 ∧ Ex (L2.del H A) H1 ∧ BoxAt H1 A (c + 1)) (fun P r => ⟨_, rfl, _, _, rfl, A, 5, c, rfl, rfl, by decide, by decide, by omega, hb, fun i H1 hi e1 hb1 => ⟨_, rfl, by omega, by omega, r _ _ ⟨i, by rw [show ((i : Int)).toNat = i by omega], hi, e1, hb1⟩⟩⟩) ?_
      rintro _ H1 ⟨i, rfl, hi, e1, hb1⟩
      refine ⟨fun _ => none, i, fun z => .int (0 + (z : Int)), (fun D j H' => Ex (L2.del H A) H' ∧ BoxAt H' A (c + 1 + 2 * j) ∧ H D = none ∧ D ≠ A ∧ ∃ ys, H' D = some (.lst ys) ∧ ys.length ≤ j ∧ ∀ v ∈ ys, ∃ d, Dq K (L2.del (L2.del H' D) A) v d ∧ Picked n d), its_r 0 i, ?_, (fun D j H' _ a o z => by cases z), ?_, ?_⟩
      · intro D H2 e12 hD
        have e2 := e1.trans e12
        have hb2 := hb1.mono e12
        obtain ⟨u1, u2⟩ := un_del e2 hb2.nn hD
        exact ⟨Evl.Ex.mut e2 (by rw [del_ne u2]; exact u1), hb2.upd u2, u1, u2, [], upd_same, Nat.le_refl _, by simp⟩
      · rintro D j H' hj ⟨e, hb', hD, DA, ys, gD, ly, fy⟩
        refine ⟨rfl, ?_⟩
        refine ⟨_, rfl, _, rfl, W, _, 0, _, rfl, rfl, SqL.of (del_get e WA hW), rfl, _, _, rfl, A, n, c + 1 + 2 * j, rfl, rfl, n1, n16, by omega, hb', fun v d H2 e2 hb2 dq far pk => ?_⟩
        refine ⟨ys, del_get e2 DA gD, line_big (by omega), Evl.Ex.mut (ex_of_del e del_same e2) (by rw [del_ne DA]; exact hD), (hb2.upd DA).up (by omega), hD, DA, ys ++ [v], upd_same, by simp; omega, fun u hu => ?_⟩
        rw [del_upd]
        rcases List.mem_append.1 hu with hu | hu
        · obtain ⟨d', h1, h2⟩ := fy u hu
          exact ⟨d', h1.mono (del_mono2 e2), h2⟩
        · rw [List.mem_singleton] at hu
          subst hu
          exact ⟨d, far D A (by rw [gD]; simp) hb'.nn, pk⟩
      · rintro D H' ⟨e, hb', hD, DA, ys, gD, ly, fy⟩
        refine hR _ _ ⟨D, ys, rfl, e, hb'.up (by omega), hD, DA, gD, by omega, fun v hv => ?_⟩
        obtain ⟨d, h1, h2⟩ := fy v hv
        refine ⟨d, h1.mono fun a o z => ?_, h2⟩
        have ne : a ≠ A := by rintro rfl; rw [del_same] at z; cases z
        rw [del_ne ne] at z
        have nd : a ≠ D := by rintro rfl; rw [del_same] at z; cases z
        rw [del_ne nd] at z
        rw [del_ne ne]; exact z
    · rintro _ H1 ⟨D, ys, rfl, e1, hb1, sr⟩
      dsimp only [gName]
      refine seq_at (st_join (fun σ' H' => ∃ D ys s4 s5 s6, σ' = [some (.ref A), some (.ref W), some (.int (k : Int)), some (.ref D), s4, s5, s6] ∧ Ex (L2.del H A) H' ∧ BoxAt H' A (c + 10) ∧ SomeR K H H' A n D ys) ?_ ?_)
      rotate_left
      · intro N hN
        refine ⟨_, rfl, _, _, rfl, A, 3, c + 9, rfl, rfl, by decide, by decide, by omega, hb1, fun i H2 hi e2 hb2 => ⟨_, _, rfl, rfl, _, rfl, ?_⟩⟩
        have sr2 := sr.mono e2
        have e02 := ex_of_del e1 del_same e2
        by_cases i0 : (0 : Int) < (i : Int)
        · rw [decide_eq_true i0]
          refine iteT ?_
          refine asg_at ?_
          obtain ⟨ds, hds, hp⟩ := dqs_some (P := Picked n) ys sr2.it
          refine lc_at (n := ys.length) (item := nth ys) (fun z => isIdx (ds[z]?.getD .none) n) (fun z D y H' => y = nth ys z) (line_big (by have := sr.ln; omega)) (fun P q => l_list (i := 3) rfl (SqL.of sr2.at_) q) (fun _ _ _ _ _ _ h => h) (fun _ _ _ _ _ _ h => h) ?_ ?_
          · rintro z D2 H3 hz hD2 e3 acc Ny Nn hy hn
            obtain ⟨dz, g1, g2⟩ := dqs_nth hds hz
            have ez : (ds[z]?.getD .none) = dz := by rw [g1]; rfl
            refine ⟨rfl, ?_⟩
            refine ⟨_, rfl, _, rfl, W, _, 0, _, rfl, rfl, SqL.of (e3 _ _ (del_get e02 WA hW)), rfl, _, _, rfl, dz, n, (g2.mono Ex.ofDel).mono e3, rfl, _, rfl, ?_⟩
            cases er : isIdx dz n with
            | true => refine iteT ?_; exact ⟨_, rfl, hy _ _ (by rw [ez, er]) (Evl.Ex.refl _) rfl⟩
            | false => refine iteF ?_; exact hn _ (by rw [ez, er]) (Evl.Ex.refl _)
          · intro D2 ys2 H3 hD2 e3 gD2 f
            have eA := un_del e02 hb2.nn hD2
            refine hN _ _ ⟨D2, ys2, _, _, _, rfl, e02.trans e3, hb2.mono e3, eA.1, eA.2, gD2, ?_, fun v hv => ?_⟩
            · have := f.length
              have := List.length_filter_le (fun z => isIdx (ds[z]?.getD .none) n) (List.range ys.length)
              have := sr.ln
              simp only [List.length_range] at *
              omega
            · obtain ⟨z, hz, rfl⟩ := f2_mem f v hv
              obtain ⟨d, h1, h2⟩ := sr2.it _ (nth_mem (List.mem_range.mp (List.mem_filter.mp hz).1))
              exact ⟨d, h1.mono (del_mono (Ex.ofDel.trans e3)), h2⟩
        · rw [decide_eq_false i0]
          refine iteF ?_
          exact hN _ _ ⟨D, ys, _, _, _, rfl, e02, hb2, sr2⟩
      rintro _ H2 ⟨D, ys, s4, s5, s6, rfl, e2, hb2, sr⟩
      dsimp only
      refine ret_at ?_
      have fin : ∀ {Hc : Hp} {y : V} {dy : PyData}, Ex (L2.del H A) Hc → BoxAt Hc A (c + 12) → Dq K Hc y dy → Small 5000 5 dy → (items dy).length ≤ 20 → (∀ ms, dy = .list ms → ∃ L xs, y = .ref L ∧ H L = none ∧ Hc L = some (.lst xs) ∧ xs.length ≤ 20) → ∀ U, Hc U = none → Q (.ref U) (upd Hc U (.lst [y])) := fun {Hc y dy} e hbc dq sm ln ls U hU => by
        have eU := Evl.Ex.new (o := .lst [y]) hU
        exact q U [y] [dy] _ (e.trans eU) (hbc.mono eU) (k7 ▸ ThingsR.seven hU dq sm ln ls)
      refine ⟨_, rfl, _, rfl, D, ys, rfl, .inl ⟨SqL.of sr.at_, fun t ht => ?_⟩⟩
      have x1 := Evl.Ex.new (o := .tup ys) ht
      have tA := (un_del e2 hb2.nn ht).2
      have gt : upd H2 t (.tup ys) t = some (.tup ys) := upd_same
      have e3 := e2.trans x1
      have hb3 := hb2.mono x1
      have sr3 := sr.mono (Ex.ofDel.trans x1)
      generalize upd H2 t (.tup ys) = H3 at gt e3 hb3 sr3 ⊢
      clear x1
      refine ⟨_, rfl, D, 6, ys, rfl, rfl, sr3.at_, by decide, by decide, Nat.le_of_lt (line_big (by have := sr.ln; show ys.length * 6 ≤ 100000; omega)), fun r hr => ?_⟩
      have x1 := Evl.Ex.new (o := .lst (List.replicate (6 : Int).toNat ys).flatten) hr
      have gr : upd H3 r (.lst (List.replicate (6 : Int).toNat ys).flatten) r = some (.lst (List.replicate 6 ys).flatten) := upd_same
      have e4 := e3.trans x1
      have hb4 := hb3.mono x1
      have sr4 := sr3.mono (Ex.ofDel.trans x1)
      replace gt := x1 _ _ gt
      generalize upd H3 r (.lst (List.replicate (6 : Int).toNat ys).flatten) = H4 at gt gr e4 hb4 sr4 ⊢
      clear x1
      refine ⟨20, rfl, r, _, rfl, SqL.of gr, fun p hp => ?_⟩
      generalize hzs : cutV (List.replicate 6 ys).flatten none (some 20) = zs
      have zl : zs.length ≤ 20 := by rw [← hzs]; exact cut20 _
      have zm : ∀ v ∈ zs, v ∈ ys := by rw [← hzs]; exact rep_mem (m := 20)
      have x1 := Evl.Ex.new (o := .lst zs) hp
      have pA := un_del e4 hb4.nn hp
      have gp : upd H4 p (.lst zs) p = some (.lst zs) := upd_same
      have e5 := e4.trans x1
      have hb5 := hb4.mono x1
      have sr5 := sr4.mono (Ex.ofDel.trans x1)
      replace gt := x1 _ _ gt
      generalize upd H4 p (.lst zs) = H5 at gt gp e5 hb5 sr5 ⊢
      clear x1 gr hzs
      refine fun dd hdd => ⟨(by show 5 ≤ sizeLine; decide), fun M hM => ?_⟩
      have x1 := Evl.Ex.new (o := .dK []) hdd
      have x2 := Evl.Ex.new (o := .lst [.non, .int 3, .str "01", .ref dd, .bl true]) hM
      have gd : upd (upd H5 dd (.dK [])) M (.lst [.non, .int 3, .str "01", .ref dd, .bl true]) dd = some (.dK []) := x2 _ _ upd_same
      have gM : upd (upd H5 dd (.dK [])) M (.lst [.non, .int 3, .str "01", .ref dd, .bl true]) M = some (.lst [.non, .int 3, .str "01", .ref dd, .bl true]) := upd_same
      have dA := (un_del e5 hb5.nn hdd).2
      have MA := (un_del (e5.trans x1) (hb5.mono x1).nn hM).2
      have e6 := (e5.trans x1).trans x2
      have hb6 := (hb5.mono x1).mono x2
      have sr6 := sr5.mono (Ex.ofDel.trans (x1.trans x2))
      replace gt := x2 _ _ (x1 _ _ gt)
      replace gp := x2 _ _ (x1 _ _ gp)
      generalize upd (upd H5 dd (.dK [])) M (.lst [.non, .int 3, .str "01", .ref dd, .bl true]) = H6 at gt gp gd gM e6 hb6 sr6 ⊢
      clear x1 x2
      refine ⟨_, rfl, _, _, rfl, A, 5, c + 10, rfl, rfl, by decide, by decide, by omega, hb6, fun j H7 hj e7 hb7 => ?_⟩
      have sr7 := sr6.mono e7
      have e07 := ex_of_del e6 del_same e7
      have gt7 := del_get e7 tA gt
      have gp7 := del_get e7 pA.2 gp
      have gd7 := del_get e7 dA gd
      have gM7 := del_get e7 MA gM
      obtain ⟨x, dx, hx, qx, sx, nx, ix⟩ : ∃ x dx, [V.non, V.int 3, V.str "01", V.ref dd, V.bl true][j]? = some x ∧ Dq K (L2.del H7 A) x dx ∧ smallB 5000 5 dx = true ∧ (∀ ms, dx ≠ .list ms) ∧ items dx = [] := by
        match j, hj with
        | 0, _ => exact ⟨_, _, rfl, .non, by decide +kernel, (fun ms z => by cases z), rfl⟩
        | 1, _ => exact ⟨_, _, rfl, .int _, by decide +kernel, (fun ms z => by cases z), rfl⟩
        | 2, _ => exact ⟨_, _, rfl, .str _, by decide +kernel, (fun ms z => by cases z), rfl⟩
        | 3, _ => exact ⟨_, _, rfl, .dic (by rw [del_ne dA]; exact gd7), by decide +kernel, (fun ms z => by cases z), rfl⟩
        | 4, _ => exact ⟨_, _, rfl, .bl _, by decide +kernel, (fun ms z => by cases z), rfl⟩
      refine ⟨M, _, _, x, rfl, rfl, SqL.of gM7, atI_nat hx, (by show 4 ≤ sizeLine; decide), fun L hL => ?_⟩
      clear gM gM7 gd gd7 gt gp hx sr6 sr5 sr4 sr3 sr e6 e5 e4 e3 hb6 hb5 hb4 hb3
      have x1 := Evl.Ex.new (o := .lst [.ref D, .ref t, .ref p, x]) hL
      have LA := (un_del e07 hb7.nn hL).2
      have gL : upd H7 L (.lst [.ref D, .ref t, .ref p, x]) L = some (.lst [.ref D, .ref t, .ref p, x]) := upd_same
      replace e07 := e07.trans x1
      replace hb7 := hb7.mono x1
      replace sr7 := sr7.mono (Ex.ofDel.trans x1)
      replace gt7 := x1 _ _ gt7
      replace gp7 := x1 _ _ gp7
      replace qx := qx.mono (del_mono (Ex.ofDel.trans x1))
      generalize upd H7 L (.lst [.ref D, .ref t, .ref p, x]) = H8 at gL gt7 gp7 qx e07 hb7 sr7 ⊢
      clear x1
      refine ⟨_, rfl, _, _, rfl, A, 4, c + 11, rfl, rfl, by decide, by decide, by omega, hb7, fun j2 H9 hj2 e9 hb9 => ?_⟩
      have sr9 := sr7.mono e9
      have e09 := ex_of_del e07 del_same e9
      have gt9 := del_get e9 tA gt7
      have gp9 := del_get e9 pA.2 gp7
      have gL9 := del_get e9 LA gL
      have sm9 : ∀ {ds : List PyData}, (∀ d ∈ ds, Picked n d) → SmallAll 200 4 ds := fun h d hd => (h d hd).small n16
      obtain ⟨ds, hds, hp9⟩ := dqs_some (P := Picked n) ys sr9.it
      obtain ⟨es, hes, he9⟩ := dqs_some (P := Picked n) zs fun v hv => sr9.it v (zm v hv)
      have ly := sr9.ln
      have dl := hds.length
      have el := hes.length
      obtain ⟨y, dy, hy, qy, sy, ny, iy⟩ : ∃ y dy, [V.ref D, V.ref t, V.ref p, x][j2]? = some y ∧ Dq K H9 y dy ∧ Small 5000 5 dy ∧ (items dy).length ≤ 20 ∧ ∀ ms, dy = .list ms → ∃ L xs, y = .ref L ∧ H L = none ∧ H9 L = some (.lst xs) ∧ xs.length ≤ 20 := by
        match j2, hj2 with
        | 0, _ => exact ⟨_, .list ds, rfl, .lst (SqL.of sr9.at_) (hds.mono Ex.ofDel), (Small.list (sm9 hp9)).mono (by omega) (by decide), by show ds.length ≤ 20; omega, fun ms z => ⟨D, ys, rfl, sr9.fr, sr9.at_, by omega⟩⟩
        | 1, _ => exact ⟨_, .tuple ds, rfl, .tup (SqT.of gt9) (hds.mono Ex.ofDel), (Small.tuple (sm9 hp9)).mono (by omega) (by decide), by show ds.length ≤ 20; omega, fun ms z => by cases z⟩
        | 2, _ => exact ⟨_, .list es, rfl, .lst (SqL.of gp9) (hes.mono Ex.ofDel), (Small.list (sm9 he9)).mono (by omega) (by decide), by show es.length ≤ 20; omega, fun ms z => ⟨p, zs, rfl, pA.1, gp9, zl⟩⟩
        | 3, _ => exact ⟨_, dx, rfl, qx.mono e9, smallB_ok sx, by rw [ix]; decide, fun ms z => absurd z (nx ms)⟩
      exact ⟨L, _, _, y, rfl, rfl, SqL.of gL9, atI_nat hy, (by show 1 ≤ sizeLine; decide), fin e09 (hb9.up (by omega)) qy sy ny iy⟩
  rw [decide_eq_false (show ¬ V.int (k : Int) = V.int 7 from fun z => k7 (by have := V.int.inj z; omega))]
  refine iteF ?_
  dsimp only [tNext]
  refine seq_at ?_
  refine ifS_split (fun H' => Ex (L2.del H A) H' ∧ BoxAt H' A (c + 1) ∧ k = 6 ∧ rs ≠ []) (fun H' => Ex (L2.del H A) H' ∧ BoxAt H' A (c + 1)) ?_ ?_ ?_
  rotate_left 2
  · intro R hT hF
    refine ⟨_, rfl, rfl, _, rfl, ?_⟩
    by_cases k6 : k = 6
    · rw [decide_eq_true (show V.int (k : Int) = V.int 6 by rw [k6]; rfl)]
      refine iteT ?_
      refine ⟨_, rfl, W, _, 1, _, rfl, rfl, SqL.of hW, rfl, Nat.zero_le _, fun l hl => ?_⟩
      have x1 := Evl.Ex.new (o := .lst []) hl
      refine ⟨S, ts, l, rfl, rfl, SqL.of (x1 _ _ hS), SqL.of upd_same, _, rfl, ?_⟩
      cases ts with
      | nil => exact hF _ ⟨Ex.ofDel.trans x1, (hb.mono x1).up (by omega)⟩
      | cons t0 ts =>
        refine iteT ?_
        refine ⟨_, rfl, _, _, rfl, A, 3, c, rfl, rfl, by decide, by decide, by omega, hb.mono x1, fun i H2 hi e2 hb2 => ⟨_, _, rfl, rfl, _, rfl, ?_⟩⟩
        have e02 := ex_of_del (Ex.ofDel.trans x1) del_same e2
        by_cases i0 : (0 : Int) < (i : Int)
        · rw [decide_eq_true i0]
          exact hT _ ⟨e02, hb2, k6, fun z => by subst z; cases hts⟩
        · rw [decide_eq_false i0]
          exact hF _ ⟨e02, hb2⟩
    · rw [decide_eq_false (show ¬ V.int (k : Int) = V.int 6 from fun z => k6 (by have := V.int.inj z; omega))]
      exact hF _ ⟨Ex.ofDel, hb.up (by omega)⟩
  · rintro H1 ⟨e1, hb1, k6, rne⟩
    have hl1 : 1 ≤ ts.length := by
      cases hts with
      | nil => exact absurd rfl rne
      | cons _ _ => simp
    have tl : ts.length ≤ 16 := by
      obtain ⟨_, _, _, _, pe⟩ := wo.ok.gr
      have := hts.length
      have := pe.length_eq
      rw [List.length_map, List.length_range] at this
      omega
    refine seq_at (asg_at ?_)
    refine ⟨_, rfl, W, _, 1, _, rfl, rfl, SqL.of (del_get e1 WA hW), rfl, _, rfl, _, rfl, W, _, 1, _, rfl, rfl, SqL.of (del_get e1 WA hW), rfl, S, ts, rfl, .inl (SqL.of (del_get e1 SA hS)), _, _, rfl, A, ts.length, c + 1, rfl, rfl, hl1, by omega, by omega, hb1, fun j H2 hj e2 hb2 => ?_⟩
    have e02 := ex_of_del e1 del_same e2
    obtain ⟨p, hp, tr, ev, ht⟩ : ∃ p : Nat × Nat, p ∈ rs ∧ ∃ tr, ts[j]? = some (V.ref tr) ∧ L2.del H A tr = some (.tup [iV p.1, iV p.2]) := by
      obtain ⟨p, h1, tr, h2, h3⟩ := f2_mem htd ts[j] (List.getElem_mem hj)
      exact ⟨p, h1, tr, by rw [List.getElem?_eq_getElem hj, h2], h3⟩
    have small : ∀ x ∈ [intD p.1, intD p.2], Small 5000 5 x := fun x hx => by
      have := wo.ok.good.lt p hp
      rcases List.mem_cons.1 hx with rfl | hx
      · exact (Small.nat (by omega)).mono (by decide) (by decide)
      · rw [List.mem_singleton] at hx
        subst hx
        exact (Small.nat (by omega)).mono (by decide) (by decide)
    refine ⟨S, ts, _, _, rfl, rfl, SqL.of (del_get e02 SA hS), atI_nat ev, ?_⟩
    dsimp only [gName]
    refine ret_at ?_
    have trA : tr ≠ A := by rintro rfl; rw [del_same] at ht; cases ht
    have gt2 := e02 _ _ ht
    refine ⟨_, rfl, _, rfl, tr, _, 1, _, rfl, rfl, SqT.of gt2, rfl, _, rfl, tr, _, 0, _, rfl, rfl, SqT.of gt2, rfl, (by show 2 ≤ sizeLine; decide), fun t2 ht2 => ⟨(by show 2 ≤ sizeLine; decide), fun L hL => ?_⟩⟩
    have x1 := Evl.Ex.new (o := .tup [iV p.2, iV p.1]) ht2
    have x2 := Evl.Ex.new (o := .lst [.ref tr, .ref t2]) hL
    have t2A := (un_del e02 hb2.nn ht2).2
    have LA := (un_del (e02.trans x1) (hb2.mono x1).nn hL).2
    have g2 : upd (upd H2 t2 (.tup [iV p.2, iV p.1])) L (.lst [.ref tr, .ref t2]) t2 = some (.tup [iV p.2, iV p.1]) := x2 _ _ upd_same
    have gL : upd (upd H2 t2 (.tup [iV p.2, iV p.1])) L (.lst [.ref tr, .ref t2]) L = some (.lst [.ref tr, .ref t2]) := upd_same
    have gr := x2 _ _ (x1 _ _ gt2)
    have e3 := (e02.trans x1).trans x2
    have hb3 := (hb2.mono x1).mono x2
    generalize upd (upd H2 t2 (.tup [iV p.2, iV p.1])) L (.lst [.ref tr, .ref t2]) = H3 at g2 gL gr e3 hb3 ⊢
    refine ⟨_, rfl, _, _, rfl, A, 2, c + 2, rfl, rfl, by decide, by decide, by omega, hb3, fun j2 H4 hj2 e4 hb4 => ?_⟩
    have e04 := ex_of_del e3 del_same e4
    have gr4 := del_get e4 trA gr
    have g24 := del_get e4 t2A g2
    have gL4 := del_get e4 LA gL
    match j2, hj2 with
    | 0, _ => exact ⟨L, _, 0, .ref tr, rfl, rfl, SqL.of gL4, rfl, q tr _ _ H4 e04 (hb4.up (by omega)) ⟨.inr (SqT.of gr4), .cons (.int _) (.cons (.int _) .nil), small, (by simp), fun z => absurd z k7, fun _ => .inr ⟨k6, Nat.le_refl _⟩, fun z => absurd z k7⟩⟩
    | 1, _ => exact ⟨L, _, 1, .ref t2, rfl, rfl, SqL.of gL4, rfl, q t2 _ _ H4 e04 (hb4.up (by omega)) ⟨.inr (SqT.of g24), .cons (.int _) (.cons (.int _) .nil), fun x hx => small x (by simp only [List.mem_cons, or_false, List.not_mem_nil] at hx ⊢; exact hx.symm), (by simp), fun z => absurd z k7, fun _ => .inr ⟨k6, Nat.le_refl _⟩, fun z => absurd z k7⟩⟩
  · rintro H1 ⟨e1, hb1⟩
    dsimp only [tNext]
    refine ret_at ?_
    refine ⟨_, rfl, _, rfl, W, _, 0, _, rfl, rfl, SqL.of (del_get e1 WA hW), rfl, _, _, rfl, A, n, c + 1, rfl, rfl, n1, n16, by omega, hb1, fun v1 d1 H2 e2 hb2 _ far1 pk1 => ?_⟩
    have e02 := ex_of_del e1 del_same e2
    have q1 : Dq K (L2.del H2 A) v1 d1 := (far1 A A hb1.nn hb1.nn).mono Ex.ofDel
    refine ⟨_, rfl, _, rfl, W, _, 0, _, rfl, rfl, SqL.of (del_get e02 WA hW), rfl, _, _, rfl, A, n, c + 3, rfl, rfl, n1, n16, by omega, hb2, fun v2 d2 H3 e3 hb3 _ far2 pk2 => ?_⟩
    have e03 := ex_of_del e02 del_same e3
    have q2 : Dq K (L2.del H3 A) v2 d2 := (far2 A A hb2.nn hb2.nn).mono Ex.ofDel
    refine ⟨_, rfl, _, rfl, W, _, 0, _, rfl, rfl, SqL.of (del_get e03 WA hW), rfl, _, _, rfl, A, n, c + 5, rfl, rfl, n1, n16, by omega, hb3, fun v3 d3 H4 e4 hb4 _ far3 pk3 => ⟨(by show 3 ≤ sizeLine; decide), fun U hU => ?_⟩⟩
    have e04 := ex_of_del e03 del_same e4
    have eU := Evl.Ex.new (o := .lst [v1, v2, v3]) hU
    have q3 : Dq K (L2.del H4 A) v3 d3 := (far3 A A hb3.nn hb3.nn).mono Ex.ofDel
    refine q U [v1, v2, v3] [d1, d2, d3] _ (e04.trans eU) ((hb4.mono eU).up (by omega)) ⟨.inl (SqL.of upd_same), .cons (((q1.mono (del_mono e3)).mono e4).mono eU) (.cons ((q2.mono e4).mono eU) (.cons ((q3.mono Ex.ofDel).mono eU) .nil)), ?_, Nat.le_refl _, fun z => absurd z k7, fun _ => .inl (Nat.le_refl _), fun z => absurd z k7⟩
    intro x hx
    simp only [List.mem_cons, or_false, List.not_mem_nil] at hx
    rcases hx with rfl | rfl | rfl
    · exact (pk1.small n16).mono (by decide) (by decide)
    · exact (pk2.small n16).mono (by decide) (by decide)
    · exact (pk3.small n16).mono (by decide) (by decide)
end

end T1

namespace T1
open PySem PySem.Spec PyProof.Rows L2 G
open Evl (Ex)
local macro_rules | `(tactic| walk_at "dd") => `(tactic| (dsimp only [tCB, tCons, tNil, tC, tOp, tUn, tTest, tB, tVar, tAndV, tOrV, tNotV, tIf, tAnd, tOr, tNot, tSeq, tRet, tRetN, tIfS, tAsg, gName, tDrop, tTup, tLst, tChain, tNext, tCall, L2.start]))
theorem nats_small {l : List Nat} {n : Nat} (h : ∀ x ∈ l, x < n) (ll : l.length ≤ 16) (n16 : n ≤ 16) : SmallAll 8 1 (l.map intD) := fun d hd => by
  obtain ⟨x, hx, rfl⟩ := List.mem_map.mp hd
  exact Small.nat (by have := h x hx; omega)
theorem nums_small {l : List Nat} {n : Nat} (h : ∀ x ∈ l, x < n) (ll : l.length ≤ 16) (n16 : n ≤ 16) : Small 5000 5 (numsD l) :=
  (Small.list (nats_small h ll n16)).mono (by rw [List.length_map]; omega) (by decide)
theorem row_small {l : List Nat} {n : Nat} (h : ∀ x ∈ l, x < n) (ll : l.length ≤ 16) (n16 : n ≤ 16) : Small 5000 5 (rowD l) :=
  (Small.tuple (nats_small h ll n16)).mono (by rw [List.length_map]; omega) (by decide)
theorem filt_small {n : Nat} (f : Nat → Bool) (n16 : n ≤ 16) : Small 5000 5 (numsD ((List.range n).filter f)) :=
  nums_small (n := n) (fun x hx => List.mem_range.mp (List.mem_filter.mp hx).1) (by have := List.length_filter_le f (List.range n); rw [List.length_range] at this; omega) n16
theorem strs_small : (["told", "list", "house", "road"] : List Str).all (fun z => smallB 5000 5 (.str z)) = true := by decide +kernel
theorem str_small {z : Str} (h : z ∈ (["told", "list", "house", "road"] : List Str)) : Small 5000 5 (.str z) := smallB_ok (List.all_eq_true.mp strs_small z h)
theorem neg_small : Small 5000 5 (.int (-1)) := smallB_ok (by decide +kernel)
theorem int_small {k : Nat} (h : k < 128) : Small 5000 5 (.int (k : Int)) := (Small.nat h).mono (by decide) (by decide)
theorem bl_small (b : Bool) : Small 5000 5 (.bool b) := smallB_ok (by cases b <;> decide +kernel)
theorem all_two {P : PyData → Prop} {a b : PyData} (h1 : P a) (h2 : P b) : ∀ x ∈ [a, b], P x := fun x hx => by
  rcases List.mem_cons.1 hx with rfl | hx
  · exact h1
  · rw [List.mem_singleton] at hx; subst hx; exact h2
theorem head_mem {ds : List PyData} (h : 1 ≤ ds.length) : ds.headD .none ∈ ds := by
  cases ds with
  | nil => simp at h
  | cons d ds => simp
theorem natD_lt {d : PyData} {n : Nat} (h : isIdx d n = true) : natD d < n := by
  obtain ⟨i, rfl, hi⟩ := idx_nat h
  show ((i : Int)).toNat < n
  omega
theorem ansE_small {n : Nat} {rs : List (Nat × Nat)} {Fs : List (List (List Nat))} {k : Nat} {ds : List PyData} (w : WaysOk n rs Fs) (g : TreeG n rs) (n16 : n ≤ 16) (k8 : k < 8) (sm : SmallAll 5000 5 ds) (cn : k ≠ 7 → cntK k ≤ ds.length) (c7 : k = 7 → 1 ≤ ds.length) :
    SmallAll 5000 5 (ansE n Fs k ds) ∧ (ansE n Fs k ds).length ≤ 3 ∧ ∃ z d r, ansE n Fs k ds = .str z :: d :: r ∧ (z = "road" ∨ r = []) ∧ (z = "list" → k = 7) := by
  have told : ∀ {d}, Small 5000 5 d → SmallAll 5000 5 [.str "told", d] ∧ [PyData.str "told", d].length ≤ 3 ∧ ∃ z e r, [PyData.str "told", d] = .str z :: e :: r ∧ (z = "road" ∨ r = []) ∧ (z = "list" → k = 7) := fun s =>
    ⟨all_two (str_small (by simp)) s, by simp, _, _, _, rfl, .inr rfl, fun e => absurd e (by decide)⟩
  unfold ansE
  by_cases k7 : k = 7
  · rw [if_pos k7]
    by_cases c : areIdx (ds.headD .none) n = true
    · rw [if_pos c]; exact told (filt_small _ n16)
    · rw [if_neg c]
      exact ⟨all_two (str_small (by simp)) (sm _ (head_mem (c7 k7))), by simp, _, _, _, rfl, .inr rfl, fun _ => k7⟩
  · rw [if_neg k7]
    have cn := cn k7
    cases e : (ds.take (cntK k)).find? fun d => !isIdx d n with
    | some d => exact ⟨all_two (str_small (by simp)) (sm _ (List.mem_of_mem_take (List.mem_of_find?_eq_some e))), by simp, _, _, _, rfl, .inr rfl, fun e => absurd e (by decide)⟩
    | none =>
      have ok : ∀ m, m < cntK k → natD (ds.getD m .none) < n := fun m hm => by
        have hl : m < ds.length := by omega
        have z := List.find?_eq_none.mp e ds[m] (by rw [List.mem_iff_getElem]; exact ⟨m, by rw [List.length_take]; omega, by rw [List.getElem_take]⟩)
        have ez : ds.getD m .none = ds[m] := by rw [List.getD_eq_getElem?_getD, List.getElem?_eq_getElem hl]; rfl
        rw [ez]
        refine natD_lt ?_
        cases q : isIdx ds[m] n with
        | true => rfl
        | false => rw [q] at z; exact absurd rfl z
      have eh : ds.headD .none = ds.getD 0 .none := by cases ds <;> rfl
      rw [eh]
      have way : 2 ≤ cntK k → (∀ x ∈ wy Fs (natD (ds.getD 0 .none)) (natD (ds.getD 1 .none)), x < n) ∧ (wy Fs (natD (ds.getD 0 .none)) (natD (ds.getD 1 .none))).length ≤ 16 := fun h => by
        have h0 := ok 0 (by omega)
        have p := w.path g h0 (ok 1 (by omega))
        have l := nodup_len p.nd (path_lt p h0)
        exact ⟨path_lt p h0, by omega⟩
      have h0 := ok 0
      have h1 := ok 1
      clear ok
      generalize natD (ds.getD 0 .none) = i at h0 way ⊢
      generalize natD (ds.getD 1 .none) = j at h1 way ⊢
      generalize natD (ds.getD 2 .none) = h
      rcases (show k = 0 ∨ k = 1 ∨ k = 2 ∨ k = 3 ∨ k = 4 ∨ k = 5 ∨ k = 6 by omega) with rfl | rfl | rfl | rfl | rfl | rfl | rfl
      · exact told (filt_small _ n16)
      · exact told (filt_small _ n16)
      · exact told (row_small (way (by decide)).1 (way (by decide)).2 n16)
      · refine told ?_
        have l := (way (by decide)).2
        by_cases z : (wy Fs i j).length = 0
        · rw [z]; exact neg_small
        · rw [show ((wy Fs i j).length - 1 : Int) = (((wy Fs i j).length - 1 : Nat) : Int) by omega]
          exact int_small (by omega)
      · refine told (int_small ?_)
        cases z : mids Fs i j h with
        | nil => decide
        | cons x l =>
          have m : x ∈ mids Fs i j h := by rw [z]; exact List.mem_cons_self
          have := (way (by decide)).1 x (List.mem_filter.mp m).1
          show x < 128
          omega
      · exact told (bl_small _)
      · show SmallAll 5000 5 (if (wy Fs i j).length = 2 then _ else _) ∧ _
        have a := h0 (by decide)
        have b := h1 (by decide)
        unfold ansG
        by_cases z : (wy Fs i j).length = 2
        · rw [if_pos z]
          exact told (filt_small _ n16)
        · rw [if_neg z]
          refine ⟨fun x hx => ?_, by simp, _, _, _, rfl, .inl rfl, fun e => absurd e (by decide)⟩
          simp only [List.mem_cons, or_false, List.not_mem_nil] at hx
          rcases hx with rfl | rfl | rfl
          · exact str_small (by simp)
          · exact int_small (by omega)
          · exact int_small (by omega)
/-- the law's ways, all rows of n items -/
def WaysL (H : Hp) (w : V) (n : Nat) (Fs : List (List (List Nat))) : Prop := ∃ a vs, w = .ref a ∧ H a = some (.lst vs) ∧ vs.length = n ∧ ∀ i, i < n → ∃ A ws, vs[i]? = some (.ref A) ∧ H A = some (.lst ws) ∧ ws.length = n ∧ ∀ j, j < n → ∃ t, ws[j]? = some (.ref t) ∧ H t = some (.tup ((wy Fs i j).map iV))
theorem WaysL.mono {H H' : Hp} {w : V} {n : Nat} {Fs} (e : Ex H H') (h : WaysL H w n Fs) : WaysL H' w n Fs := by
  obtain ⟨a, vs, h1, h2, h3, h4⟩ := h
  refine ⟨a, vs, h1, e _ _ h2, h3, fun i hi => ?_⟩
  obtain ⟨A, ws, g1, g2, g3, g4⟩ := h4 i hi
  refine ⟨A, ws, g1, e _ _ g2, g3, fun j hj => ?_⟩
  obtain ⟨t, t1, t2⟩ := g4 j hj
  exact ⟨t, t1, e _ _ t2⟩
theorem WaysL.at_ {H : Hp} {w : V} {n : Nat} {Fs} (h : WaysL H w n Fs) : WaysAt H w n Fs := by
  obtain ⟨a, vs, h1, h2, h3, h4⟩ := h
  refine ⟨a, vs, h1, h2, fun i hi => ?_⟩
  obtain ⟨A, ws, g1, g2, g3, g4⟩ := h4 i hi
  exact ⟨A, ws, g1, g2, g4⟩
theorem WaysL.rows {H : Hp} {w : V} {n : Nat} {Fs} (h : WaysL H w n Fs) : RowsAt H w n := by
  obtain ⟨a, vs, h1, h2, h3, h4⟩ := h
  intro a' vs' i A' ws' e1 e2 e3 e4
  rw [h1] at e1; cases e1
  rw [h2] at e2; cases e2
  obtain ⟨hi, -⟩ := List.getElem?_eq_some_iff.mp e3
  obtain ⟨A, ws, g1, g2, g3, g4⟩ := h4 i (by omega)
  rw [g1] at e3; cases e3
  rw [g2] at e4; cases e4
  exact g3
/-- a tree, the world it was made of, and the law's ways -/
structure TrioAt (K : PySem.W.Frag) (H : Hp) (s : Addr) (wv yv : V) (n : Nat) (rs : List (Nat × Nat)) (Fs : List (List (List Nat))) : Prop where
  tr : TreeAt K H s n rs Fs
  wo : WorldAt K H wv n rs
  wa : WaysL H yv n Fs
theorem TrioAt.mono {K : PySem.W.Frag} {H H' : Hp} {s : Addr} {wv yv : V} {n : Nat} {rs Fs} (e : Ex H H') (h : TrioAt K H s wv yv n rs Fs) : TrioAt K H' s wv yv n rs Fs := ⟨h.tr.mono e, h.wo.mono e, h.wa.mono e⟩
theorem TrioAt.g {K : PySem.W.Frag} {H : Hp} {s : Addr} {wv yv : V} {n : Nat} {rs Fs} (h : TrioAt K H s wv yv n rs Fs) : TreeG n rs := TreeG.of h.wo.ok.gr
theorem dqs_head {K : PySem.W.Frag} {H : Hp} {vs : List V} {z : Str} {d : PyData} {r : List PyData} (h : Dqs K H vs (.str z :: d :: r)) : ∃ x rest, vs = .str z :: x :: rest ∧ Dq K H x d ∧ Dqs K H rest r := by
  cases h with
  | cons a b =>
    cases a
    cases b with
    | cons qx qr => exact ⟨_, _, rfl, qx, qr⟩
/-- repr of a list that was told -/
theorem told_repr {K : PySem.W.Frag} {H : Hp} {l : Addr} {vs : List V} {es : List PyData} {Q : VK} (g : H l = some (.lst vs)) (q : Dqs K H vs es) (s : SmallAll 5000 5 es) (ln : es.length ≤ 20) (k : Q (.str (PyData.list es).shown) H) : rRepr K [.ref l] H Q :=
  rRepr_of (.lst (SqL.of g) q) (Small.list s) (by omega) (by decide) k
/-- the things asked of, as one value -/
theorem things_dq {K : PySem.W.Frag} {H : Hp} {U : Addr} {ts : List V} {ds : List PyData} (sq : SqL K H U ts ∨ SqT K H U ts) (dq : Dqs K H ts ds) (sm : SmallAll 5000 5 ds) (ln : ds.length ≤ 20) : ∃ d, (∀ H', Ex H H' → Dq K H' (.ref U) d) ∧ Small 120000 6 d := by
  rcases sq with sq | sq
  · exact ⟨.list ds, fun H' e => .lst (Evl.ex_l e sq) (dq.mono e), (Small.list sm).mono (by omega) (by decide)⟩
  · exact ⟨.tuple ds, fun H' e => .tup (Evl.ex_t e sq) (dq.mono e), (Small.tuple sm).mono (by omega) (by decide)⟩
theorem cnt3 {k : Nat} (h : k < 8) : cntK k ≤ 3 := by
  rcases (show k = 0 ∨ k = 1 ∨ k = 2 ∨ k = 3 ∨ k = 4 ∨ k = 5 ∨ k = 6 ∨ k = 7 by omega) with rfl | rfl | rfl | rfl | rfl | rfl | rfl | rfl <;> decide
theorem dqs_nil {K : PySem.W.Frag} {H : Hp} {vs : List V} (h : Dqs K H vs []) : vs = [] := by cases h; rfl
def sp__law_questions_right (K : PySem.W.Frag) : Sp := sp5 fun a b c d e H Q E => ∃ (A s : Addr) (n : Nat) (rs : List (Nat × Nat)) (Fs : List (List (List Nat))) (c0 tn : Nat), a = .ref A ∧ b = .ref s ∧ TrioAt K (L2.del H A) s c d n rs Fs ∧ e = .int (tn : Int) ∧ tn ≤ 16 ∧ c0 ≤ 400000 ∧ BoxAt H A c0 ∧
  ∀ H', Ex (L2.del H A) H' → BoxAt H' A (c0 + 13 * tn) → Q (.bl true) H'
section
variable {K : PySem.W.Frag} {mg : Str → Option Value} {P : Program} {w : World} {base : Heap}
theorem ok__law_questions_right (T : Tx K mg) : Cal P w K mg base CX0 9 "_law_questions_right" ["_law_box_here", "_law_web", "_law_world_here", "_law_ways", "_law_turns"] (sp__law_questions_right K) := by
  refine cal_of (fD__law_questions_right T) (T.glo 50 rfl) sc__law_questions_right (fun _ _ _ _ _ _ us hl => match us, hl with | [_, _, _, _, _], _ => rfl) (fun vs H Q E h => len5 h) (fun f cdv A outer s H vs Q E hr h => ?_)
  obtain ⟨a, b, c, d, e, rfl, h⟩ := h
  refine ⟨_, (PSs.nox (pss_cons (ps_for PassesOwn.never rfl (pi_range1 (by rfl) (T.free 11 rfl) (pa_cons (pv 4) pa_nil)) (pg_name (i := 5) sc__law_questions_right.nd rfl (Or.inl rfl)) (pss_cons (ps_set (i := 6) sc__law_questions_right.nd rfl (Or.inl rfl) (pe_c (ok__law_take T) (hr.mono (by decide)) rfl pass0 (pa_cons (pv 0) (pa_cons pe_int pa_nil))))
      (pss_cons (ps_set (i := 7) sc__law_questions_right.nd rfl (Or.inl rfl) (pe_c (ok__law_things T) (hr.mono (by decide)) rfl pass0 (pa_cons (pv 0) (pa_cons (pv 2) (pa_cons (pe_op op_mod (pv 6) pe_int) pa_nil)))))
      (pss_cons (ps_par (i := 8) (j := 9) rfl sc__law_questions_right.nd rfl rfl (by decide) rfl rfl (pa_cons (pe_callB (call_reprK (K := K) T.sm hr.g (hu64 hr.r)) (by rfl) (T.free 12 rfl) (by decide +kernel) (pa_cons (pe_c (ok__law_due T) (hr.mono (by decide)) rfl pass0 (pa_cons (pv 2) (pa_cons (pv 3) (pa_cons (pe_op op_mod (pv 6) pe_int) (pa_cons (pv 7) pa_nil))))) pa_nil)) (pa_cons (pe_callB (call_reprK (K := K) T.sm hr.g (hu64 hr.r)) (by rfl) (T.free 12 rfl) (by decide +kernel) (pa_cons (pv 7) pa_nil)) pa_nil)) (by rfl))
      (pss_cons (ps_for PassesOwn.never rfl (pi_range1 (by rfl) (T.free 11 rfl) (pa_cons pe_int pa_nil)) (pg_name (i := 10) sc__law_questions_right.nd rfl (Or.inl rfl)) (pss_cons (ps_set (i := 11) sc__law_questions_right.nd rfl (Or.inl rfl) (pe_c (ok__law_asked T) (hr.mono (by decide)) rfl pass0 (pa_cons (pv 1) (pa_cons (pv 6) (pa_cons (pv 7) pa_nil)))))
      (pss_cons (ps_if (PW.pt (pw_or (pt_cmpR op_ne (pe_callB (call_reprK (K := K) T.sm hr.g (hu64 hr.r)) (by rfl) (T.free 12 rfl) (by decide +kernel) (pa_cons (pv 11) pa_nil)) (pv 8) (nomark _)) (pw_or1 (pt_cmpR op_ne (pe_callB (call_reprK (K := K) T.sm hr.g (hu64 hr.r)) (by rfl) (T.free 12 rfl) (by decide +kernel) (pa_cons (pv 7) pa_nil)) (pv 9) (nomark _))))) (pss_one (ps_ret pe_bl)) pss_nil)
      (pss_one (ps_if (PW.pt (pw_and (pt_cmpR op_eq (pe_ix (ix_listK (K := K)) (pv 11) pe_int (fun _ _ => rfl)) pe_str (nomark _)) (pw_and1 (pt_val (pe_callB (call_isiK' (K := K)) (by rfl) (T.free 6 rfl) (by decide +kernel) (pa_cons (pe_ix (ix_listK (K := K)) (pv 11) pe_int (fun _ _ => rfl)) (pa_cons (pe_bltn (v := .ty "list") (u := .type "list") (by rfl) (T.free 8 rfl) (by decide +kernel) rfl) pa_nil))))))) (pss_one (ps_expr (pe_bm PySem.F.plainAttrs_list PySem.F.slot_list_append PySem.F.type_list_append mt_append (pe_ix (ix_listK (K := K)) (pv 11) pe_int (fun _ _ => rfl)) (pa_cons (pe_un un_neg pe_int) pa_nil)))) pss_nil)))))
      (pss_one (ps_if (PW.pt (pw_and (pt_cmpR op_eq (pe_ix (ix_listK (K := K)) (pv 11) pe_int (fun _ _ => rfl)) pe_str (nomark _)) (pw_and1 (pt_val (pe_callB (call_isiK' (K := K)) (by rfl) (T.free 6 rfl) (by decide +kernel) (pa_cons (pe_ix (ix_seqK (K := K)) (pv 7) pe_int (fun _ _ => rfl)) (pa_cons (pe_bltn (v := .ty "list") (u := .type "list") (by rfl) (T.free 8 rfl) (by decide +kernel) rfl) pa_nil))))))) (pss_cons (ps_expr (pe_bm PySem.F.plainAttrs_list PySem.F.slot_list_append PySem.F.type_list_append mt_append (pe_ix (ix_seqK (K := K)) (pv 7) pe_int (fun _ _ => rfl)) (pa_cons pe_str pa_nil)))
      (pss_one (ps_if (pt_cmpR (op_neSelf (K := K) (hu0 hr.r)) (pe_ix (ix_listK (K := K)) (pv 11) pe_int (fun _ _ => rfl)) (pe_ix (ix_seqK (K := K)) (pv 7) pe_int (fun _ _ => rfl)) (nomark _)) (pss_one (ps_ret pe_bl)) pss_nil))) pss_nil)))))))
      (pss_one (ps_ret pe_bl)))), ?_⟩
  obtain ⟨A, s0, n, rs, Fs, c0, tn, rfl, rfl, tr, rfl, tn16, c9, hb, q⟩ := h
  have n16 := tr.wo.ok.n16
  have w := tr.tr.ways
  have g := tr.g
  refine seq_at ?_
  refine for_at (B := fun _ => none) (n := tn) (item := fun i => .int (0 + i)) (fun P q => ⟨_, rfl, _, rfl, by omega, by omega, (by rw [show ((tn : Int)).toNat = tn by omega]; exact q _ _ (Evl.Ex.refl _) (its_r 0 tn))⟩) (fun j σ' H' => (∃ s5 s6 s7 s8 s9 s10 s11, σ' = [some (.ref A), some (.ref s0), some c, some d, some (.int (tn : Int)), s5, s6, s7, s8, s9, s10, s11]) ∧ Ex (L2.del H A) H' ∧ BoxAt H' A (c0 + 13 * j)) ?_ (fun _ _ _ _ a o z => by cases z) ?_ ?_
  · exact fun H1 e1 => ⟨⟨none, none, none, none, none, none, none, rfl⟩, Ex.ofDel.trans e1, (hb.mono e1).up (by omega)⟩
  · rintro j σ' H1 hj ⟨⟨s5, s6, s7, s8, s9, s10, s11, rfl⟩, e1, hb1⟩
    dsimp only [gName]
    refine seq_at (asg_at ?_)
    refine ⟨_, rfl, _, _, rfl, A, 16, c0 + 13 * j, rfl, rfl, by decide, by decide, by omega, hb1, fun kk H2 hk e2 hb2 => ?_⟩
    have e02 := ex_of_del e1 del_same e2
    dsimp only [gName]
    refine seq_at (asg_at ?_)
    have tr2 := tr.mono e02
    refine ⟨_, rfl, _, rfl, _, rfl, _, 8, rfl, rfl, (by show (0 : Int) < 8; decide), _, _, _, rfl, A, n, c0 + 13 * j + 1, kk % 8, rs, rfl, tr2.wo, by omega, hb2, rfl, by omega, fun U ts ds H3 e3 hb3 th => ?_⟩
    have e03 := ex_of_del e02 del_same e3
    have tr3 := tr.mono e03
    have k8 : kk % 8 < 8 := Nat.mod_lt _ (by decide)
    have dl := th.dq.length
    have tl := th.ln
    have c7 : kk % 8 = 7 → 1 ≤ ts.length ∧ (items (ds.headD .none)).length ≤ 20 := th.c7
    have cn : kk % 8 ≠ 7 → cntK (kk % 8) ≤ ts.length := fun z => by
      rcases th.cn z with h | ⟨h, h'⟩
      · exact Nat.le_trans (cnt3 k8) h
      · rw [h]; exact h'
    obtain ⟨sm, ln, z, dd, r, shape, zr, zk⟩ := ansE_small w g n16 k8 th.sm (fun z => by rw [← dl]; exact cn z) (fun z => by rw [← dl]; exact (c7 z).1)
    obtain ⟨dT, hdT, smT⟩ := things_dq th.sq th.dq th.sm (by omega)
    dsimp only [gName]
    refine seq_at ?_
    refine ⟨_, rfl, _, rfl, _, rfl, _, 8, rfl, rfl, (by show (0 : Int) < 8; decide), _, rfl, _, _, _, _, rfl, n, rs, Fs, U, ts, ds, kk % 8, tr3.wo, tr3.wa.at_, w, tr3.wa.rows, g, rfl, k8, rfl, th.sq, th.dq, fun z => ⟨(c7 z).1, Nat.le_trans (c7 z).2 (by decide)⟩, cn, fun l H4 vs e4 hl4 g4 q4 => ?_⟩
    dsimp only [tNil]
    refine told_repr g4 q4 sm (by omega) ?_
    refine ⟨_, rfl, ?_⟩
    dsimp only [tNil]
    refine rRepr_of (hdT _ e4) smT (by decide) (by decide) ?_
    refine ⟨_, _, rfl, ?_⟩
    try dsimp only
    generalize e81 : (PyData.list (ansE n Fs (kk % 8) ds)).shown = S1
    generalize e82 : dT.shown = S2
    show tSeq _ _ _ [some (.ref A), some (.ref s0), some c, some d, some (.int (tn : Int)), some (.int (0 + (j : Int))), some (.int (kk : Int)), some (.ref U), some (.str S1), some (.str S2), s10, s11] H4
    have e04 := e03.trans e4
    have hb4 := hb3.mono e4
    have sq5 : ∀ {H5}, Ex H4 H5 → SqL K H5 U ts ∨ SqT K H5 U ts := fun e5 => th.sq.imp (Evl.ex_l (e4.trans e5)) (Evl.ex_t (e4.trans e5))
    refine seq_at ?_
    refine for_at (B := fun _ => none) (n := 2) (item := fun i => .int (0 + i)) (fun P q => ⟨_, rfl, by decide, by decide, q _ _ (Evl.Ex.refl _) (its_r 0 2)⟩) (fun i σ' H' => (∃ s10 s11, σ' = [some (.ref A), some (.ref s0), some c, some d, some (.int (tn : Int)), some (.int (0 + (j : Int))), some (.int (kk : Int)), some (.ref U), some (.str S1), some (.str S2), s10, s11] ∧ (0 < i → ∃ l x rest, s11 = some (.ref l) ∧ H4 l = none ∧ H' l = some (.lst (.str z :: x :: rest)) ∧ (z = "list" → ts.head? = some x))) ∧ Ex H4 H') ?_ (fun _ _ _ _ a o z => by cases z) ?_ ?_
    · exact fun H5 e5 => ⟨⟨s10, s11, rfl, fun z => absurd z (by decide)⟩, e5⟩
    · rintro i σ' H5 hi ⟨⟨s10, s11, rfl, -⟩, e5⟩
      dsimp only [gName]
      have e45 := e4.trans e5
      refine seq_at (asg_at ?_)
      refine ⟨_, rfl, _, rfl, _, rfl, _, _, _, rfl, s0, U, n, rs, Fs, ts, ds, kk, rfl, (tr3.mono e45).tr, g, rfl, by omega, rfl, sq5 e5, th.dq.mono e45, fun z => ⟨(c7 z).1, Nat.le_trans (c7 z).2 (by decide)⟩, cn, fun l H6 vs e6 hl6 g6 o6 => ?_⟩
      have q6 := o6.dq
      rw [shape] at q6
      obtain ⟨x, rest, rfl, qx, qr⟩ := dqs_head q6
      have lis : z = "list" → ts.head? = some x := fun e => by
        rcases zr with rfl | rfl
        · exact absurd e (by decide)
        · have := dqs_nil qr
          subst this
          subst e
          exact o6.lis x rfl
      have hl4 : H4 l = none := Evl.fresh_back e5 hl6
      dsimp only [gName]
      refine seq_at ?_
      refine ⟨_, rfl, ?_⟩
      dsimp only [tNil]
      refine told_repr g6 o6.dq sm (by omega) ?_
      refine ⟨_, rfl, rfl, _, rfl, ?_⟩
      rw [e81, decide_eq_true rfl]
      refine iteF ?_
      refine ⟨_, rfl, ?_⟩
      dsimp only [tNil]
      refine rRepr_of (hdT _ ((e4.trans e5).trans e6)) smT (by decide) (by decide) ?_
      refine ⟨_, rfl, rfl, _, rfl, ?_⟩
      rw [e82, decide_eq_true rfl]
      refine iteF ?_
      dsimp only [tNext]
      refine ⟨_, rfl, l, _, 0, .str z, rfl, rfl, SqL.of g6, atI_nat (j := 0) rfl, rfl, _, rfl, ?_⟩
      by_cases zt : z = "told"
      · rw [decide_eq_true (show V.str z = V.str "told" by rw [zt])]
        refine iteT ?_
        refine ⟨_, rfl, l, _, 1, x, rfl, rfl, SqL.of g6, atI_nat (j := 1) rfl, ?_⟩
        dsimp only [tCons, tNil, tC]
        refine isi_list qx ⟨_, rfl, ?_⟩
        cases il : isT "list" dd with
        | false =>
          refine iteF ?_
          exact ⟨⟨_, _, rfl, fun _ => ⟨l, x, rest, rfl, hl4, g6, lis⟩⟩, e5.trans e6⟩
        | true =>
          refine iteT ?_
          have r0 : r = [] := by
            rcases zr with e | e
            · rw [zt] at e; exact absurd e (by decide)
            · exact e
          subst r0
          have := dqs_nil qr
          subst this
          rcases o6.told x (by rw [zt]) with ⟨y, ns, rfl, gy, fy, yl, ny⟩ | ⟨d', ed, nl⟩
          · refine ⟨_, rfl, l, _, 1, _, rfl, rfl, SqL.of g6, atI_nat (j := 1) rfl, .inl ⟨rfl, ns, SqL.of gy⟩, 1, rfl, y, ns, _, rfl, rfl, gy, line_big (by omega), ?_⟩
            refine ⟨⟨_, _, rfl, fun _ => ⟨l, _, [], rfl, hl4, ?_, lis⟩⟩, Evl.Ex.mut (e5.trans e6) (Evl.fresh_back e5 fy)⟩
            rw [upd_ne (Ne.symm yl)]; exact g6
          · rw [shape] at ed
            injection ed with _ ed
            injection ed with ed _
            rw [ed, nl] at il; cases il
      · rw [decide_eq_false (show ¬ V.str z = V.str "told" from fun e => zt (by injection e))]
        refine iteF ?_
        exact ⟨⟨_, _, rfl, fun _ => ⟨l, x, rest, rfl, hl4, g6, lis⟩⟩, e5.trans e6⟩
    · rintro σ' H5 ⟨⟨s10', s11', rfl, lp⟩, e5⟩
      obtain ⟨l, x, rest, rfl, hl, gl, lis⟩ := lp (by decide)
      have e05 := e04.trans e5
      have hb5 : BoxAt H5 A (c0 + 13 * (j + 1)) := (hb4.mono e5).up (by omega)
      refine ⟨_, rfl, l, _, 0, .str z, rfl, rfl, SqL.of gl, atI_nat (j := 0) rfl, rfl, _, rfl, ?_⟩
      by_cases zl : z = "list"
      · rw [decide_eq_true (show V.str z = V.str "list" by rw [zl])]
        refine iteT ?_
        obtain ⟨h1, il⟩ := c7 (zk zl)
        have hx := lis zl
        obtain ⟨x0, ts', d0, ds', ets, eds, q0, q'⟩ := dqs_uncons th.dq h1
        have g0 : ts[0]? = some x0 := by rw [ets]; rfl
        refine ⟨_, rfl, ix_seq_at (i := 0) (sq5 e5) g0 ?_⟩
        dsimp only [tCons, tNil, tC]
        refine isi_list (q0.mono (e4.trans e5)) ⟨_, rfl, ?_⟩
        cases b : isT "list" d0 with
        | false =>
          refine iteF ?_
          exact ⟨⟨_, _, _, _, _, _, _, rfl⟩, e05, hb5⟩
        | true =>
          refine iteT ?_
          obtain ⟨ms, rfl⟩ : ∃ ms, d0 = .list ms := by cases d0 <;> first | exact ⟨_, rfl⟩ | cases b
          obtain ⟨L, xs, et, hL2, gL, lx, gU, UL⟩ := th.ls (zk zl) ms (by rw [eds]; rfl)
          have g1 : ts[0]? = some (V.ref L) := by rw [et]; rfl
          rw [et] at g0 hx
          cases g0
          cases hx
          have gL5 := e5 _ _ (e4 _ _ gL)
          have nL := un_del e02 hb2.nn hL2
          have lL : l ≠ L := fun e => by rw [e, e4 _ _ gL] at hl; cases hl
          refine seq_at ?_
          refine ⟨_, rfl, ix_seq_at (i := 0) (sq5 e5) g1 ⟨.inl ⟨rfl, xs, SqL.of gL5⟩, L, xs, _, rfl, rfl, gL5, line_big (by omega), ?_⟩⟩
          have gl8 : upd H5 L (.lst (xs ++ [.str "more"])) l = some (.lst (.str z :: .ref L :: rest)) := by rw [upd_ne lL]; exact gl
          have gU8 : upd H5 L (.lst (xs ++ [.str "more"])) U = some (.lst ts) := by rw [upd_ne UL]; exact e5 _ _ (e4 _ _ gU)
          refine ⟨_, rfl, l, _, 1, _, rfl, rfl, SqL.of gl8, atI_nat (j := 1) rfl, _, rfl, ix_seq_at (i := 0) (.inl (SqL.of gU8)) g1 ⟨L, _, rfl, rfl, SqL.of upd_same, _, rfl, ?_⟩⟩
          refine iteF ?_
          exact ⟨⟨_, _, _, _, _, _, _, rfl⟩, Evl.Ex.mut e05 (by rw [del_ne nL.2]; exact nL.1), hb5.upd nL.2⟩
      · rw [decide_eq_false (show ¬ V.str z = V.str "list" from fun e => zl (by injection e))]
        refine iteF ?_
        exact ⟨⟨_, _, _, _, _, _, _, rfl⟩, e05, hb5⟩
  · rintro σ' H1 ⟨⟨s5, s6, s7, s8, s9, s10, s11, rfl⟩, e1, hb1⟩
    exact q _ e1 hb1
end

end T1

namespace T1
open PySem PySem.Spec PyProof.Rows L2 G
open Evl (Ex)
local macro_rules | `(tactic| walk_at "dd") => `(tactic| (dsimp only [tCB, tCons, tNil, tC, tOp, tUn, tTest, tB, tVar, tAndV, tOrV, tNotV, tIf, tAnd, tOr, tNot, tSeq, tRet, tRetN, tIfS, tAsg, gName, tDrop, tTup, tLst, tChain, tNext, tCall, L2.start]))
/-- a loop over what is made just ahead of it -/
theorem for_lit {wi : TI} {H : Hp} {n : Nat} {g : TG} {tb : TS} {D : Ends} {σ : L2.St} (I : (Nat → V) → Hp → Prop) (hw : ∀ P : It → Hp → Prop, (∀ J H1 item, I item H1 → Ex H H1 → ItS J H1 n item → P J H1) → wi σ H P) (Pv : Nat → L2.St → Prop) (h0 : Pv 0 σ)
    (hs : ∀ item H1 i σ' H', I item H1 → Ex H H1 → Ex H1 H' → i < n → Pv i σ' → g (item i) σ' H' fun σ2 H2 => tb { D with nx := fun σ H => Pv (i + 1) σ ∧ Ex H1 H, ct := fun σ H => Pv (i + 1) σ ∧ Ex H1 H, bk := D.nx } σ2 H2) (hd : ∀ σ' H', Pv n σ' → Ex H H' → D.nx σ' H') : tFor wi g tb D σ H :=
  hw _ fun J H1 item hi e1 S => for_gen S (fun i σ' H' => Pv i σ' ∧ Ex H1 H') ⟨h0, Evl.Ex.refl _⟩ (fun i σ' H' z => z.2) (fun i σ' H' hi' z => hs item H1 i σ' H' hi e1 z.2 hi' z.1) fun σ' H' z => hd σ' H' z.1 (e1.trans z.2)
theorem nat_all {is : List Nat} (h : ∀ i ∈ is, i < 16) : SmallAll 5000 5 (is.map intD) := fun d hd => by
  obtain ⟨x, hx, rfl⟩ := List.mem_map.mp hd
  exact int_small (by have := h x hx; omega)
theorem askR {K : PySem.W.Frag} {H : Hp} {s u : Addr} {wv yv v : V} {n k kk : Nat} {rs : List (Nat × Nat)} {Fs : List (List (List Nat))} {is : List Nat} {R : VK} (tr : TrioAt K H s wv yv n rs Fs) (hu : H u = some (.lst (is.map iV))) (hv : v = .int (kk : Int)) (k16 : kk < 16) (hk : kk % 8 = k) (k7 : k ≠ 7) (cn : cntK k ≤ is.length) (h16 : ∀ i ∈ is, i < 16)
    (next : ∀ H', Ex H H' → R (.str (PyData.list (ansE n Fs k (is.map intD))).shown) H') : sp__law_asked K [.ref s, v, .ref u] H (fun x H1 => rRepr K [x] H1 R) E0 := by
  subst hk
  obtain ⟨sm, ln, -⟩ := ansE_small tr.tr.ways tr.g tr.wo.ok.n16 (Nat.mod_lt kk (by decide : 0 < 8)) (nat_all h16) (fun _ => by rw [List.length_map]; exact cn) (fun z => absurd z k7)
  refine ⟨_, _, _, rfl, s, u, n, rs, Fs, is.map iV, is.map intD, kk, rfl, tr.tr, tr.g, hv, k16, rfl, .inl (SqL.of hu), dqs_nums is, fun z => absurd z k7, fun _ => by rw [List.length_map]; exact cn, fun l H2 vs e2 hl2 g2 o2 => ?_⟩
  exact told_repr g2 o2.dq sm (by omega) (next H2 e2)
theorem dueR {K : PySem.W.Frag} {H : Hp} {s u : Addr} {wv yv v : V} {n k : Nat} {rs : List (Nat × Nat)} {Fs : List (List (List Nat))} {is : List Nat} {R : VK} (tr : TrioAt K H s wv yv n rs Fs) (hu : H u = some (.lst (is.map iV))) (hv : v = .int (k : Int)) (k7 : k < 7) (cn : cntK k ≤ is.length) (h16 : ∀ i ∈ is, i < 16)
    (next : ∀ H', Ex H H' → R (.str (PyData.list (ansE n Fs k (is.map intD))).shown) H') : sp__law_due K [wv, yv, v, .ref u] H (fun x H1 => rRepr K [x] H1 R) E0 := by
  have z7 : k ≠ 7 := by omega
  obtain ⟨sm, ln, -⟩ := ansE_small tr.tr.ways tr.g tr.wo.ok.n16 (show k < 8 by omega) (nat_all h16) (fun _ => by rw [List.length_map]; exact cn) (fun z => absurd z z7)
  refine ⟨_, _, _, _, rfl, n, rs, Fs, u, is.map iV, is.map intD, k, tr.wo, tr.wa.at_, tr.tr.ways, tr.wa.rows, tr.g, hv, by omega, rfl, .inl (SqL.of hu), dqs_nums is, fun z => absurd z z7, fun _ => by rw [List.length_map]; exact cn, fun l H2 vs e2 hl2 g2 q2 => ?_⟩
  exact told_repr g2 q2 sm (by omega) (next H2 e2)
theorem ansE_all {n : Nat} {rs : List (Nat × Nat)} {Fs : List (List (List Nat))} {is : List Nat} (w : WaysOk n rs Fs) (g : TreeG n rs) (lt : ∀ i ∈ is, i < n) (all : ∀ x, x < n → x ∈ is) : ansE n Fs 7 [.list (is.map intD)] = [.str "told", numsD (List.range n)] := by
  unfold ansE
  have ai : areIdx (([PyData.list (is.map intD)]).headD .none) n = true := areIdx_nums (d := .list (is.map intD)) rfl rfl lt
  rw [if_pos rfl, if_pos ai]
  have e : ((items (([PyData.list (is.map intD)]).headD .none)).map natD) = is := map_natD is
  rw [e]
  have f : (List.range n).filter (spanN Fs is) = List.range n := by
    rw [List.filter_eq_self]
    intro x hx
    have hx := List.mem_range.mp hx
    unfold spanN
    rw [List.any_eq_true]
    refine ⟨x, all x hx, ?_⟩
    rw [List.any_eq_true]
    exact ⟨x, all x hx, by rw [List.contains_iff_mem]; exact (w.path g hx hx).last_mem⟩
  rw [f]
theorem askS {K : PySem.W.Frag} {H : Hp} {s u a : Addr} {wv yv : V} {n : Nat} {rs : List (Nat × Nat)} {Fs : List (List (List Nat))} {is : List Nat} {R : VK} (tr : TrioAt K H s wv yv n rs Fs) (hu : H u = some (.lst [.ref a])) (ha : H a = some (.lst (is.map iV))) (ln : is.length ≤ 100) (lt : ∀ i ∈ is, i < n) (all : ∀ x, x < n → x ∈ is)
    (next : ∀ H', Ex H H' → R (.str (PyData.list [.str "told", numsD (List.range n)]).shown) H') : sp__law_asked K [.ref s, .int 7, .ref u] H (fun x H1 => rRepr K [x] H1 R) E0 := by
  have n16 := tr.wo.ok.n16
  have sm : SmallAll 5000 5 [PyData.str "told", numsD (List.range n)] := all_two (str_small (by simp)) (by
    have := filt_small (n := n) (fun _ => true) n16
    rwa [range_all] at this)
  refine ⟨_, _, _, rfl, s, u, n, rs, Fs, [.ref a], [.list (is.map intD)], 7, rfl, tr.tr, tr.g, rfl, by decide, rfl, .inl (SqL.of hu), .cons (.lst (SqL.of ha) (dqs_nums is)) .nil, fun _ => ⟨Nat.le_refl _, ?_⟩, fun z => absurd rfl z, fun l H2 vs e2 hl2 g2 o2 => ?_⟩
  · show (is.map intD).length ≤ 100000
    rw [List.length_map]; omega
  · have q := o2.dq
    rw [show (7 : Nat) % 8 = 7 from rfl, ansE_all tr.tr.ways tr.g lt all] at q
    exact told_repr g2 q sm (by simp) (next H2 e2)
def sp__law_all_right (K : PySem.W.Frag) : Sp := sp3 fun a b c H Q E => ∃ (s : Addr) (n : Nat) (rs : List (Nat × Nat)) (Fs : List (List (List Nat))), a = .ref s ∧ TrioAt K H s b c n rs Fs ∧ ∀ H', Ex H H' → Q (.bl true) H'
section
variable {K : PySem.W.Frag} {mg : Str → Option Value} {P : Program} {w : World} {base : Heap}
theorem ok__law_all_right (T : Tx K mg) : Cal P w K mg base CX0 9 "_law_all_right" ["_law_web", "_law_world_here", "_law_ways"] (sp__law_all_right K) := by
  refine cal_of (fD__law_all_right T) (T.glo 51 rfl) sc__law_all_right (fun _ _ _ _ _ _ us hl => match us, hl with | [_, _, _], _ => rfl) (fun vs H Q E h => len3 h) (fun f cdv A outer s H vs Q E hr h => ?_)
  obtain ⟨a, b, c, rfl, h⟩ := h
  refine ⟨_, (PSs.nox (pss_cons (ps_set (i := 3) sc__law_all_right.nd rfl (Or.inr rfl) (pe_ix (ix_listK (K := K)) (pv 1) pe_int (fun _ _ => rfl)))
      (pss_cons (ps_for PassesOwn.never rfl (pi_list (pe_lst (pa_cons pe_int (pa_cons pe_int pa_nil)))) (pg_name (i := 4) sc__law_all_right.nd rfl (Or.inl rfl)) (pss_one (ps_if (pt_cmpR op_ne (pe_callB (call_reprK (K := K) T.sm hr.g (hu64 hr.r)) (by rfl) (T.free 12 rfl) (by decide +kernel) (pa_cons (pe_c (ok__law_asked T) (hr.mono (by decide)) rfl pass0 (pa_cons (pv 0) (pa_cons (pv 4) (pa_cons (pe_lst pa_nil) pa_nil)))) pa_nil)) (pe_callB (call_reprK (K := K) T.sm hr.g (hu64 hr.r)) (by rfl) (T.free 12 rfl) (by decide +kernel) (pa_cons (pe_c (ok__law_due T) (hr.mono (by decide)) rfl pass0 (pa_cons (pv 1) (pa_cons (pv 2) (pa_cons pe_int (pa_cons (pe_lst pa_nil) pa_nil))))) pa_nil)) (nomark _)) (pss_one (ps_ret pe_bl)) pss_nil)))
      (pss_cons (ps_for PassesOwn.never rfl (pi_range1 (by rfl) (T.free 11 rfl) (pa_cons (pv 3) pa_nil)) (pg_name (i := 5) sc__law_all_right.nd rfl (Or.inl rfl)) (pss_cons (ps_for PassesOwn.never rfl (pi_list (pe_lst (pa_cons pe_int (pa_cons pe_int pa_nil)))) (pg_name (i := 4) sc__law_all_right.nd rfl (Or.inl rfl)) (pss_one (ps_if (pt_cmpR op_ne (pe_callB (call_reprK (K := K) T.sm hr.g (hu64 hr.r)) (by rfl) (T.free 12 rfl) (by decide +kernel) (pa_cons (pe_c (ok__law_asked T) (hr.mono (by decide)) rfl pass0 (pa_cons (pv 0) (pa_cons (pv 4) (pa_cons (pe_lst (pa_cons (pv 5) pa_nil)) pa_nil)))) pa_nil)) (pe_callB (call_reprK (K := K) T.sm hr.g (hu64 hr.r)) (by rfl) (T.free 12 rfl) (by decide +kernel) (pa_cons (pe_c (ok__law_due T) (hr.mono (by decide)) rfl pass0 (pa_cons (pv 1) (pa_cons (pv 2) (pa_cons pe_int (pa_cons (pe_lst (pa_cons (pv 5) pa_nil)) pa_nil))))) pa_nil)) (nomark _)) (pss_one (ps_ret pe_bl)) pss_nil)))
      (pss_one (ps_for PassesOwn.never rfl (pi_range1 (by rfl) (T.free 11 rfl) (pa_cons (pe_ifExp (pt_cmpR op_lt (pv 3) pe_int (nomark _)) (pv 3) pe_int) pa_nil)) (pg_name (i := 6) sc__law_all_right.nd rfl (Or.inl rfl)) (pss_one (ps_for PassesOwn.never rfl (pi_list (pe_lst (pa_cons pe_int (pa_cons pe_int (pa_cons pe_int pa_nil))))) (pg_name (i := 4) sc__law_all_right.nd rfl (Or.inl rfl)) (pss_one (ps_if (pt_cmpR op_ne (pe_callB (call_reprK (K := K) T.sm hr.g (hu64 hr.r)) (by rfl) (T.free 12 rfl) (by decide +kernel) (pa_cons (pe_c (ok__law_asked T) (hr.mono (by decide)) rfl pass0 (pa_cons (pv 0) (pa_cons (pv 4) (pa_cons (pe_lst (pa_cons (pv 5) (pa_cons (pv 6) pa_nil))) pa_nil)))) pa_nil)) (pe_callB (call_reprK (K := K) T.sm hr.g (hu64 hr.r)) (by rfl) (T.free 12 rfl) (by decide +kernel) (pa_cons (pe_c (ok__law_due T) (hr.mono (by decide)) rfl pass0 (pa_cons (pv 1) (pa_cons (pv 2) (pa_cons (pv 4) (pa_cons (pe_lst (pa_cons (pv 5) (pa_cons (pv 6) pa_nil))) pa_nil))))) pa_nil)) (nomark _)) (pss_one (ps_ret pe_bl)) pss_nil))))))))
      (pss_cons (ps_for PassesOwn.never rfl (pi_list (pe_ix (ix_listK (K := K)) (pv 1) pe_int (fun _ _ => rfl))) (pg_tup rfl (pgs_cons (pg_name (i := 5) sc__law_all_right.nd rfl (Or.inl rfl)) (pgs_cons (pg_name (i := 6) sc__law_all_right.nd rfl (Or.inl rfl)) pgs_nil))) (pss_one (ps_for PassesOwn.never rfl (pi_list (pe_lst (pa_cons (pe_lst (pa_cons (pv 5) (pa_cons (pv 6) pa_nil))) (pa_cons (pe_lst (pa_cons (pv 6) (pa_cons (pv 5) pa_nil))) pa_nil)))) (pg_name (i := 7) sc__law_all_right.nd rfl (Or.inl rfl)) (pss_one (ps_if (pt_cmpR op_ne (pe_callB (call_reprK (K := K) T.sm hr.g (hu64 hr.r)) (by rfl) (T.free 12 rfl) (by decide +kernel) (pa_cons (pe_c (ok__law_asked T) (hr.mono (by decide)) rfl pass0 (pa_cons (pv 0) (pa_cons pe_int (pa_cons (pv 7) pa_nil)))) pa_nil)) (pe_callB (call_reprK (K := K) T.sm hr.g (hu64 hr.r)) (by rfl) (T.free 12 rfl) (by decide +kernel) (pa_cons (pe_c (ok__law_due T) (hr.mono (by decide)) rfl pass0 (pa_cons (pv 1) (pa_cons (pv 2) (pa_cons pe_int (pa_cons (pv 7) pa_nil))))) pa_nil)) (nomark _)) (pss_one (ps_ret pe_bl)) pss_nil)))))
      (pss_cons (ps_for PassesOwn.never rfl (pi_list (pe_lst (pa_cons (pe_listRg rfl rfl (T.free 8 rfl) (prg_1 rfl (T.free 11 rfl) (pv 3))) (pa_cons (pe_lc (own := [("_law_k", 9)]) rfl sc__law_all_right.nd (pi_range1 (by rfl) (T.free 11 rfl) (pa_cons pe_int pa_nil)) (blkOk_by (own := [("_law_k", 9)]) (N := ["_law_web", "_law_world_here", "_law_ways", "_law_many", "_law_kind", "_law_one", "_law_other_here", "_law_things_here", "_law_some", "_law_k"]) (sc := defScope st__law_all_right) (by decide +kernel)) (fun _ _ _ _ _ => (pg_name (i := 9) sc__law_all_right.nd rfl (Or.inl rfl))) (fun _ _ _ _ _ => pts_nil) (fun _ _ _ _ _ => (pe_op op_mod (pe_callTy call_int1 (by rfl) (T.free 5 rfl) (by decide +kernel) (pa_cons (pv 9) pa_nil)) (pv 3)))) pa_nil)))) (pg_name (i := 8) sc__law_all_right.nd rfl (Or.inl rfl)) (pss_one (ps_if (pt_cmpR op_ne (pe_callB (call_reprK (K := K) T.sm hr.g (hu64 hr.r)) (by rfl) (T.free 12 rfl) (by decide +kernel) (pa_cons (pe_c (ok__law_asked T) (hr.mono (by decide)) rfl pass0 (pa_cons (pv 0) (pa_cons pe_int (pa_cons (pe_lst (pa_cons (pv 8) pa_nil)) pa_nil)))) pa_nil)) (pe_callB (call_reprK (K := K) T.sm hr.g (hu64 hr.r)) (by rfl) (T.free 12 rfl) (by decide +kernel) (pa_cons (pe_lst (pa_cons pe_str (pa_cons (pe_listRg rfl rfl (T.free 8 rfl) (prg_1 rfl (T.free 11 rfl) (pv 3))) pa_nil))) pa_nil)) (nomark _)) (pss_one (ps_ret pe_bl)) pss_nil)))
      (pss_one (ps_ret pe_bl)))))))), ?_⟩
  obtain ⟨s0, n, rs, Fs, rfl, tr, q⟩ := h
  have n1 := tr.wo.ok.n1
  have n16 := tr.wo.ok.n16
  obtain ⟨W, S, ts, rfl, hW, hS, hts⟩ := tr.wo.at_
  refine seq_at (asg_at ?_)
  refine ⟨_, rfl, W, _, 0, _, rfl, rfl, SqL.of hW, rfl, ?_⟩
  dsimp only [gName]

  have lt1 : ∀ {x : Nat}, x < n → ∀ i ∈ [x], i < 16 := fun hx i hi => by rw [List.mem_singleton] at hi; omega
  have lt2 : ∀ {x y : Nat}, x < n → y < n → ∀ i ∈ [x, y], i < 16 := fun hx hy i hi => by
    rcases List.mem_cons.mp hi with rfl | hi
    · omega
    · rw [List.mem_singleton] at hi; omega
  refine seq_at ?_
  refine for_lit (n := 2) (fun it _ => it = nth [.int 1, .int 9]) (fun P q => ⟨(by show 2 ≤ sizeLine; decide), fun D hD => ⟨D, rfl, ⟨_, SqL.of upd_same⟩, q _ _ _ rfl (Evl.Ex.new hD) (its_l (SqL.of upd_same))⟩⟩) (fun i σ' => ∃ s4 s5 s6 s7 s8 s9, σ' = [some (.ref s0), some (.ref W), some c, some (iV n), s4, s5, s6, s7, s8, s9]) ⟨_, _, _, _, _, _, rfl⟩ ?_ ?_
  · rintro _ H1 i σ' H2 rfl e1 e2 hi ⟨s4, s5, s6, s7, s8, s9, rfl⟩
    obtain ⟨kk, ek, k16, km⟩ : ∃ kk : Nat, nth [V.int 1, V.int 9] i = .int (kk : Int) ∧ kk < 16 ∧ kk % 8 = 1 := by
      match i, hi with
      | 0, _ => exact ⟨1, rfl, by decide, by decide⟩
      | 1, _ => exact ⟨9, rfl, by decide, by decide⟩
    rw [ek]
    dsimp only [gName]
    have e02 := e1.trans e2
    refine ⟨_, rfl, _, rfl, Nat.zero_le _, fun u hu => ?_⟩
    have xu := Evl.Ex.new (o := .lst []) hu
    dsimp only [tNil, tCall, List.append_nil, List.nil_append, List.cons_append]
    refine askR (is := []) (tr.mono (e02.trans xu)) upd_same rfl k16 km (by decide) (by decide) (by simp) fun H3 e3 => ?_
    refine ⟨_, rfl, _, rfl, Nat.zero_le _, fun u2 hu2 => ?_⟩
    have xu2 := Evl.Ex.new (o := .lst []) hu2
    dsimp only [tNil, tCall, List.append_nil, List.nil_append, List.cons_append]
    refine dueR (k := 1) (is := []) (tr.mono (((e02.trans xu).trans e3).trans xu2)) upd_same rfl (by decide) (by decide) (by simp) fun H4 e4 => ?_
    refine ⟨rfl, _, rfl, ?_⟩
    rw [decide_eq_true rfl]
    refine iteF ?_
    exact ⟨⟨_, _, _, _, _, _, rfl⟩, (((e2.trans xu).trans e3).trans xu2).trans e4⟩
  rintro σ' H1 ⟨s4, s5, s6, s7, s8, s9, rfl⟩ e1
  dsimp only
  refine seq_at ?_
  refine for_at (B := fun _ => none) (n := n) (item := fun i => .int (0 + i)) (fun P q => ⟨_, rfl, _, rfl, by omega, by omega, (by rw [show ((n : Int)).toNat = n by omega]; exact q _ _ (Evl.Ex.refl _) (its_r 0 n))⟩) (fun i σ' H' => (∃ s4 s5 s6 s7 s8 s9, σ' = [some (.ref s0), some (.ref W), some c, some (iV n), s4, s5, s6, s7, s8, s9]) ∧ Ex H H') ?_ (fun _ _ _ _ a o z => by cases z) ?_ ?_
  · exact fun H2 e2 => ⟨⟨_, _, _, _, _, _, rfl⟩, e1.trans e2⟩
  · rintro x σ' H0 hx ⟨⟨s4, s5, s6, s7, s8, s9, rfl⟩, e0⟩
    rw [show (V.int (0 + (x : Int))) = iV x by rw [Int.zero_add]; rfl]
    dsimp only [gName]
    refine seq_at ?_
    refine for_lit (n := 2) (fun it _ => it = nth [.int 0, .int 8]) (fun P q => ⟨(by show 2 ≤ sizeLine; decide), fun D hD => ⟨D, rfl, ⟨_, SqL.of upd_same⟩, q _ _ _ rfl (Evl.Ex.new hD) (its_l (SqL.of upd_same))⟩⟩) (fun i σ' => ∃ s4 s6 s7 s8 s9, σ' = [some (.ref s0), some (.ref W), some c, some (iV n), s4, some (iV x), s6, s7, s8, s9]) ⟨_, _, _, _, _, rfl⟩ ?_ ?_
    · rintro _ H1 i σ' H2 rfl e1 e2 hi ⟨s4, s6, s7, s8, s9, rfl⟩
      obtain ⟨kk, ek, k16, km⟩ : ∃ kk : Nat, nth [V.int 0, V.int 8] i = .int (kk : Int) ∧ kk < 16 ∧ kk % 8 = 0 := by
        match i, hi with
        | 0, _ => exact ⟨0, rfl, by decide, by decide⟩
        | 1, _ => exact ⟨8, rfl, by decide, by decide⟩
      rw [ek]
      dsimp only [gName]
      have e02 := (e0.trans e1).trans e2
      refine ⟨_, rfl, _, rfl, _, rfl, (by show 1 ≤ sizeLine; decide), fun u hu => ?_⟩
      have xu := Evl.Ex.new (o := .lst ([x].map iV)) hu
      dsimp only [tNil, tCall, List.append_nil, List.nil_append, List.cons_append]
      refine askR (is := [x]) (tr.mono (e02.trans xu)) upd_same rfl k16 km (by decide) (Nat.le_refl 1) (lt1 hx) fun H3 e3 => ?_
      refine ⟨_, rfl, _, rfl, _, rfl, (by show 1 ≤ sizeLine; decide), fun u2 hu2 => ?_⟩
      have xu2 := Evl.Ex.new (o := .lst ([x].map iV)) hu2
      dsimp only [tNil, tCall, List.append_nil, List.nil_append, List.cons_append]
      refine dueR (k := 0) (is := [x]) (tr.mono (((e02.trans xu).trans e3).trans xu2)) upd_same rfl (by decide) (Nat.le_refl 1) (lt1 hx) fun H4 e4 => ?_
      refine ⟨rfl, _, rfl, ?_⟩
      rw [decide_eq_true rfl]
      refine iteF ?_
      exact ⟨⟨_, _, _, _, _, rfl⟩, (((e2.trans xu).trans e3).trans xu2).trans e4⟩
    rintro σ' H1 ⟨s4, s6, s7, s8, s9, rfl⟩ e1
    dsimp only
    obtain ⟨m, hm, ml⟩ : ∃ m, m = (if n < 6 then n else 1) ∧ m ≤ n := ⟨_, rfl, by split <;> omega⟩
    refine for_at (B := fun _ => none) (n := m) (item := fun i => .int (0 + i)) (fun P q => ?_) (fun i σ' H' => (∃ s4 s6 s7 s8 s9, σ' = [some (.ref s0), some (.ref W), some c, some (iV n), s4, some (iV x), s6, s7, s8, s9]) ∧ Ex H H') ?_ (fun _ _ _ _ a o z => by cases z) ?_ ?_
    · refine ⟨_, rfl, _, _, rfl, rfl, _, rfl, ?_⟩
      by_cases z : (n : Int) < 6
      · rw [decide_eq_true z]
        refine iteT ⟨_, rfl, _, rfl, by omega, by omega, ?_⟩
        rw [if_pos (show n < 6 by omega)] at hm
        subst hm
        rw [show ((m : Int)).toNat = m by omega]
        exact q _ _ (Evl.Ex.refl _) (its_r 0 m)
      · rw [decide_eq_false z]
        refine iteF ⟨_, rfl, by omega, by omega, ?_⟩
        rw [if_neg (show ¬ n < 6 by omega)] at hm
        subst hm
        exact q _ _ (Evl.Ex.refl _) (its_r 0 1)
    · exact fun H2 e2 => ⟨⟨_, _, _, _, _, rfl⟩, (e0.trans e1).trans e2⟩
    · rintro y σ' H0 hy ⟨⟨s4, s6, s7, s8, s9, rfl⟩, e0⟩
      have hy' : y < n := by omega
      rw [show (V.int (0 + (y : Int))) = iV y by rw [Int.zero_add]; rfl]
      dsimp only [gName]
      refine for_lit (n := 3) (fun it _ => it = nth [.int 2, .int 3, .int 6]) (fun P q => ⟨(by show 3 ≤ sizeLine; decide), fun D hD => ⟨D, rfl, ⟨_, SqL.of upd_same⟩, q _ _ _ rfl (Evl.Ex.new hD) (its_l (SqL.of upd_same))⟩⟩) (fun i σ' => ∃ s4 s7 s8 s9, σ' = [some (.ref s0), some (.ref W), some c, some (iV n), s4, some (iV x), some (iV y), s7, s8, s9]) ⟨_, _, _, _, rfl⟩ ?_ ?_
      · rintro _ H1 i σ' H2 rfl e1 e2 hi ⟨s4, s7, s8, s9, rfl⟩
        obtain ⟨kk, ek, k7, cn⟩ : ∃ kk : Nat, nth [V.int 2, V.int 3, V.int 6] i = .int (kk : Int) ∧ kk < 7 ∧ cntK kk ≤ 2 := by
          match i, hi with
          | 0, _ => exact ⟨2, rfl, by decide, by decide⟩
          | 1, _ => exact ⟨3, rfl, by decide, by decide⟩
          | 2, _ => exact ⟨6, rfl, by decide, by decide⟩
        rw [ek]
        dsimp only [gName]
        have e02 := (e0.trans e1).trans e2
        have k16 : kk < 16 := by omega
        have km : kk % 8 = kk := Nat.mod_eq_of_lt (by omega)
        refine ⟨_, rfl, _, rfl, _, rfl, _, rfl, (by show 2 ≤ sizeLine; decide), fun u hu => ?_⟩
        have xu := Evl.Ex.new (o := .lst ([x, y].map iV)) hu
        dsimp only [tNil, tCall, List.append_nil, List.nil_append, List.cons_append]
        refine askR (is := [x, y]) (tr.mono (e02.trans xu)) upd_same rfl k16 km (by omega) cn (lt2 hx hy') fun H3 e3 => ?_
        refine ⟨_, rfl, _, rfl, _, rfl, _, rfl, _, rfl, (by show 2 ≤ sizeLine; decide), fun u2 hu2 => ?_⟩
        have xu2 := Evl.Ex.new (o := .lst ([x, y].map iV)) hu2
        dsimp only [tNil, tCall, List.append_nil, List.nil_append, List.cons_append]
        refine dueR (is := [x, y]) (tr.mono (((e02.trans xu).trans e3).trans xu2)) upd_same rfl k7 cn (lt2 hx hy') fun H4 e4 => ?_
        refine ⟨rfl, _, rfl, ?_⟩
        rw [decide_eq_true rfl]
        refine iteF ?_
        exact ⟨⟨_, _, _, _, rfl⟩, (((e2.trans xu).trans e3).trans xu2).trans e4⟩
      rintro σ' H1 ⟨s4, s7, s8, s9, rfl⟩ e1
      exact ⟨⟨_, _, _, _, _, rfl⟩, e0.trans e1⟩
    rintro σ' H2 ⟨⟨s4, s6, s7, s8, s9, rfl⟩, e2⟩
    exact ⟨⟨_, _, _, _, _, _, rfl⟩, e2⟩
  rintro σ' H1 ⟨⟨s4, s5, s6, s7, s8, s9, rfl⟩, e1⟩
  dsimp only
  refine seq_at ?_
  refine for_lit (n := ts.length) (fun it _ => it = nth ts) (fun P q => ⟨_, rfl, W, _, 1, _, rfl, rfl, SqL.of (e1 _ _ hW), rfl, S, rfl, ⟨ts, SqL.of (e1 _ _ hS)⟩, q _ _ _ rfl (Evl.Ex.refl _) (its_l (SqL.of (e1 _ _ hS)))⟩) (fun i σ' => ∃ s4 s5 s6 s7 s8 s9, σ' = [some (.ref s0), some (.ref W), some c, some (iV n), s4, s5, s6, s7, s8, s9]) ⟨_, _, _, _, _, _, rfl⟩ ?_ ?_
  · rintro _ H2 i σ' H3 rfl e2 e3 hi ⟨s4, s5, s6, s7, s8, s9, rfl⟩
    have e0 := (e1.trans e2).trans e3
    obtain ⟨p, hp, tr1, ev, ht⟩ : ∃ p : Nat × Nat, p ∈ rs ∧ ∃ t, nth ts i = V.ref t ∧ H3 t = some (.tup [iV p.1, iV p.2]) := by
      obtain ⟨p, h1, t, h2, h3⟩ := f2_mem hts (nth ts i) (nth_mem hi)
      exact ⟨p, h1, t, h2, e0 _ _ h3⟩
    have px : p.1 < n ∧ p.2 < n := by have := tr.wo.ok.good.lt p hp; omega
    generalize p.1 = x at ht px
    generalize p.2 = y at ht px
    rw [ev]
    refine ⟨tr1, _, rfl, SqT.of ht, rfl, _, _, rfl, _, _, rfl, rfl, ?_⟩
    dsimp only [gName]
    refine for_lit (n := 2) (fun it H1 => ∃ a b, it = nth [.ref a, .ref b] ∧ H1 a = some (.lst [iV x, iV y]) ∧ H1 b = some (.lst [iV y, iV x])) (fun P q => ⟨_, rfl, _, rfl, (by show 2 ≤ sizeLine; decide), fun a ha => ⟨_, rfl, _, rfl, (by show 2 ≤ sizeLine; decide), fun b hb => ⟨(by show 2 ≤ sizeLine; decide), fun D hD => ⟨D, rfl, ⟨_, SqL.of upd_same⟩, q _ _ _ ⟨a, b, rfl, Evl.Ex.new hD _ _ (Evl.Ex.new hb _ _ upd_same), Evl.Ex.new hD _ _ upd_same⟩ (((Evl.Ex.new ha).trans (Evl.Ex.new hb)).trans (Evl.Ex.new hD)) (its_l (SqL.of upd_same))⟩⟩⟩⟩) (fun i σ' => ∃ s4 s7 s8 s9, σ' = [some (.ref s0), some (.ref W), some c, some (iV n), s4, some (iV x), some (iV y), s7, s8, s9]) ⟨_, _, _, _, rfl⟩ ?_ ?_
    · rintro item H1 i σ' H4 ⟨a, b, rfl, ha, hb⟩ e4 e5 hi ⟨s4, s7, s8, s9, rfl⟩
      have e02 := (e0.trans e4).trans e5
      obtain ⟨u, x', y', eu, hu, hx, hy⟩ : ∃ u x' y', nth [V.ref a, V.ref b] i = .ref u ∧ H4 u = some (.lst ([x', y'].map iV)) ∧ x' < n ∧ y' < n := by
        match i, hi with
        | 0, _ => exact ⟨a, x, y, rfl, e5 _ _ ha, px.1, px.2⟩
        | 1, _ => exact ⟨b, y, x, rfl, e5 _ _ hb, px.2, px.1⟩
      rw [eu]
      dsimp only [gName]
      refine ⟨_, rfl, _, rfl, ?_⟩
      dsimp only [tNil, tCall, List.append_nil, List.nil_append, List.cons_append]
      refine askR (kk := 6) (k := 6) (is := [x', y']) (tr.mono e02) hu rfl (by decide) rfl (by decide) (Nat.le_refl 2) (lt2 hx hy) fun H5 e5' => ?_
      refine ⟨_, rfl, _, rfl, _, rfl, ?_⟩
      dsimp only [tNil, tCall, List.append_nil, List.nil_append, List.cons_append]
      refine dueR (k := 6) (is := [x', y']) (tr.mono (e02.trans e5')) (e5' _ _ hu) rfl (by decide) (Nat.le_refl 2) (lt2 hx hy) fun H6 e6 => ?_
      refine ⟨rfl, _, rfl, ?_⟩
      rw [decide_eq_true rfl]
      refine iteF ?_
      exact ⟨⟨_, _, _, _, rfl⟩, (e5.trans e5').trans e6⟩
    rintro σ' H1 ⟨s4, s7, s8, s9, rfl⟩ e4
    exact ⟨⟨_, _, _, _, _, _, rfl⟩, e3.trans e4⟩
  rintro σ' H2 ⟨s4, s5, s6, s7, s8, s9, rfl⟩ e2
  have e0 := e1.trans e2
  dsimp only
  refine seq_at ?_
  refine for_lit (n := 2) (fun it H1 => ∃ a b, it = nth [.ref a, .ref b] ∧ H1 a = some (.lst ((List.range n).map iV)) ∧ H1 b = some (.lst (((List.range 100).map (· % n)).map iV))) (fun P q => ?_) (fun i σ' => ∃ s4 s5 s6 s7 s8 s9, σ' = [some (.ref s0), some (.ref W), some c, some (iV n), s4, s5, s6, s7, s8, s9]) ⟨_, _, _, _, _, _, rfl⟩ ?_ ?_
  · refine ⟨_, rfl, n, rfl, ⟨by decide, by decide, by omega, by omega, by omega⟩, fun a ha => ?_⟩
    have xa := Evl.Ex.new (o := .lst (rgV 0 (n : Int))) ha
    have ga : upd H2 a (.lst (rgV 0 (n : Int))) a = some (.lst ((List.range n).map iV)) := by rw [upd_same, rgV_nat]; rfl
    generalize upd H2 a (.lst (rgV 0 (n : Int))) = H3 at xa ga ⊢
    dsimp only [tCons, tNil, tC]
    refine lc_at (n := 100) (item := fun i => .int (0 + i)) (fun _ => true) (fun z D y H' => y = iV (z % n)) (line_big (by decide)) (fun P q => ⟨_, rfl, by decide, by decide, q _ _ (Evl.Ex.refl _) (its_r 0 100)⟩) (fun _ _ _ _ _ _ h => h) (fun _ _ _ _ _ _ h => h) ?_ ?_
    · rintro z D H' hz hD e acc Ny Nn hy hn
      refine ⟨rfl, ?_⟩
      refine ⟨_, rfl, .inl ⟨_, rfl, _, rfl, _, _, rfl, rfl, (by omega), hy _ _ rfl (Evl.Ex.refl _) ?_⟩⟩
      rw [Int.zero_add]
      rfl
    · intro b ys H' hD e gD f
      have ey := F2.map_eq (f := fun z => iV (z % n)) f
      rw [range_all] at ey
      refine ⟨(by show 2 ≤ sizeLine; decide), fun L hL => ⟨L, rfl, ⟨_, SqL.of upd_same⟩, q _ _ _ ⟨a, b, rfl, Evl.Ex.new hL _ _ (e _ _ ga), ?_⟩ ((xa.trans e).trans (Evl.Ex.new hL)) (its_l (SqL.of upd_same))⟩⟩
      refine Evl.Ex.new hL _ _ ?_
      rw [gD, ey, List.map_map]
      rfl
  · rintro item H1 i σ' H4 ⟨a, b, rfl, ha, hb⟩ e4 e5 hi ⟨s4, s5, s6, s7, s8, s9, rfl⟩
    have e02 := (e0.trans e4).trans e5
    obtain ⟨o, is, eo, ho, ln, lt, all⟩ : ∃ (o : Addr) (is : List Nat), nth [V.ref a, V.ref b] i = .ref o ∧ H4 o = some (.lst (is.map iV)) ∧ is.length ≤ 100 ∧ (∀ i ∈ is, i < n) ∧ ∀ x, x < n → x ∈ is := by
      match i, hi with
      | 0, _ => exact ⟨a, List.range n, rfl, e5 _ _ ha, by rw [List.length_range]; omega, fun i hi => List.mem_range.mp hi, fun x hx => List.mem_range.mpr hx⟩
      | 1, _ =>
        refine ⟨b, (List.range 100).map (· % n), rfl, e5 _ _ hb, by simp, fun i hi => ?_, fun x hx => ?_⟩
        · obtain ⟨z, _, rfl⟩ := List.mem_map.mp hi
          exact Nat.mod_lt _ (by omega)
        · exact List.mem_map.mpr ⟨x, List.mem_range.mpr (by omega), Nat.mod_eq_of_lt hx⟩
    rw [eo]
    dsimp only [gName]
    refine ⟨_, rfl, _, rfl, (by show 1 ≤ sizeLine; decide), fun u hu => ?_⟩
    have xu := Evl.Ex.new (o := .lst [.ref o]) hu
    dsimp only [tNil, tCall, List.append_nil, List.nil_append, List.cons_append]
    refine askS (is := is) (tr.mono (e02.trans xu)) upd_same (xu _ _ ho) ln lt all fun H5 e5' => ?_
    refine ⟨_, rfl, n, rfl, ⟨by decide, by decide, by omega, by omega, by omega⟩, fun p hp => ⟨(by show 2 ≤ sizeLine; decide), fun L hL => ?_⟩⟩
    have xp := Evl.Ex.new (o := .lst (rgV 0 (n : Int))) hp
    have gp : upd H5 p (.lst (rgV 0 (n : Int))) p = some (.lst ((List.range n).map iV)) := by rw [upd_same, rgV_nat]; rfl
    generalize upd H5 p (.lst (rgV 0 (n : Int))) = H6 at xp gp hL ⊢
    have xL := Evl.Ex.new (o := .lst [.str "told", .ref p]) hL
    dsimp only [tNil]
    have sm : SmallAll 5000 5 [PyData.str "told", numsD (List.range n)] := all_two (str_small (by simp)) (by
      have := filt_small (n := n) (fun _ => true) n16
      rwa [range_all] at this)
    refine told_repr (es := [.str "told", numsD (List.range n)]) upd_same (.cons (.str _) (.cons (.lst (SqL.of (xL _ _ gp)) (dqs_nums _)) .nil)) sm (by simp) ?_
    refine ⟨rfl, _, rfl, ?_⟩
    rw [decide_eq_true rfl]
    refine iteF ?_
    exact ⟨⟨_, _, _, _, _, _, rfl⟩, (((e5.trans xu).trans e5').trans xp).trans xL⟩
  rintro σ' H5 ⟨s4, s5, s6, s7, s8, s9, rfl⟩ e5
  exact q _ (e0.trans e5)
end

end T1

namespace T1
open PySem PySem.Spec PyProof.Rows L2 G
open Evl (Ex)
local macro_rules | `(tactic| walk_at "dd") => `(tactic| (dsimp only [tCB, tCons, tNil, tC, tOp, tUn, tTest, tB, tVar, tAndV, tOrV, tNotV, tIf, tAnd, tOr, tNot, tSeq, tRet, tRetN, tIfS, tAsg, gName, tDrop, tTup, tLst, tChain, tNext, tCall, L2.start]))
theorem road_small {n : Nat} {rs : List (Nat × Nat)} (wo : WorldOk n rs) : Small 5000 5 (.tuple (rs.map pairD)) := by
  have n16 := wo.n16
  have ln : rs.length ≤ 16 := by
    obtain ⟨_, _, _, _, pe⟩ := wo.gr
    have := pe.length_eq
    rw [List.length_map, List.length_range] at this
    omega
  have sm : SmallAll 18 2 (rs.map pairD) := fun d hd => by
    obtain ⟨p, hp, rfl⟩ := List.mem_map.mp hd
    have := wo.good.lt p hp
    exact Small.tuple (w := 8) (p := 1) (ds := [intD p.1, intD p.2]) (all_two (P := Small 8 1) (Small.nat (by omega)) (Small.nat (by omega)))
  exact (Small.tuple sm).mono (by rw [List.length_map]; omega) (by decide)
def sp__law_fields_right (K : PySem.W.Frag) : Sp := sp2 fun a b H Q E => ∃ (s : Addr) (n : Nat) (rs : List (Nat × Nat)) (Fs : List (List (List Nat))), a = .ref s ∧ TreeAt K H s n rs Fs ∧ WorldAt K H b n rs ∧ ∀ H', Ex H H' → Q (.bl true) H'
section
variable {K : PySem.W.Frag} {mg : Str → Option Value} {P : Program} {w : World} {base : Heap}
theorem ok__law_fields_right (T : Tx K mg) : Cal P w K mg base CX0 5 "_law_fields_right" ["_law_web", "_law_world_here"] (sp__law_fields_right K) := by
  refine cal_of (fD__law_fields_right T) (T.glo 54 rfl) sc__law_fields_right (fun _ _ _ _ _ _ us hl => match us, hl with | [_, _], _ => rfl) (fun vs H Q E h => len2 h) (fun f cdv A outer s H vs Q E hr h => ?_)
  obtain ⟨a, b, rfl, h⟩ := h
  refine ⟨_, (PSs.nox (pss_cons (ps_set (i := 2) sc__law_fields_right.nd rfl (Or.inl rfl) (pe_ix (ix_listK (K := K)) (pv 1) pe_int (fun _ _ => rfl)))
      (pss_cons (ps_if (pt_cmpR op_ne (pe_callB (call_reprK (K := K) T.sm hr.g (hu64 hr.r)) (by rfl) (T.free 12 rfl) (by decide +kernel) (pa_cons (pe_lst (pa_cons (pe_fldK (K := K) (pv 0)) (pa_cons (pe_fldK (K := K) (pv 0)) (pa_cons (pe_callB (tree_len (K := K) T (hr.mono (by decide))) (by rfl) (T.free 7 rfl) (by decide +kernel) (pa_cons (pv 0) pa_nil)) pa_nil)))) pa_nil)) (pe_callB (call_reprK (K := K) T.sm hr.g (hu64 hr.r)) (by rfl) (T.free 12 rfl) (by decide +kernel) (pa_cons (pe_lst (pa_cons (pv 2) (pa_cons (pe_callTy (call_tupK (K := K)) (by rfl) (T.free 15 rfl) (by decide +kernel) (pa_cons (pe_ix (ix_listK (K := K)) (pv 1) pe_int (fun _ _ => rfl)) pa_nil)) (pa_cons (pv 2) pa_nil)))) pa_nil)) (nomark _)) (pss_one (ps_ret pe_bl)) pss_nil)
      (pss_cons (ps_for PassesOwn.never rfl (pi_list (pe_lst (pa_cons pe_int (pa_cons (pe_op op_sub (pv 2) pe_int) (pa_cons (pv 2) (pa_cons (pe_un un_neg pe_int) (pa_cons pe_bl (pa_cons pe_bl (pa_cons pe_non (pa_cons pe_str (pa_cons (pe_tup (pa_cons pe_int pa_nil)) (pa_cons (pe_lst (pa_cons pe_int pa_nil)) (pa_cons pe_dnewK (pa_cons pe_int (pa_cons (pe_op op_pow pe_int pe_int) (pa_cons (pe_op op_add (pv 2) pe_int) pa_nil)))))))))))))))) (pg_name (i := 3) sc__law_fields_right.nd rfl (Or.inl rfl)) (pss_one (ps_if (pt_cmpR op_ne (pe_cmpR (tree_in (K := K) T (hr.mono (by decide))) (pv 3) (pv 0) (by with_unfolding_all rfl)) (pe_c (ok__law_index T) (hr.mono (by decide)) rfl pass0 (pa_cons (pv 3) (pa_cons (pv 2) pa_nil))) (nomark _)) (pss_one (ps_ret pe_bl)) pss_nil)))
      (pss_one (ps_ret pe_bl)))))), ?_⟩
  obtain ⟨s0, n, rs, Fs, rfl, tr, wo, q⟩ := h
  have n1 := wo.ok.n1
  have n16 := wo.ok.n16
  obtain ⟨W, S, ts, rfl, hW, hS, hts⟩ := wo.at_
  refine seq_at (asg_at ?_)
  refine ⟨_, rfl, W, _, 0, _, rfl, rfl, SqL.of hW, rfl, ?_⟩
  dsimp only [gName]
  obtain ⟨dx, r1, r2, r3, g, g1, -⟩ := tr.at_
  have qt : Dqs K H ts (rs.map pairD) := tp_dqs hts
  have sm : SmallAll 5000 5 [PyData.int (n : Int), .tuple (rs.map pairD), .int (n : Int)] := fun x hx => by
    simp only [List.mem_cons, or_false, List.not_mem_nil] at hx
    rcases hx with rfl | rfl | rfl
    · exact int_small (by omega)
    · exact road_small wo.ok
    · exact int_small (by omega)
  refine seq_at ?_
  refine ⟨_, rfl, s0, _, dx, _, _, rfl, g, cl_Tree T, no_Tree_houses T, rfl, _, rfl, s0, _, dx, _, _, rfl, g, cl_Tree T, no_Tree_roads T, rfl, _, rfl, s0, rfl, tr.ins, _, rfl, s0, n, rs, Fs, rfl, tr, (n : Int), rfl, ⟨by omega, by omega⟩, (by show 3 ≤ sizeLine; decide), fun l hl => ?_⟩
  have xl := Evl.Ex.new (o := .lst [iV n, r1, iV n]) hl
  dsimp only [tNil]
  refine told_repr (es := [PyData.int (n : Int), .tuple (rs.map pairD), .int (n : Int)]) upd_same (.cons (.int _) (.cons (g1.mono xl) (.cons (.int _) .nil))) sm (by simp) ?_
  have hS1 := xl _ _ hS
  have hW1 := xl _ _ hW
  have tr1 := tr.mono xl
  have qt1 := qt.mono xl
  show tCB _ _ _ (upd H l (.lst [iV n, r1, iV n])) _
  generalize upd H l (.lst [iV n, r1, iV n]) = H1 at xl hS1 hW1 tr1 qt1 ⊢
  refine ⟨_, rfl, _, rfl, W, _, 1, _, rfl, rfl, SqL.of hW1, rfl, S, ts, rfl, .inl ⟨SqL.of hS1, fun t ht => ⟨_, rfl, (by show 3 ≤ sizeLine; decide), fun l2 hl2 => ?_⟩⟩⟩
  have xt := Evl.Ex.new (o := .tup ts) ht
  have gt : upd H1 t (.tup ts) t = some (.tup ts) := upd_same
  generalize upd H1 t (.tup ts) = H2 at xt gt hl2 ⊢
  have xl2 := Evl.Ex.new (o := .lst [iV n, .ref t, iV n]) hl2
  dsimp only [tNil]
  refine told_repr (es := [PyData.int (n : Int), .tuple (rs.map pairD), .int (n : Int)]) upd_same (.cons (.int _) (.cons (.tup (SqT.of (xl2 _ _ gt)) (qt1.mono (xt.trans xl2))) (.cons (.int _) .nil))) sm (by simp) ?_
  have tr2 := (tr1.mono xt).mono xl2
  have e2 := (xl.trans xt).trans xl2
  refine ⟨rfl, _, rfl, ?_⟩
  rw [decide_eq_true rfl]
  refine iteF ?_
  dsimp only [tNext]
  generalize upd H2 l2 (.lst [iV n, .ref t, iV n]) = H3 at tr2 e2 ⊢
  refine seq_at ?_
  refine for_lit (n := 14) (fun it H1 => ∀ i, i < 14 → ∃ d, Dq K H1 (it i) d) (fun P q => ?_) (fun i σ' => ∃ s3, σ' = [some (.ref s0), some (.ref W), some (iV n), s3]) ⟨_, rfl⟩ ?_ ?_
  · refine ⟨_, rfl, _, _, rfl, rfl, _, rfl, 1, rfl, (by show 1 ≤ sizeLine; decide), fun t1 ht1 => ⟨(by show 1 ≤ sizeLine; decide), fun l1 hl1 => fun dd hdd => ⟨10, 19, rfl, rfl, ⟨by decide, by decide, by decide⟩, _, rfl, _, _, rfl, rfl, (by show 14 ≤ sizeLine; decide), fun L hL => ⟨L, rfl, ⟨_, SqL.of upd_same⟩, q _ _ _ (fun i hi => ?_) ?_ (its_l (SqL.of upd_same))⟩⟩⟩⟩
    · have x2 := Evl.Ex.new (o := .lst [.int 0]) hl1
      have x3 := Evl.Ex.new (o := .dK []) hdd
      have x4 := fun o => Evl.Ex.new (o := o) hL
      match i, hi with
      | 0, _ => exact ⟨_, .int _⟩
      | 1, _ => exact ⟨_, .int _⟩
      | 2, _ => exact ⟨_, .int _⟩
      | 3, _ => exact ⟨_, .int _⟩
      | 4, _ => exact ⟨_, .bl _⟩
      | 5, _ => exact ⟨_, .bl _⟩
      | 6, _ => exact ⟨_, .non⟩
      | 7, _ => exact ⟨_, .str _⟩
      | 8, _ => exact ⟨_, .tup (SqT.of (x4 _ _ _ (x3 _ _ (x2 _ _ upd_same)))) (.cons (.int _) .nil)⟩
      | 9, _ => exact ⟨_, .lst (SqL.of (x4 _ _ _ (x3 _ _ upd_same))) (.cons (.int _) .nil)⟩
      | 10, _ => exact ⟨_, .dic (x4 _ _ _ upd_same)⟩
      | 11, _ => exact ⟨_, .int _⟩
      | 12, _ => exact ⟨_, .int _⟩
      | 13, _ => exact ⟨_, .int _⟩
    · exact (((Evl.Ex.new ht1).trans (Evl.Ex.new hl1)).trans (Evl.Ex.new hdd)).trans (Evl.Ex.new hL)
  · rintro item H1 i σ' H4 it e4 e5 hi ⟨s3, rfl⟩
    obtain ⟨d, qd⟩ := it i hi
    have tr4 := (tr2.mono e4).mono e5
    have qd4 := qd.mono e5
    generalize item i = v at qd4
    dsimp only [gName]
    refine ⟨_, rfl, _, rfl, s0, rfl, tr4.ins, _, _, rfl, s0, n, rs, Fs, d, rfl, tr4, qd4, isIdx d n, rfl, ?_⟩
    refine ⟨_, rfl, _, rfl, _, _, rfl, d, n, qd4, rfl, rfl, _, rfl, ?_⟩
    dsimp only
    rw [show (if false = true then !isIdx d (n : Int) else isIdx d (n : Int)) = isIdx d (n : Int) from rfl, decide_eq_true rfl]
    refine iteF ?_
    exact ⟨⟨_, rfl⟩, e5⟩
  · rintro σ' H4 ⟨s3, rfl⟩ e4
    exact q _ (e2.trans e4)
end

end T1

namespace T1
open PySem PySem.Spec PyProof.Rows L2 G
open Evl (Ex)
local macro_rules | `(tactic| walk_at "dd") => `(tactic| (dsimp only [tCB, tCons, tNil, tC, tOp, tUn, tTest, tB, tVar, tAndV, tOrV, tNotV, tIf, tAnd, tOr, tNot, tSeq, tRet, tRetN, tIfS, tAsg, gName, tDrop, tTup, tLst, tChain, tNext, tCall, L2.start]))
theorem sorted_tp {K : PySem.W.Frag} {H : Hp} {P : Addr} {ts : List V} {ps : List (Nat × Nat)} {Q : VK} (hP : H P = some (.lst ts)) (tp : F2 (TP H) ps ts)
    (q : ∀ ys q0 qs, H q0 = none → qs.Perm ps → (qs.Pairwise fun p q => ltN q p = false) → F2 (TP H) qs ys → Q (.ref q0) (upd H q0 (.lst ys))) : rSortedPO K [.ref P] H Q := by
  have kT : ∀ {t : Addr} {i j : Int}, H t = some (.tup [.int i, .int j]) → (fun v : V => match v with | .ref t => (match H t with | some (.tup [.int i, .int j]) => (i, j) | _ => (0, 0)) | _ => ((0, 0) : Int × Int)) (.ref t) = (i, j) := fun h => by simp only [h]
  generalize (fun v : V => match v with | .ref t => (match H t with | some (.tup [.int i, .int j]) => (i, j) | _ => (0, 0)) | _ => ((0, 0) : Int × Int)) = kf at kT
  have tpk : ∀ {p : Nat × Nat} {v : V}, TP H p v → kf v = ((p.1 : Int), (p.2 : Int)) := fun h => by obtain ⟨t, rfl, z⟩ := h; exact kT z
  have gm : ∀ {ps : List (Nat × Nat)} {vs : List V}, F2 (TP H) ps vs → (∀ v ∈ vs, ∃ p, TP H p v) ∧ vs.map (fun v => rdN (kf v)) = ps := by
    intro ps vs h
    induction h with
    | nil => exact ⟨by simp, rfl⟩
    | cons h _ ih =>
      refine ⟨fun v hv => ?_, ?_⟩
      · rcases List.mem_cons.mp hv with rfl | hv
        · exact ⟨_, h⟩
        · exact ih.1 v hv
      · rw [List.map_cons, ih.2, tpk h]; rfl
  obtain ⟨g1, g2⟩ := gm tp
  refine ⟨P, ts, kf, rfl, SqL.of hP, fun v hv => ?_, fun ys q0 hs hst hq => ?_⟩
  · obtain ⟨p, hp⟩ := g1 v hv
    have z := tpk hp
    obtain ⟨t, rfl, ht⟩ := hp
    exact ⟨t, rfl, by rw [z]; exact ht⟩
  have all : ∀ v ∈ ys, ∃ p, TP H p v := fun v hv => g1 v (hst.perm.mem_iff.mp hv)
  refine q ys q0 (ys.map fun v => rdN (kf v)) hq ?_ ?_ (tp_all tpk ys all)
  · rw [← g2]; exact hst.perm.map _
  · rw [List.pairwise_map]
    refine hs.imp_of_mem fun {x y} hx hy z => ?_
    obtain ⟨p, hp⟩ := g1 x (hst.perm.mem_iff.mp hx)
    obtain ⟨p', hp'⟩ := g1 y (hst.perm.mem_iff.mp hy)
    have z' : SrtO.lexB (kf y) (kf x) = false := z
    rw [tpk hp, tpk hp'] at z'
    rw [tpk hp, tpk hp']
    have no := SrtO.lexB_no.mp z'
    unfold ltN ltR rdN
    simp only [Int.toNat_natCast, Bool.or_eq_false_iff, Bool.and_eq_false_iff, decide_eq_false_iff_not] at no ⊢
    omega
/-! other trees -/
theorem grown_leaf {n j : Nat} {rs qs : List (Nat × Nat)} (g : Grown n rs) (n1 : 1 ≤ n) (hj : j < n) (pq : qs.Perm (rs ++ [(j, n)])) : Grown (n + 1) qs := by
  obtain ⟨ns, b, pm, hb, pe⟩ := g
  have ln : ns.length = n := by rw [pm.length_eq, List.length_range]
  have jm : j ∈ ns := pm.mem_iff.mpr (List.mem_range.mpr hj)
  have jl : ns.idxOf j < n := by rw [← ln]; exact List.idxOf_lt_length_iff.mpr jm
  refine ⟨ns ++ [n], fun k => if k = n then ns.idxOf j else b k, ?_, fun k k1 kn => ?_, ?_⟩
  · rw [List.range_succ]; exact pm.append_right [n]
  · show (if k = n then ns.idxOf j else b k) < k
    by_cases c : k = n
    · rw [if_pos c, c]; exact jl
    · rw [if_neg c]; exact hb k k1 (by omega)
  · refine pq.trans ?_
    obtain ⟨m, rfl⟩ : ∃ m, n = m + 1 := Nat.exists_eq_add_of_le' n1
    rw [show m + 1 + 1 - 1 = m + 1 by omega, List.range_succ, List.map_append]
    refine List.Perm.append ?_ ?_
    · refine pe.trans ?_
      rw [show m + 1 - 1 = m by omega]
      refine List.Perm.of_eq (List.map_congr_left fun k hk => ?_)
      have hk := List.mem_range.mp hk
      have c : ¬ k + 1 = m + 1 := by omega
      have b' := hb (k + 1) (by omega) (by omega)
      show edge (ns[k + 1]?.getD 0) (ns[b (k + 1)]?.getD 0) = edge ((ns ++ [m + 1])[k + 1]?.getD 0) ((ns ++ [m + 1])[(if k + 1 = m + 1 then ns.idxOf j else b (k + 1))]?.getD 0)
      rw [if_neg c, List.getElem?_append_left (by omega), List.getElem?_append_left (by omega)]
    · show [(j, m + 1)].Perm [edge ((ns ++ [m + 1])[m + 1]?.getD 0) ((ns ++ [m + 1])[(if m + 1 = m + 1 then ns.idxOf j else b (m + 1))]?.getD 0)]
      rw [if_pos rfl, List.getElem?_append_right (by omega), List.getElem?_append_left (by omega), ln, Nat.sub_self]
      have e : ns[ns.idxOf j]?.getD 0 = j := by
        rw [List.getElem?_eq_getElem (by omega)]
        exact List.getElem_idxOf (by omega)
      rw [e]
      have e2 : edge (m + 1) j = (j, m + 1) := by unfold edge; split <;> first | rfl | omega
      show [(j, m + 1)].Perm [edge (m + 1) j]
      rw [e2]
def rowR (n : Nat) : List (Nat × Nat) := (List.range (n - 1)).map fun k => (k, k + 1)
def starR (n : Nat) : List (Nat × Nat) := (List.range (n - 1)).map fun k => (0, k + 1)
theorem grown_by {n : Nat} (b : Nat → Nat) (hb : ∀ k, 1 ≤ k → k < n → b k < k) : Grown n ((List.range (n - 1)).map fun k => (b (k + 1), k + 1)) := by
  refine ⟨List.range n, b, .refl _, hb, List.Perm.of_eq (List.map_congr_left fun k hk => ?_)⟩
  have hk := List.mem_range.mp hk
  have b' := hb (k + 1) (by omega) (by omega)
  have e : ∀ x, x < n → (List.range n)[x]?.getD 0 = x := fun x hx => by rw [List.getElem?_range hx]; rfl
  rw [e _ (by omega), e _ (by omega)]
  unfold edge; split <;> first | rfl | omega
theorem asc_by {m : Nat} (f : Nat → Nat × Nat) (h : ∀ i j, i < j → ltN (f j) (f i) = false) : ((List.range m).map f).Pairwise fun p q => ltN q p = false := by
  rw [List.pairwise_map]
  exact List.pairwise_lt_range.imp fun {i j} z => h i j z
theorem row_ok {n : Nat} (n1 : 1 ≤ n) (n16 : n ≤ 16) : WorldOk n (rowR n) :=
  ⟨n1, n16, grown_by (fun k => k - 1) (fun k k1 _ => by omega), asc_by _ fun i j z => by unfold ltN ltR; simp only [Bool.or_eq_false_iff, Bool.and_eq_false_iff, decide_eq_false_iff_not]; omega⟩
theorem star_ok {n : Nat} (n1 : 1 ≤ n) (n16 : n ≤ 16) : WorldOk n (starR n) :=
  ⟨n1, n16, grown_by (fun _ => 0) (fun k k1 _ => by omega), asc_by _ fun i j z => by unfold ltN ltR; simp only [Bool.or_eq_false_iff, Bool.and_eq_false_iff, decide_eq_false_iff_not]; omega⟩
theorem row_star {n : Nat} (h : 3 ≤ n) : starR n ≠ rowR n := fun e => by
  have z := congrArg (·[1]?) e
  unfold starR rowR at z
  simp only [List.getElem?_map] at z
  rw [List.getElem?_range (by omega)] at z
  simp at z
/-- a comprehension of pairs -/
theorem lc_pairs {wi : TI} {te : TE} {σ : L2.St} {H : Hp} {Q : VK} {g : TG} {vs : List Nat} {m : Nat} {item : Nat → V} (f : Nat → Nat × Nat) (hm : m ≤ 1000) (hw : ∀ P : It → Hp → Prop, (∀ J H1, Ex H H1 → ItS J H1 m item → P J H1) → wi σ H P)
    (turn : ∀ z H' (N : VK), z < m → Ex H H' → (∀ t, H' t = none → N (.ref t) (upd H' t (.tup [iV (f z).1, iV (f z).2]))) → g (item z) (wipe σ vs) H' fun σ2 H2 => wipe σ2 vs = wipe σ vs ∧ te σ2 H2 N)
    (fin : ∀ D ys H', H D = none → Ex H H' → H' D = some (.lst ys) → F2 (TP H') ((List.range m).map f) ys → Q (.ref D) H') : tLc wi g tYes te vs σ H Q := by
  refine lc_at (fun _ => true) (fun z D y H' => ∃ t, y = V.ref t ∧ t ≠ D ∧ H' t = some (.tup [iV (f z).1, iV (f z).2])) (line_big (by omega)) hw (fun i D y H' o hD ⟨t, h1, h2, h3⟩ => ⟨t, h1, h2, by rw [upd_ne h2]; exact h3⟩) (fun i D y H' H'' e ⟨t, h1, h2, h3⟩ => ⟨t, h1, h2, e _ _ h3⟩) ?_ ?_
  · rintro z D H' hz hD e ⟨acc, hacc⟩ Ny Nn hy hn
    exact turn z H' Ny hz e fun t ht => hy _ _ rfl (Evl.Ex.new ht) ⟨t, rfl, fun z => (by rw [z, hacc] at ht; cases ht), upd_same⟩
  · intro D ys H' hD e gD ff
    rw [range_all] at ff
    refine fin D ys H' hD e gD ?_
    have : ∀ {as : List Nat} {bs : List V}, F2 (fun z y => ∃ t, y = V.ref t ∧ t ≠ D ∧ H' t = some (.tup [iV (f z).1, iV (f z).2])) as bs → F2 (TP H') (as.map f) bs := by
      intro as bs h
      induction h with
      | nil => exact .nil
      | cons r _ ih => obtain ⟨t, h1, _, h3⟩ := r; exact .cons ⟨t, h1, h3⟩ ih
    exact this ff
theorem eqv_rdsL (rs qs : List (Nat × Nat)) : PyData.eqv (.list (rs.map pairD)) (.list (qs.map pairD)) = decide (rs = qs) := by
  rw [← eqv_rds rs qs]
  simp only [PyData.eqv]
theorem dp_pairs {K : PySem.W.Frag} {H : Hp} {a : Addr} {vs : List V} {rs : List (Nat × Nat)} (h : H a = some (.lst vs)) (t : F2 (TP H) rs vs) : Dp K H (.ref a) (.list (rs.map pairD)) :=
  Dq.dp (.lst (SqL.of h) (tp_dqs t)) (SeqAt.canLay_of_shaped (shaped_rdsL rs))
theorem tp_mono {H H' : Hp} {rs : List (Nat × Nat)} {vs : List V} (e : Ex H H') (h : F2 (TP H) rs vs) : F2 (TP H') rs vs := h.imp fun _ _ z => z.mono e
def sp__law_other (K : PySem.W.Frag) : Sp := sp2 fun a b H Q E => ∃ (A : Addr) (n c : Nat) (rs : List (Nat × Nat)), a = .ref A ∧ WorldAt K H b n rs ∧ c ≤ 800000 ∧ BoxAt H A c ∧
  ∀ w m qs H', Ex (L2.del H A) H' → BoxAt H' A (c + 3) → WorldAt K H' w m qs → (m, qs) ≠ (n, rs) → Q w H'
section
variable {K : PySem.W.Frag} {mg : Str → Option Value} {P : Program} {w : World} {base : Heap}
theorem ok__law_other (T : Tx K mg) : Cal P w K mg base CX0 3 "_law_other" ["_law_box_here", "_law_world_here"] (sp__law_other K) := by
  refine cal_of (fD__law_other T) (T.glo 52 rfl) sc__law_other (fun _ _ _ _ _ _ us hl => match us, hl with | [_, _], _ => rfl) (fun vs H Q E h => len2 h) (fun f cdv A outer s H vs Q E hr h => ?_)
  obtain ⟨a, b, rfl, h⟩ := h
  refine ⟨_, (PSs.nox (pss_cons (ps_par (i := 2) (j := 3) rfl sc__law_other.nd rfl rfl (by decide) rfl rfl (pa_cons (pe_ix (ix_listK (K := K)) (pv 1) pe_int (fun _ _ => rfl)) (pa_cons (pe_callTy (call_listK (K := K)) (by rfl) (T.free 8 rfl) (by decide +kernel) (pa_cons (pe_ix (ix_listK (K := K)) (pv 1) pe_int (fun _ _ => rfl)) pa_nil)) pa_nil)) (by rfl))
      (pss_cons (ps_if (PW.pt (pw_and (pt_cmpR op_lt (pv 2) pe_int (nomark _)) (pw_and1 (PW.pt (pw_or (pt_cmpR op_lt (pv 2) pe_int (nomark _)) (pw_or1 (pt_cmpR op_eq (pe_c (ok__law_take T) (hr.mono (by decide)) rfl pass0 (pa_cons (pv 0) (pa_cons pe_int pa_nil))) pe_int (nomark _)))))))) (pss_one (ps_ret (pe_lst (pa_cons (pe_op op_add (pv 2) pe_int) (pa_cons (pe_callB (cr_sortedPOK (K := K)) (by rfl) (T.free 13 rfl) (by decide +kernel) (pa_cons (pe_op op_cat (pv 3) (pe_lst (pa_cons (pe_tup (pa_cons (pe_c (ok__law_take T) (hr.mono (by decide)) rfl pass0 (pa_cons (pv 0) (pa_cons (pv 2) pa_nil))) (pa_cons (pv 2) pa_nil))) pa_nil))) pa_nil)) pa_nil))))) pss_nil)
      (pss_cons (ps_if (PW.pt (pw_and (pt_cmpR op_eq (pv 2) pe_int (nomark _)) (pw_and1 (pt_cmpR op_eq (pe_c (ok__law_take T) (hr.mono (by decide)) rfl pass0 (pa_cons (pv 0) (pa_cons pe_int pa_nil))) pe_int (nomark _))))) (pss_one (ps_ret (pe_lst (pa_cons pe_int (pa_cons (pe_lc (own := [("_law_k", 5)]) rfl sc__law_other.nd (pi_range1 (by rfl) (T.free 11 rfl) (pa_cons pe_int pa_nil)) (blkOk_by (own := [("_law_k", 5)]) (N := ["_law_box_here", "_law_world_here", "_law_many", "_law_pairs", "_law_row", "_law_k"]) (sc := defScope st__law_other) (by decide +kernel)) (fun _ _ _ _ _ => (pg_name (i := 5) sc__law_other.nd rfl (Or.inl rfl))) (fun _ _ _ _ _ => pts_nil) (fun _ _ _ _ _ => (pe_tup (pa_cons (pv 5) (pa_cons (pe_op op_add (pv 5) pe_int) pa_nil))))) pa_nil))))) pss_nil)
      (pss_cons (ps_setLc (i := 4) (own := [("_law_k", 5)]) rfl sc__law_other.nd rfl rfl (sw_true rfl rfl rfl (by decide +kernel)) (pi_range1 (by rfl) (T.free 11 rfl) (pa_cons (pe_op op_sub (pv 2) pe_int) pa_nil)) (blkOk_by (own := [("_law_k", 5)]) (N := ["_law_box_here", "_law_world_here", "_law_many", "_law_pairs", "_law_row", "_law_k"]) (sc := defScope st__law_other) (by decide +kernel)) (fun _ _ _ _ _ => (pg_name (i := 5) sc__law_other.nd rfl (Or.inl rfl))) (fun _ _ _ _ _ => pts_nil) (fun _ _ _ _ _ => (pe_tup (pa_cons (pv 5) (pa_cons (pe_op op_add (pv 5) pe_int) pa_nil)))))
      (pss_one (ps_ret (pe_ifExp (pt_cmpR (op_neDK (K := K) (hu64 hr.r)) (pv 4) (pv 3) (nomark _)) (pe_lst (pa_cons (pv 2) (pa_cons (pv 4) pa_nil))) (pe_lst (pa_cons (pv 2) (pa_cons (pe_lc (own := [("_law_k", 5)]) rfl sc__law_other.nd (pi_range2 (by rfl) (T.free 11 rfl) (pa_cons pe_int (pa_cons (pv 2) pa_nil))) (blkOk_by (own := [("_law_k", 5)]) (N := ["_law_box_here", "_law_world_here", "_law_many", "_law_pairs", "_law_row", "_law_k"]) (sc := defScope st__law_other) (by decide +kernel)) (fun _ _ _ _ _ => (pg_name (i := 5) sc__law_other.nd rfl (Or.inl rfl))) (fun _ _ _ _ _ => pts_nil) (fun _ _ _ _ _ => (pe_tup (pa_cons pe_int (pa_cons (pv 5) pa_nil))))) pa_nil))))))))))), ?_⟩
  obtain ⟨A, n, c, rs, rfl, wo, c9, hb, q⟩ := h
  obtain ⟨W, S, ts, rfl, hW, hS, hts⟩ := wo.at_
  have n1 := wo.ok.n1
  have n16 := wo.ok.n16
  obtain ⟨l0, hA0⟩ := hb.some
  have tpd : F2 (TP (L2.del H A)) rs ts := tp_del hA0 hts
  have tl : ts.length ≤ 16 := by
    obtain ⟨_, _, _, _, pe⟩ := wo.ok.gr
    have := hts.length
    have := pe.length_eq
    rw [List.length_map, List.length_range] at this
    omega
  have fin : ∀ {Hc : Hp} {S' : Addr} {ys : List V} {m : Nat} {qs : List (Nat × Nat)}, Ex (L2.del H A) Hc → BoxAt Hc A (c + 3) → Hc S' = some (.lst ys) → F2 (TP Hc) qs ys → WorldOk m qs → (m, qs) ≠ (n, rs) → ∀ U, Hc U = none → Q (.ref U) (upd Hc U (.lst [iV m, .ref S'])) := fun {Hc S' ys m qs} e hbc g tp ok ne U hU => by
    have eU := Evl.Ex.new (o := .lst [iV m, .ref S']) hU
    exact q (.ref U) m qs _ (e.trans eU) (hbc.mono eU) ⟨⟨U, S', ys, rfl, upd_same, eU _ _ g, tp_mono eU tp⟩, ok⟩ ne
  refine seq_at ?_
  refine ⟨_, rfl, W, _, 0, _, rfl, rfl, SqL.of hW, rfl, _, rfl, W, _, 1, _, rfl, rfl, SqL.of hW, rfl, S, ts, rfl, .inl (SqL.of hS), fun L hL => ⟨_, _, rfl, ?_⟩⟩
  have eL := Evl.Ex.new (o := .lst ts) hL
  have LA : L ≠ A := by rintro rfl; rw [hA0] at hL; cases hL
  have gL : upd H L (.lst ts) L = some (.lst ts) := upd_same
  have e1 : Ex (L2.del H A) (upd H L (.lst ts)) := Ex.ofDel.trans eL
  have hb1 := hb.mono eL
  dsimp only
  show tSeq _ _ _ [some (.ref A), some (.ref W), some (iV n), some (.ref L), none, none] (upd H L (.lst ts))
  generalize upd H L (.lst ts) = H1 at gL e1 hb1 ⊢
  clear eL
  have isZ : ∀ i : Nat, V.int (i : Int) = V.int 0 ∨ V.int (i : Int) ≠ V.int 0 := fun i => Classical.em _
  refine seq_at ?_
  refine ifS_split (fun H' => Ex (L2.del H A) H' ∧ Ex (L2.del H1 A) H' ∧ BoxAt H' A (c + 1) ∧ n < 16) (fun H' => Ex (L2.del H A) H' ∧ Ex (L2.del H1 A) H' ∧ BoxAt H' A (c + 1) ∧ 3 ≤ n) ?_ ?_ ?_
  rotate_left 2
  · intro R hT hF
    refine ⟨_, rfl, _, _, rfl, rfl, _, rfl, ?_⟩
    by_cases c16 : (n : Int) < 16
    · rw [decide_eq_true c16]
      refine iteT ?_
      refine ⟨_, rfl, _, _, rfl, rfl, _, rfl, ?_⟩
      by_cases c3 : (n : Int) < 3
      · rw [decide_eq_true c3]
        refine iteT ?_
        exact hT _ ⟨e1, Ex.ofDel, hb1.up (by omega), by omega⟩
      · rw [decide_eq_false c3]
        refine iteF ?_
        refine ⟨_, rfl, _, _, rfl, A, 2, c, rfl, rfl, by decide, by decide, by omega, hb1, fun i H2 hi e2 hb2 => ⟨rfl, _, rfl, ?_⟩⟩
        rcases isZ i with z | z
        · rw [decide_eq_true z]
          exact hT _ ⟨ex_of_del e1 del_same e2, e2, hb2, by omega⟩
        · rw [decide_eq_false z]
          exact hF _ ⟨ex_of_del e1 del_same e2, e2, hb2, by omega⟩
    · rw [decide_eq_false c16]
      refine iteF ?_
      exact hF _ ⟨e1, Ex.ofDel, hb1.up (by omega), by omega⟩
  · rintro H2 ⟨e2, e12, hb2, n15⟩
    refine ret_at ?_
    refine ⟨_, rfl, _, _, rfl, rfl, _, rfl, _, rfl, _, rfl, _, _, rfl, A, n, c + 1, rfl, rfl, n1, by omega, by omega, hb2, fun j H3 hj e3 hb3 => ⟨_, rfl, (by show 2 ≤ sizeLine; decide), fun t ht => ⟨(by show 1 ≤ sizeLine; decide), fun M hM => ?_⟩⟩⟩
    have e03 := ex_of_del e2 del_same e3
    have gL3 := del_get e3 LA (del_get e12 LA gL)
    have xt := Evl.Ex.new (o := .tup [iV j, iV n]) ht
    have xM := Evl.Ex.new (o := .lst [.ref t]) hM
    refine ⟨L, M, ts, _, rfl, rfl, xM _ _ (xt _ _ gL3), upd_same, Nat.le_of_lt (line_big (by show ts.length + 1 ≤ 100000; omega)), fun P hP => ?_⟩
    have xP := Evl.Ex.new (o := .lst (ts ++ [.ref t])) hP
    have e4 := ((e03.trans xt).trans xM).trans xP
    have hb4 := ((hb3.mono xt).mono xM).mono xP
    have gt := xP _ _ (xM _ _ (upd_same (H := H3) (a := t) (o := .tup [iV j, iV n])))
    dsimp only [tNil]
    refine sorted_tp upd_same (F2.snoc (a := (j, n)) ⟨t, rfl, gt⟩ (tp_mono e4 tpd)) fun ys q0 qs hq pq as tp => ?_
    have xq := Evl.Ex.new (o := .lst ys) hq
    refine ⟨(by show 2 ≤ sizeLine; decide), ?_⟩
    exact fin (m := n + 1) (e4.trans xq) ((hb4.mono xq).up (by omega)) upd_same (tp_mono xq tp) ⟨by omega, by omega, grown_leaf wo.ok.gr n1 hj pq, as⟩ fun z => by injection z with z _; omega
  rintro H2 ⟨e2, e12, hb2, n3⟩
  dsimp only [tNext]
  refine seq_at ?_
  refine ifS_split (fun H' => Ex (L2.del H A) H' ∧ BoxAt H' A (c + 2) ∧ n = 16) (fun H' => Ex (L2.del H A) H' ∧ Ex (L2.del H1 A) H' ∧ BoxAt H' A (c + 2)) ?_ ?_ ?_
  rotate_left 2
  · intro R hT hF
    refine ⟨_, rfl, rfl, _, rfl, ?_⟩
    by_cases z : n = 16
    · rw [decide_eq_true (show iV n = V.int 16 by rw [z]; rfl)]
      refine iteT ?_
      refine ⟨_, rfl, _, _, rfl, A, 2, c + 1, rfl, rfl, by decide, by decide, by omega, hb2, fun i H3 hi e3 hb3 => ⟨rfl, _, rfl, ?_⟩⟩
      rcases isZ i with y | y
      · rw [decide_eq_true y]
        exact hT _ ⟨ex_of_del e2 del_same e3, hb3, z⟩
      · rw [decide_eq_false y]
        exact hF _ ⟨ex_of_del e2 del_same e3, ex_of_del e12 del_same e3, hb3⟩
    · rw [decide_eq_false (show ¬ iV n = V.int 16 from fun y => z (by have := V.int.inj y; omega))]
      refine iteF ?_
      exact hF _ ⟨e2, e12, hb2.up (by omega)⟩
  · rintro H3 ⟨e3, hb3, z⟩
    refine ret_at ?_
    dsimp only [tLst, tCons, tC]
    refine lc_pairs (m := 14) (item := fun i => .int (0 + i)) (fun k => (k, k + 1)) (by decide) (fun P q => ⟨_, rfl, by decide, by decide, q _ _ (Evl.Ex.refl _) (its_r 0 14)⟩) ?_ ?_
    · intro z H' N hz e hN
      rw [show (V.int (0 + (z : Int))) = iV z by rw [Int.zero_add]; rfl]
      refine ⟨rfl, ?_⟩
      refine ⟨_, rfl, _, rfl, _, _, rfl, rfl, (by show 2 ≤ sizeLine; decide), fun t ht => ?_⟩
      exact hN t ht
    · intro D ys H' hD e gD tp
      refine ⟨(by show 2 ≤ sizeLine; decide), ?_⟩
      exact fin (m := 15) (qs := rowR 15) (e3.trans e) ((hb3.mono e).up (by omega)) gD tp (row_ok (by decide) (by decide)) fun y => by injection y with y _; omega
  rintro H3 ⟨e3, e13, hb3⟩
  dsimp only [tNext]
  refine seq_at (asg_at ?_)
  refine lc_pairs (m := n - 1) (item := fun i => .int (0 + i)) (fun k => (k, k + 1)) (by omega) (fun P q => ⟨_, rfl, _, _, rfl, rfl, _, rfl, by omega, by omega, by rw [show ((n : Int) - 1).toNat = n - 1 by omega]; exact q _ _ (Evl.Ex.refl _) (its_r 0 (n - 1))⟩) ?_ ?_
  · intro z H' N hz e hN
    rw [show (V.int (0 + (z : Int))) = iV z by rw [Int.zero_add]; rfl]
    refine ⟨rfl, ?_⟩
    refine ⟨_, rfl, _, rfl, _, _, rfl, rfl, (by show 2 ≤ sizeLine; decide), fun t ht => ?_⟩
    exact hN t ht
  · intro D ys H4 hD e gD tp
    dsimp only [gName]
    have e4 := e3.trans e
    have hb4 := hb3.mono e
    have gL4 := e _ _ (del_get e13 LA gL)
    refine ret_at ?_
    refine ⟨_, rfl, _, rfl, .list ((rowR n).map pairD), .list (rs.map pairD), dp_pairs gD tp, dp_pairs gL4 (tp_mono e4 tpd), shaped_rdsL _, shaped_rdsL _, _, rfl, ?_⟩
    rw [eqv_rdsL]
    by_cases y : rowR n = rs
    · rw [decide_eq_true y]
      refine iteF ?_
      dsimp only [tLst, tCons, tC]
      refine ⟨_, rfl, ?_⟩
      refine lc_pairs (m := n - 1) (item := fun i => .int (1 + i)) (fun k => (0, k + 1)) (by omega) (fun P q => ⟨_, rfl, _, _, rfl, ⟨by omega, by omega, by omega, by omega⟩, by rw [show ((n : Int) - 1).toNat = n - 1 by omega]; exact q _ _ (Evl.Ex.refl _) (its_r 1 (n - 1))⟩) ?_ ?_
      · intro z H' N hz e hN
        rw [show (V.int (1 + (z : Int))) = iV (z + 1) by unfold iV; congr 1; omega]
        refine ⟨rfl, ?_⟩
        refine ⟨_, rfl, (by show 2 ≤ sizeLine; decide), fun t ht => ?_⟩
        exact hN t ht
      · intro D2 ys2 H5 hD2 e5 gD2 tp2
        refine ⟨(by show 2 ≤ sizeLine; decide), ?_⟩
        exact fin (m := n) (qs := starR n) (e4.trans e5) ((hb4.mono e5).up (by omega)) gD2 tp2 (star_ok n1 n16) fun z => by
          injection z with _ z
          rw [← y] at z
          exact row_star n3 z
    · rw [decide_eq_false y]
      refine iteT ?_
      refine ⟨_, rfl, _, rfl, (by show 2 ≤ sizeLine; decide), ?_⟩
      exact fin (m := n) (qs := rowR n) e4 (hb4.up (by omega)) gD tp (row_ok n1 n16) fun z => by injection z with _ z; exact y z
end

end T1

namespace T1
open PySem PySem.Spec PyProof.Rows L2 G
open Evl (Ex)
local macro_rules | `(tactic| walk_at "dd") => `(tactic| (dsimp only [tCB, tCons, tNil, tC, tOp, tUn, tTest, tB, tVar, tAndV, tOrV, tNotV, tIf, tAnd, tOr, tNot, tSeq, tRet, tRetN, tIfS, tAsg, gName, tDrop, tTup, tLst, tChain, tNext, tCall, L2.start]))
section
variable {X : Cx} {K : PySem.W.Frag}
/-- Store(a, b) -/
theorem store_mk {a b : Expr} {ta : TA} {p pos : Pos} (T : Tx X.K X.mg) (hr : RG 5 X.A) (hg : Gl X "Store") (ha : PA X [a, b] ta) (h : X.K = K := by rfl)
    (one : OneByOne X a [b] pos := by exact ⟨rfl, rfl⟩) :
    PE X (.Call (.Name "Store" p) [a, b] [] pos) (tGM (He.ga K "Store") 2 0 (sp_Store___init__ K) (fun us _ => us ++ [.non]) E0 ta tNil) := by
  subst h
  obtain ⟨fd, F, G⟩ := ok_Store___init__ (P := X.prog) (w := X.w) (base := X.base) T
  obtain ⟨mv, kb⟩ := FunD.kbinds0 (ps := ["self", "tree", "homes", "cells"]) F 3 [] [("cells", .non)] (fun us mv _ => us ++ mv) (by simp) (fun q hq => hq) (fun r1 r2 _ => vals_app r1 r2)
    fun D doc pm an cdv ct us mv ws h1 h2 h3 => match us, mv, ws, h1, h2, h3 with
      | [a, b, c], [m], [], _, _, _ => ⟨_, _, _, _, _, _, rfl, rfl, rfl⟩
  exact pe_gmk (mk_Store T) G hr hg (T.glo 10 rfl) kb passL ha (by decide) one
theorem store_eq (T : Tx X.K X.mg) (hr : RG 3 X.A) (h : X.K = K := by rfl) : OpR X (compareOp .Eq) (rCmpO K (He.ga K "Store") false (sp_Store___eq__ K) E0) := by
  subst h
  obtain ⟨fd, F, G⟩ := ok_Store___eq__ (P := X.prog) (w := X.w) (base := X.base) T
  exact op_eqO ⟨(me_Store___eq__ T).at_, (me_Store___eq__ T).fn.symm⟩ G hr (F.bindsN fun _ _ _ _ _ _ us hl => match us, hl with | [_, _], _ => rfl) pass0
end
theorem cmp_data {K : PySem.W.Frag} {mg : Str → Option Value} {H : Hp} {s : Addr} {n : Nat} {rs Fs} {v : V} {d : PyData} {Q : VK} {neg : Bool} (T : Tx K mg) (h1 : TreeAt K H s n rs Fs) (hd : Dq K H v d) (q : Q (.bl neg) H) : rCmpO K (He.ga K "Tree") neg (sp_Tree___eq__ K) E0 (.ref s) v H Q :=
  ⟨s, _, rfl, h1.ins, hd.ty, nf_of ((T.own 0 rfl).ty _ (tyN_mem d)), _, _, rfl, s, n, rs, Fs, rfl, h1, .inr ⟨.inl ⟨d, hd⟩, false, rfl, by cases neg <;> exact q⟩⟩
theorem cmp_store {K : PySem.W.Frag} {mg : Str → Option Value} {H : Hp} {s t : Addr} {n : Nat} {rs Fs} {Q : VK} {neg : Bool} (T : Tx K mg) (h1 : TreeAt K H s n rs Fs) (hs : InsAt (He.ga K "Store") t H) (q : Q (.bl neg) H) : rCmpO K (He.ga K "Tree") neg (sp_Tree___eq__ K) E0 (.ref s) (.ref t) H Q := by
  have hs' := hs
  obtain ⟨_, _, g⟩ := hs'
  exact ⟨s, _, rfl, h1.ins, .base (.ins g (cl_Store T) (T.own 1 rfl).ha (T.own 1 rfl).got.1.symm (T.own 1 rfl).got.2.symm (T.own 1 rfl).hm), nf_of ((T.own 0 rfl).ow "Store" (by decide)), _, _, rfl, s, n, rs, Fs, rfl, h1, .inr ⟨.inr ⟨t, rfl, hs⟩, false, rfl, by cases neg <;> exact q⟩⟩
theorem store_tree {K : PySem.W.Frag} {mg : Str → Option Value} {H : Hp} {s t : Addr} {n : Nat} {rs Fs} {Q : VK} (T : Tx K mg) (h1 : TreeAt K H s n rs Fs) (hs : InsAt (He.ga K "Store") t H) (q : Q (.bl false) H) : rCmpO K (He.ga K "Store") false (sp_Store___eq__ K) E0 (.ref t) (.ref s) H Q := by
  have ht := h1.ins
  have ht' := ht
  obtain ⟨_, _, g⟩ := ht'
  exact ⟨t, _, rfl, hs, .base (.ins g (cl_Tree T) (T.own 0 rfl).ha (T.own 0 rfl).got.1.symm (T.own 0 rfl).got.2.symm (T.own 0 rfl).hm), nf_of ((T.own 1 rfl).ow "Tree" (by decide)), _, _, rfl, t, s, rfl, hs, rfl, ht, false, rfl, q⟩
theorem tupsAll_map {α : Type} (f : α → PyData) (h : ∀ a, tups (f a) = true) : ∀ l : List α, tupsAll (l.map f) = true
  | [] => rfl
  | a :: l => by
    have ih := tupsAll_map f h l
    simp only [List.map_cons, tupsAll, h a, ih, Bool.and_self]
theorem tups_pairs (rs : List (Nat × Nat)) : tups (.tuple (rs.map pairD)) = true := tupsAll_map pairD (fun _ => rfl) rs
/-- the box is no part of a tree -/
theorem TreeAt.del {K : PySem.W.Frag} {H : Hp} {s A : Addr} {n c : Nat} {rs Fs} (h : TreeAt K H s n rs Fs) (hb : BoxAt H A c) : TreeAt K (L2.del H A) s n rs Fs := by
  obtain ⟨l, hA⟩ := hb.some
  obtain ⟨⟨dx, r1, r2, r3, z, h1, h2, h3⟩, b1, b2, b3, b4, b5⟩ := h
  exact ⟨⟨dx, r1, r2, r3, by rw [del_ne (fun e => by rw [e, hA] at z; cases z)]; exact z, h1.del hA (tups_pairs rs), h2.del hA (tups_rows _), h3.del hA (tupsAll_map rowsD (fun F => tups_rows F) Fs)⟩, b1, b2, b3, b4, b5⟩
theorem rdsOf_pairs {d : PyData} {rs : List (Nat × Nat)} (hi : items d = rs.map pairD) : rdsOf d = rs := by
  unfold rdsOf
  rw [hi, List.map_map]
  exact (List.map_congr_left fun p _ => by show (((p.1 : Int)).toNat, ((p.2 : Int)).toNat) = p; simp).trans (List.map_id _)
/-- Tree(..) of a world's houses and roads -/
theorem world_tree {K : PySem.W.Frag} {H : Hp} {a b : V} {d2 : PyData} {n : Nat} {rs : List (Nat × Nat)} {Q : Addr → Hp → Prop} (wo : WorldOk n rs) (ha : Dq K H a (.int (n : Int))) (hb : Dq K H b d2) (hs : isSeq d2 = true) (hi : items d2 = rs.map pairD) (q : ∀ t H' Fs, Ex H H' → H t = none → TreeAt K H' t n rs Fs → Q t H') :
    ∀ x dx, H x = none → H dx = none → dx ≠ x → sp_Tree___init__ K [.ref x, a, b] (upd (upd H dx (.own x)) x (.ins (He.ga K "Tree") dx [])) (fun v H3 => v = .non ∧ Q x H3) E0 := by
  have er := rdsOf_pairs hi
  have n16 := wo.n16
  have rl := wo.rl
  refine tree_made ha hb (wo.are hs hi) wo.n1 n16 (by rw [hi, List.length_map]; omega) (fun x hx => ?_) (fun F W v hv => ?_) (by rw [er]; exact q)
  · rw [hi] at hx
    obtain ⟨p, _, rfl⟩ := List.mem_map.mp hx
    show (2 : Nat) ≤ 100000
    decide
  · rw [er] at W
    obtain ⟨p, P⟩ := (TreeG.of wo.gr).con 0 v (by have := wo.n1; omega) hv
    exact W.reach P
def sp__law_equal_right (K : PySem.W.Frag) : Sp := sp3 fun a b c H Q E => ∃ (A s : Addr) (n : Nat) (rs : List (Nat × Nat)) (Fs : List (List (List Nat))) (c0 : Nat), a = .ref A ∧ b = .ref s ∧ TreeAt K (L2.del H A) s n rs Fs ∧ WorldAt K (L2.del H A) c n rs ∧ c0 ≤ 400000 ∧ BoxAt H A c0 ∧
  ∀ H', Ex (L2.del H A) H' → BoxAt H' A (c0 + 3) → Q (.bl true) H'
section
variable {K : PySem.W.Frag} {mg : Str → Option Value} {P : Program} {w : World} {base : Heap}
theorem ok__law_equal_right (T : Tx K mg) : Cal P w K mg base CX0 8 "_law_equal_right" ["_law_box_here", "_law_web", "_law_world_here"] (sp__law_equal_right K) := by
  refine cal_of (fD__law_equal_right T) (T.glo 53 rfl) sc__law_equal_right (fun _ _ _ _ _ _ us hl => match us, hl with | [_, _, _], _ => rfl) (fun vs H Q E h => len3 h) (fun f cdv A outer s H vs Q E hr h => ?_)
  obtain ⟨a, b, c, rfl, h⟩ := h
  refine ⟨_, (PSs.nox (pss_cons (ps_par (i := 3) (j := 4) rfl sc__law_equal_right.nd rfl rfl (by decide) rfl rfl (pa_cons (tree_mk (K := K) T (hr.mono (by decide)) rfl (pa_cons (pe_ix (ix_listK (K := K)) (pv 2) pe_int (fun _ _ => rfl)) (pa_cons (pe_callTy (call_tupK (K := K)) (by rfl) (T.free 15 rfl) (by decide +kernel) (pa_cons (pe_ix (ix_listK (K := K)) (pv 2) pe_int (fun _ _ => rfl)) pa_nil)) pa_nil))) (pa_cons (pe_c (ok__law_other T) (hr.mono (by decide)) rfl pass0 (pa_cons (pv 0) (pa_cons (pv 2) pa_nil))) pa_nil)) (by rfl))
      (pss_cons (ps_if (PW.pt (pw_or (pt_cmpR op_notBl (pe_cmpR (tree_eq (K := K) T (hr.mono (by decide))) (pv 1) (pv 3) (nomark _)) pe_bl (nomark _)) (pw_or (pt_cmpR op_notBl (pe_cmpR (tree_ne (K := K) T (hr.mono (by decide))) (pv 1) (pv 3) (nomark _)) pe_bl (nomark _)) (pw_or1 (pt_cmpR op_notBl (pe_cmpR (tree_eq (K := K) T (hr.mono (by decide))) (pv 3) (pv 1) (nomark _)) pe_bl (nomark _)))))) (pss_one (ps_ret pe_bl)) pss_nil)
      (pss_cons (ps_set (i := 5) sc__law_equal_right.nd rfl (Or.inl rfl) (tree_mkK (K := K) T (hr.mono (by decide)) rfl (pk_cons (pe_ix (ix_listK (K := K)) (pv 4) pe_int (fun _ _ => rfl)) (pk_cons (pe_ix (ix_listK (K := K)) (pv 4) pe_int (fun _ _ => rfl)) pk_nil))))
      (pss_cons (ps_if (PW.pt (pw_or (pt_cmpR op_notBl (pe_cmpR (tree_eq (K := K) T (hr.mono (by decide))) (pv 1) (pv 5) (nomark _)) pe_bl (nomark _)) (pw_or (pt_cmpR op_notBl (pe_cmpR (tree_ne (K := K) T (hr.mono (by decide))) (pv 1) (pv 5) (nomark _)) pe_bl (nomark _)) (pw_or1 (pt_cmpR op_notBl (pe_cmpR (tree_eq (K := K) T (hr.mono (by decide))) (pv 5) (pv 1) (nomark _)) pe_bl (nomark _)))))) (pss_one (ps_ret pe_bl)) pss_nil)
      (pss_cons (ps_set (i := 6) sc__law_equal_right.nd rfl (Or.inl rfl) (store_mk (K := K) T (hr.mono (by decide)) rfl (pa_cons (pv 1) (pa_cons (pe_lst pa_nil) pa_nil))))
      (pss_cons (ps_for PassesOwn.never rfl (pi_list (pe_lst (pa_cons pe_non (pa_cons (pe_ix (ix_listK (K := K)) (pv 2) pe_int (fun _ _ => rfl)) (pa_cons (pe_callTy (call_listK (K := K)) (by rfl) (T.free 8 rfl) (by decide +kernel) (pa_cons (pe_ix (ix_listK (K := K)) (pv 2) pe_int (fun _ _ => rfl)) pa_nil)) (pa_cons (pe_tup (pa_cons (pe_ix (ix_listK (K := K)) (pv 2) pe_int (fun _ _ => rfl)) (pa_cons (pe_callTy (call_tupK (K := K)) (by rfl) (T.free 15 rfl) (by decide +kernel) (pa_cons (pe_ix (ix_listK (K := K)) (pv 2) pe_int (fun _ _ => rfl)) pa_nil)) pa_nil))) (pa_cons pe_str (pa_cons (pv 6) pa_nil)))))))) (pg_name (i := 7) sc__law_equal_right.nd rfl (Or.inl rfl)) (pss_one (ps_if (PW.pt (pw_or (pt_cmpR op_notBl (pe_cmpR (tree_eq (K := K) T (hr.mono (by decide))) (pv 1) (pv 7) (nomark _)) pe_bl (nomark _)) (pw_or1 (pt_cmpR op_notBl (pe_cmpR (tree_ne (K := K) T (hr.mono (by decide))) (pv 1) (pv 7) (nomark _)) pe_bl (nomark _))))) (pss_one (ps_ret pe_bl)) pss_nil)))
      (pss_one (ps_ret (pe_and (pe_cmpR op_isBl (pe_cmpR (store_eq (K := K) T (hr.mono (by decide))) (pv 6) (pv 1) (nomark _)) pe_bl (nomark _)) (pe_and (pe_cmpR (tree_eq (K := K) T (hr.mono (by decide))) (pe_fldK (K := K) (pv 6)) (pv 3) (nomark _)) (pe_one (pe_cmpR op_eq (pe_callB (tree_len (K := K) T (hr.mono (by decide))) (by rfl) (T.free 7 rfl) (by decide +kernel) (pa_cons (pv 5) pa_nil)) (pe_ix (ix_listK (K := K)) (pv 4) pe_int (fun _ _ => rfl)) (nomark _)))))))))))))), ?_⟩
  obtain ⟨A, s0, n, rs, Fs, c0, rfl, rfl, tr, wo, c9, hb, q⟩ := h
  have n1 := wo.ok.n1
  have n16 := wo.ok.n16
  obtain ⟨W, S, ts, rfl, hW, hS, hts⟩ := wo.at_
  have d0 : Ex (L2.del H A) H := Ex.ofDel
  refine seq_at ?_
  refine ⟨_, rfl, W, _, 0, _, rfl, rfl, SqL.of (d0 _ _ hW), rfl, _, rfl, W, _, 1, _, rfl, rfl, SqL.of (d0 _ _ hW), rfl, S, ts, rfl, .inl ⟨SqL.of (d0 _ _ hS), fun t ht => ⟨rfl, rfl, ?_⟩⟩⟩
  have xt := Evl.Ex.new (o := .tup ts) ht
  refine world_tree (d2 := .tuple (rs.map pairD)) wo.ok (.int _) (.tup (SqT.of upd_same) ((tp_dqs hts).mono (d0.trans xt))) rfl rfl fun x H2 Fs2 e2 hx tw => ?_
  have hb2 := (hb.mono xt).mono e2
  have e02 := (d0.trans xt).trans e2
  have tw2 := tw.del hb2
  refine ⟨_, rfl, _, rfl, _, _, rfl, A, n, c0, rs, rfl, wo.mono e02, by omega, hb2, fun w m qs H3 e3 hb3 wo3 ne => ⟨_, _, rfl, ?_⟩⟩
  have e03 := ex_of_del e02 del_same e3
  have tr3 := tr.mono e03
  have tw3 := tw2.mono e3
  have hW3 := e03 _ _ hW
  have hS3 := e03 _ _ hS
  have qt3 := (tp_dqs (K := K) hts).mono e03
  clear tw2 tw e3 hb2 e02 e2 xt
  obtain ⟨W3, S3, ts3, rfl, hV, hU, hts3⟩ := wo3.at_
  have eT : (decide (n = n) && decide (rs = rs)) = true := by simp
  have eF : (decide (n = m) && decide (rs = qs)) = false := by
    rw [Bool.and_eq_false_iff, decide_eq_false_iff_not, decide_eq_false_iff_not]
    by_cases z : n = m
    · exact .inr fun y => ne (by rw [z, y])
    · exact .inl z
  have eG : (decide (m = n) && decide (qs = rs)) = false := by
    rw [Bool.and_eq_false_iff, decide_eq_false_iff_not, decide_eq_false_iff_not]
    by_cases z : m = n
    · exact .inr fun y => ne (by rw [z, y])
    · exact .inl z
  dsimp only
  refine seq_at ?_
  refine ⟨_, rfl, _, rfl, eq_trees T tr3 tw3 ⟨_, _, rfl, rfl, _, rfl, ?_⟩⟩
  rw [eT]
  refine iteF ?_
  refine ⟨_, rfl, _, rfl, ne_trees T tr3 tw3 ⟨_, _, rfl, rfl, _, rfl, ?_⟩⟩
  rw [eT]
  refine iteF ?_
  refine ⟨_, rfl, _, rfl, eq_trees T tw3 tr3 ⟨_, _, rfl, rfl, _, rfl, ?_⟩⟩
  rw [eT]
  refine iteF ?_
  dsimp only [tNext]
  refine seq_at (asg_at ?_)
  refine ⟨_, rfl, W3, _, 0, _, rfl, rfl, SqL.of hV, rfl, _, rfl, W3, _, 1, _, rfl, rfl, SqL.of hV, rfl, rfl, rfl, ?_⟩
  refine world_tree (d2 := .list (qs.map pairD)) wo3.ok (.int _) (.lst (SqL.of hU) (tp_dqs hts3)) rfl rfl fun y H4 Fs3 e4 _ to4 => ?_
  have tr4 := tr3.mono e4
  have tw4 := tw3.mono e4
  dsimp only [gName]
  refine seq_at ?_
  refine ⟨_, rfl, _, rfl, eq_trees T tr4 to4 ⟨_, _, rfl, rfl, _, rfl, ?_⟩⟩
  rw [eF]
  refine iteF ?_
  refine ⟨_, rfl, _, rfl, ne_trees T tr4 to4 ⟨_, _, rfl, rfl, _, rfl, ?_⟩⟩
  rw [eF]
  refine iteF ?_
  refine ⟨_, rfl, _, rfl, eq_trees T to4 tr4 ⟨_, _, rfl, rfl, _, rfl, ?_⟩⟩
  rw [eG]
  refine iteF ?_
  dsimp only [tNext]
  refine seq_at (asg_at ?_)
  refine ⟨_, rfl, Nat.zero_le _, fun l hl => ⟨rfl, rfl, fun z dz hz hdz zne => ?_⟩⟩
  have xl := Evl.Ex.new (o := .lst []) hl
  have gl : upd H4 l (.lst []) l = some (.lst []) := upd_same
  generalize upd H4 l (.lst []) = H5 at xl gl hz hdz ⊢
  have eX : Ex H5 (upd (upd H5 dz (.own z)) z (.ins (He.ga K "Store") dz [])) := fun b o e => by rw [upd_ne (ne_of_none e hz), upd_ne (ne_of_none e hdz)]; exact e
  refine ⟨_, _, _, _, rfl, H5, z, dz, s0, n, rs, Fs, rfl, eX, hz, upd_same, rfl, tr4.mono xl, .lst (SqL.of gl) .nil, rfl, fun r1 r2 H6 e6 g6 => ⟨rfl, ?_⟩⟩
  have e36 := (e4.trans xl).trans e6
  have tr6 := tr3.mono e36
  have tw6 := tw3.mono e36
  have to6 := to4.mono (xl.trans e6)
  have hW6 := e36 _ _ hW3
  have hS6 := e36 _ _ hS3
  have qt6 := qt3.mono e36
  have hV6 := e36 _ _ hV
  have e06 := e03.trans e36
  have hb6 := hb3.mono e36
  have st6 : InsAt (He.ga K "Store") z H6 := ⟨_, _, g6⟩
  clear eX
  dsimp only [gName]
  refine seq_at ?_
  refine for_lit (n := 6) (fun it H1 => ∀ i, i < 6 → (∃ d, Dq K H1 (it i) d) ∨ it i = .ref z) (fun P q => ?_) (fun i σ' => ∃ s7, σ' = [some (.ref A), some (.ref s0), some (.ref W), some (.ref x), some (.ref W3), some (.ref y), some (.ref z), s7]) ⟨_, rfl⟩ ?_ ?_
  · refine ⟨_, rfl, W, _, 0, _, rfl, rfl, SqL.of hW6, rfl, _, rfl, W, _, 1, _, rfl, rfl, SqL.of hW6, rfl, S, ts, rfl, .inl (SqL.of hS6), fun p hp => ?_⟩
    have x1 := Evl.Ex.new (o := .lst ts) hp
    refine ⟨_, rfl, W, _, 0, _, rfl, rfl, SqL.of (x1 _ _ hW6), rfl, _, rfl, W, _, 1, _, rfl, rfl, SqL.of (x1 _ _ hW6), rfl, S, ts, rfl, .inl ⟨SqL.of (x1 _ _ hS6), fun t ht => ⟨(by show 2 ≤ sizeLine; decide), fun u hu => ⟨_, rfl, (by show 6 ≤ sizeLine; decide), fun L hL => ⟨L, rfl, ⟨_, SqL.of upd_same⟩, q _ _ _ (fun i hi => ?_) ?_ (its_l (SqL.of upd_same))⟩⟩⟩⟩⟩
    · have x2 := Evl.Ex.new (o := .tup ts) ht
      have x3 := Evl.Ex.new (o := .tup [iV n, .ref t]) hu
      have x4 := fun o => Evl.Ex.new (o := o) hL
      have q1 := qt6.mono x1
      have q2 := q1.mono x2
      have q3 := q2.mono x3
      match i, hi with
      | 0, _ => exact .inl ⟨_, .non⟩
      | 1, _ => exact .inl ⟨_, .int _⟩
      | 2, _ => exact .inl ⟨.list (rs.map pairD), .lst (SqL.of (x4 _ _ _ (x3 _ _ (x2 _ _ upd_same)))) (q3.mono (x4 _))⟩
      | 3, _ => exact .inl ⟨.tuple [.int (n : Int), .tuple (rs.map pairD)], .tup (SqT.of (x4 _ _ _ upd_same)) (.cons (.int _) (.cons (.tup (SqT.of (x4 _ _ _ (x3 _ _ upd_same))) (q3.mono (x4 _))) .nil))⟩
      | 4, _ => exact .inl ⟨_, .str _⟩
      | 5, _ => exact .inr rfl
    · exact ((x1.trans (Evl.Ex.new ht)).trans (Evl.Ex.new hu)).trans (Evl.Ex.new hL)
  · rintro item H1 i σ' H7 it e5 e7 hi ⟨s7, rfl⟩
    have e67 := e5.trans e7
    have tr7 := tr6.mono e67
    have st7 := st6.mono e67
    have cmp : ∀ {neg : Bool} {N : VK}, N (.bl neg) H7 → rCmpO K (He.ga K "Tree") neg (sp_Tree___eq__ K) E0 (.ref s0) (item i) H7 N := fun {neg N} k => by
      rcases it i hi with ⟨d, hd⟩ | e
      · exact cmp_data T tr7 (hd.mono e7) k
      · rw [e]; exact cmp_store T tr7 st7 k
    dsimp only [gName]
    refine ⟨_, rfl, _, rfl, cmp ⟨_, _, rfl, rfl, _, rfl, ?_⟩⟩
    refine iteF ?_
    refine ⟨_, rfl, _, rfl, cmp ⟨_, _, rfl, rfl, _, rfl, ?_⟩⟩
    refine iteF ?_
    exact ⟨⟨_, rfl⟩, e7⟩
  rintro σ' H7 ⟨s7, rfl⟩ e7
  dsimp only
  refine ret_at ?_
  have tr7 := tr6.mono e7
  have tw7 := tw6.mono e7
  have to7 := to6.mono e7
  have m16 := wo3.ok.n16
  refine ⟨_, rfl, _, rfl, store_tree T tr7 (st6.mono e7) ⟨_, _, rfl, rfl, _, rfl, ?_⟩⟩
  refine iteT ?_
  refine ⟨_, rfl, z, _, dz, _, _, rfl, e7 _ _ g6, cl_Store T, no_Store_tree T, rfl, _, rfl, eq_trees T tr7 tw7 ⟨_, rfl, ?_⟩⟩
  rw [eT]
  refine iteT ?_
  refine ⟨_, rfl, y, rfl, to7.ins, _, rfl, y, m, qs, Fs3, rfl, to7, (m : Int), rfl, ⟨by omega, by omega⟩, _, rfl, W3, _, 0, _, rfl, rfl, SqL.of (e7 _ _ hV6), rfl, rfl, ?_⟩
  rw [show decide (V.int (m : Int) = iV m) = true from decide_eq_true rfl]
  exact q _ (e06.trans e7) (hb6.mono e7)
end

end T1

namespace T1
open PySem PySem.Spec PyProof.Rows L2 G
open Evl (Ex)
local macro_rules | `(tactic| walk_at "dd") => `(tactic| (dsimp only [tCB, tCons, tNil, tC, tOp, tUn, tTest, tB, tVar, tAndV, tOrV, tNotV, tIf, tAnd, tOr, tNot, tSeq, tRet, tRetN, tIfS, tAsg, gName, tDrop, tTup, tLst, tChain, tNext, tCall, L2.start]))
theorem TreeAt.delL {K : PySem.W.Frag} {H : Hp} {s A : Addr} {n : Nat} {rs Fs} {l : List V} (h : TreeAt K H s n rs Fs) (hA : H A = some (.lst l)) : TreeAt K (L2.del H A) s n rs Fs := by
  obtain ⟨⟨dx, r1, r2, r3, z, h1, h2, h3⟩, b1, b2, b3, b4, b5⟩ := h
  exact ⟨⟨dx, r1, r2, r3, by rw [del_ne (fun e => by rw [e, hA] at z; cases z)]; exact z, h1.del hA (tups_pairs rs), h2.del hA (tups_rows _), h3.del hA (tupsAll_map rowsD (fun F => tups_rows F) Fs)⟩, b1, b2, b3, b4, b5⟩
/-- a tree, its world and its ways, in a list -/
def Trio3 (K : PySem.W.Frag) (X : Hp) (v : V) : Prop := ∃ a s wv yv n rs Fs, v = .ref a ∧ X a = some (.lst [.ref s, wv, yv]) ∧ TrioAt K X s wv yv n rs Fs
theorem Trio3.mono {K : PySem.W.Frag} {X Y : Hp} {v : V} (e : Ex X Y) (h : Trio3 K X v) : Trio3 K Y v :=
  let ⟨a, s, wv, yv, n, rs, Fs, h1, h2, h3⟩ := h; ⟨a, s, wv, yv, n, rs, Fs, h1, e _ _ h2, h3.mono e⟩
theorem ex_two {H H' : Hp} {M A : Addr} (e : ∀ a o, a ≠ M → a ≠ A → H a = some o → H' a = some o) : Ex (L2.del (L2.del H M) A) (L2.del (L2.del H' M) A) := fun a o z => by
  have ne : a ≠ A := by rintro rfl; rw [del_same] at z; cases z
  rw [del_ne ne] at z
  have nd : a ≠ M := by rintro rfl; rw [del_same] at z; cases z
  rw [del_ne nd] at z
  rw [del_ne ne, del_ne nd]
  exact e a o nd ne z
theorem ex_sub {H : Hp} {M A : Addr} : Ex (L2.del (L2.del H M) A) (L2.del H A) := fun a o z => by
  have ne : a ≠ A := by rintro rfl; rw [del_same] at z; cases z
  rw [del_ne ne] at z
  have nd : a ≠ M := by rintro rfl; rw [del_same] at z; cases z
  rw [del_ne nd] at z
  rw [del_ne ne]
  exact z
theorem get_two {H : Hp} {a M A : Addr} {o : HO} (h : H a = some o) (n1 : a ≠ M) (n2 : a ≠ A) : L2.del (L2.del H M) A a = some o := by rw [del_ne n2, del_ne n1]; exact h
/-- the law's own ways, one list for each house -/
theorem lc_ways {wi : TI} {te : TE} {σ : L2.St} {H : Hp} {Q : VK} {g : TG} {vs : List Nat} {n : Nat} {rs : List (Nat × Nat)} {Fs : List (List (List Nat))} {item : Nat → V} (w : WaysOk n rs Fs) (one : M.OneWay (nbs n rs)) (hn : n ≤ 1000) (hw : ∀ P : It → Hp → Prop, (∀ J H1, Ex H H1 → ItS J H1 n item → P J H1) → wi σ H P)
    (turn : ∀ z H' (N : VK), z < n → Ex H H' → (∀ r H'' F, Ex H' H'' → M.Ways (nbs n rs) z F → H' r = none → FA H'' r F → N (.ref r) H'') → g (item z) (wipe σ vs) H' fun σ2 H2 => wipe σ2 vs = wipe σ vs ∧ te σ2 H2 N)
    (fin : ∀ D ys H', H D = none → Ex H H' → H' D = some (.lst ys) → ys.length = n → (∀ z, z < n → ∃ r ws, ys[z]? = some (V.ref r) ∧ H r = none ∧ H' r = some (.lst ws) ∧ ws.length = n ∧ ∀ j, j < n → ∃ t, ws[j]? = some (V.ref t) ∧ H' t = some (.tup ((wy Fs z j).map iV))) → Q (.ref D) H') : tLc wi g tYes te vs σ H Q := by
  refine lc_at (fun _ => true) (fun z D y H' => ∃ r ws, y = V.ref r ∧ r ≠ D ∧ H r = none ∧ H' r = some (.lst ws) ∧ ws.length = n ∧ ∀ j, j < n → ∃ t, ws[j]? = some (V.ref t) ∧ t ≠ D ∧ H' t = some (.tup ((wy Fs z j).map iV))) (line_big (by omega)) hw ?_ ?_ ?_ ?_
  · rintro i D y H' o hD ⟨r, ws, h1, h2, h3, h4, h5, h6⟩
    refine ⟨r, ws, h1, h2, h3, by rw [upd_ne h2]; exact h4, h5, fun j hj => ?_⟩
    obtain ⟨t, t1, t2, t3⟩ := h6 j hj
    exact ⟨t, t1, t2, by rw [upd_ne t2]; exact t3⟩
  · rintro i D y H' H'' e ⟨r, ws, h1, h2, h3, h4, h5, h6⟩
    refine ⟨r, ws, h1, h2, h3, e _ _ h4, h5, fun j hj => ?_⟩
    obtain ⟨t, t1, t2, t3⟩ := h6 j hj
    exact ⟨t, t1, t2, e _ _ t3⟩
  · rintro z D H' hz hD e ⟨acc, hacc⟩ Ny Nn hy hn'
    refine turn z H' Ny hz e fun r H'' F e'' W hr fa => hy _ _ rfl e'' ?_
    obtain ⟨F', e1, w1, ew⟩ := w.at_ hz
    have eF := W.eq one w1
    subst eF
    obtain ⟨us, h1, h2⟩ := fa
    have hD2 := e'' _ _ hacc
    have ln : F.length = n := by rw [W.len]; unfold nbs; rw [List.length_map, List.length_range]
    refine ⟨r, us, rfl, fun y => (by rw [y, hacc] at hr; cases hr), Evl.fresh_back e hr, h1, by rw [← h2.length]; exact ln, fun j hj => ?_⟩
    have gj : F[j]? = some F[j] := List.getElem?_eq_getElem (by omega)
    obtain ⟨y, h3, t, rfl, h4⟩ := f2_get h2 gj
    refine ⟨t, h3, fun y => (by rw [y, hD2] at h4; cases h4), ?_⟩
    rw [ew j, show M.at_ F j = F[j] by unfold M.at_; rw [gj]; rfl]
    exact h4
  · intro D ys H' hD e gD f
    rw [range_all] at f
    have ly := f.length
    rw [List.length_range] at ly
    refine fin D ys H' hD e gD ly.symm fun z hz => ?_
    obtain ⟨y, h1, r, ws, rfl, h2, h3, h4, h5, h6⟩ := f2_get f (List.getElem?_range hz)
    refine ⟨r, ws, h1, h3, h4, h5, fun j hj => ?_⟩
    obtain ⟨t, t1, t2, t3⟩ := h6 j hj
    exact ⟨t, t1, t3⟩
/-- a loop, what it runs over known only when it is made -/
theorem for_wi {wi : TI} {g : TG} {tb : TS} {D : Ends} {σ : L2.St} {H : Hp} (C : It → Hp → Prop) (hw : ∀ P : It → Hp → Prop, (∀ J H1, C J H1 → P J H1) → wi σ H P)
    (go : ∀ J H1, C J H1 → ∃ (B : Hp) (n : Nat) (item : Nat → V) (Pv : Nat → L2.St → Hp → Prop), ItS J B n item ∧ Pv 0 σ H1 ∧ (∀ i σ' H', Pv i σ' H' → Ex B H') ∧
      (∀ i σ' H', i < n → Pv i σ' H' → g (item i) σ' H' fun σ2 H2 => tb { D with nx := Pv (i + 1), ct := Pv (i + 1), bk := D.nx } σ2 H2) ∧ ∀ σ' H', Pv n σ' H' → D.nx σ' H') : tFor wi g tb D σ H :=
  hw _ fun J H1 c => let ⟨_, _, _, Pv, S, h0, he, hs, hd⟩ := go J H1 c; for_gen S Pv h0 he hs hd
def sp_law (K : PySem.W.Frag) : Sp := sp1 fun a H Q E => ∃ (p : Addr) (ns : List Int), a = .ref p ∧ SqL K H p (ns.map V.int) ∧ ∀ H', Ex H H' → Q (.bl true) H'
section
variable {K : PySem.W.Frag} {mg : Str → Option Value} {P : Program} {w : World} {base : Heap}
theorem ok_law (T : Tx K mg) : Cal P w K mg base CX0 10 "law" ["_law_script"] (sp_law K) := by
  refine cal_of (fD_law T) (T.glo 55 rfl) sc_law (fun _ _ _ _ _ _ us hl => match us, hl with | [_], _ => rfl) (fun vs H Q E h => len1 h) (fun f cdv A outer s H vs Q E hr h => ?_)
  obtain ⟨a, rfl, h⟩ := h
  refine ⟨_, (PSs.nox (pss_cons (ps_if (pt_not (pt_val (pe_c0 (ok__law_two_wrongs_right T) (hr.mono (by decide)) rfl pass0))) (pss_one (ps_ret pe_bl)) pss_nil)
      (pss_cons (ps_for PassesOwn.never rfl (pi_range1 (by rfl) (T.free 11 rfl) (pa_cons (pe_callB (call_max2 rfl) (by rfl) (T.free 9 rfl) (by decide +kernel) (pa_cons pe_int (pa_cons (pe_callB (call_min2 rfl) (by rfl) (T.free 10 rfl) (by decide +kernel) (pa_cons pe_int (pa_cons (pe_callB (call_lenK (K := K)) (by rfl) (T.free 7 rfl) (by decide +kernel) (pa_cons (pv 0) pa_nil)) pa_nil))) pa_nil))) pa_nil)) (pg_name (i := 1) sc_law.nd rfl (Or.inl rfl)) (pss_cons (ps_set (i := 2) sc_law.nd rfl (Or.inl rfl) (pe_c (ok__law_box T) (hr.mono (by decide)) rfl pass0 (pa_cons (pe_c (ok__law_cell T) (hr.mono (by decide)) rfl pass0 (pa_cons (pv 0) (pa_cons (pv 1) pa_nil))) pa_nil)))
      (pss_cons (ps_set (i := 3) sc_law.nd rfl (Or.inl rfl) (pe_lst pa_nil))
      (pss_cons (ps_for PassesOwn.never rfl (pi_range1 (by rfl) (T.free 11 rfl) (pa_cons pe_int pa_nil)) (pg_name (i := 4) sc_law.nd rfl (Or.inl rfl)) (pss_cons (ps_set (i := 5) sc_law.nd rfl (Or.inr rfl) (pe_c (ok__law_world T) (hr.mono (by decide)) rfl pass0 (pa_cons (pv 2) pa_nil)))
      (pss_cons (ps_set (i := 6) sc_law.nd rfl (Or.inl rfl) (pe_callTy (call_listK (K := K)) (by rfl) (T.free 8 rfl) (by decide +kernel) (pa_cons (pe_ix (ix_listK (K := K)) (pv 5) pe_int (fun _ _ => rfl)) pa_nil)))
      (pss_cons (ps_set (i := 7) sc_law.nd rfl (Or.inl rfl) (tree_mk (K := K) T (hr.mono (by decide)) rfl (pa_cons (pe_ix (ix_listK (K := K)) (pv 5) pe_int (fun _ _ => rfl)) (pa_cons (pv 6) pa_nil))))
      (pss_cons (ps_if (pt_cmpR (op_neDK (K := K) (hu64 hr.r)) (pv 6) (pe_ix (ix_listK (K := K)) (pv 5) pe_int (fun _ _ => rfl)) (nomark _)) (pss_one (ps_ret pe_bl)) pss_nil)
      (pss_cons (ps_expr (pe_bm PySem.F.plainAttrs_list PySem.F.slot_list_append PySem.F.type_list_append mt_append (pv 6) (pa_cons (pe_tup (pa_cons pe_int (pa_cons pe_int pa_nil))) pa_nil)))
      (pss_cons (ps_asg pe_non (pg_sub (pv 6) pe_int set_list))
      (pss_one (ps_expr (pe_bm PySem.F.plainAttrs_list PySem.F.slot_list_append PySem.F.type_list_append mt_append (pv 3) (pa_cons (pe_lst (pa_cons (pv 7) (pa_cons (pv 5) (pa_cons (pe_lc (own := [("_law_spot", 9)]) rfl sc_law.nd (pi_range1 (by rfl) (T.free 11 rfl) (pa_cons (pe_ix (ix_listK (K := K)) (pv 5) pe_int (fun _ _ => rfl)) pa_nil)) (blkOk_by (own := [("_law_spot", 9)]) (N := ["_law_script", "_law_k", "_law_box_here", "_law_trios", "_law_turn", "_law_world_here", "_law_handed", "_law_web", "_law_ways", "_law_spot"]) (sc := defScope st_law) (by decide +kernel)) (fun _ _ _ _ _ => (pg_name (i := 9) sc_law.nd rfl (Or.inl rfl))) (fun _ _ _ _ _ => pts_nil) (fun _ _ _ _ _ => (pe_c (ok__law_from T) (hr.mono (by decide)) rfl pass0 (pa_cons (pv 5) (pa_cons (pv 9) pa_nil))))) pa_nil)))) pa_nil)))))))))))
      (pss_cons (ps_for PassesOwn.never rfl (pi_list (pe_op op_cat (pv 3) (pe_slice (sl_listK (K := K)) (pv 3) po_none (po_some pe_int)))) (pg_lst rfl (pgs_cons (pg_name (i := 7) sc_law.nd rfl (Or.inl rfl)) (pgs_cons (pg_name (i := 5) sc_law.nd rfl (Or.inr rfl)) (pgs_cons (pg_name (i := 8) sc_law.nd rfl (Or.inl rfl)) pgs_nil)))) (pss_cons (ps_if (PW.pt (pw_or (pt_not (pt_val (pe_c (ok__law_fields_right T) (hr.mono (by decide)) rfl pass0 (pa_cons (pv 7) (pa_cons (pv 5) pa_nil))))) (pw_or1 (pt_not (pt_val (pe_c (ok__law_all_right T) (hr.mono (by decide)) rfl pass0 (pa_cons (pv 7) (pa_cons (pv 5) (pa_cons (pv 8) pa_nil))))))))) (pss_one (ps_ret pe_bl)) pss_nil)
      (pss_one (ps_if (pt_not (pt_val (pe_c (ok__law_questions_right T) (hr.mono (by decide)) rfl pass0 (pa_cons (pv 2) (pa_cons (pv 7) (pa_cons (pv 5) (pa_cons (pv 8) (pa_cons pe_int pa_nil)))))))) (pss_one (ps_ret pe_bl)) pss_nil))))
      (pss_one (ps_for PassesOwn.never rfl (pi_list (pv 3)) (pg_lst rfl (pgs_cons (pg_name (i := 7) sc_law.nd rfl (Or.inl rfl)) (pgs_cons (pg_name (i := 5) sc_law.nd rfl (Or.inr rfl)) (pgs_cons (pg_name (i := 8) sc_law.nd rfl (Or.inl rfl)) pgs_nil)))) (pss_cons (ps_if (PW.pt (pw_or (pt_not (pt_val (pe_c (ok__law_made_right T) (hr.mono (by decide)) rfl pass0 (pa_cons (pv 2) (pa_cons (pv 5) pa_nil))))) (pw_or1 (pt_not (pt_val (pe_c (ok__law_equal_right T) (hr.mono (by decide)) rfl pass0 (pa_cons (pv 2) (pa_cons (pv 7) (pa_cons (pv 5) pa_nil))))))))) (pss_one (ps_ret pe_bl)) pss_nil)
      (pss_one (ps_if (pt_not (pt_val (pe_c (ok__law_questions_right T) (hr.mono (by decide)) rfl pass0 (pa_cons (pv 2) (pa_cons (pv 7) (pa_cons (pv 5) (pa_cons (pv 8) (pa_cons pe_int pa_nil)))))))) (pss_one (ps_ret pe_bl)) pss_nil))))))))))
      (pss_one (ps_ret pe_bl))))), ?_⟩
  obtain ⟨p, ns, rfl, sq, q⟩ := h
  have bd : ∀ x : Int, -(2 ^ 62) ≤ (if (if x < 3 then x else 3) > 2 then (if x < 3 then x else 3) else 2) ∧ (if (if x < 3 then x else 3) > 2 then (if x < 3 then x else 3) else 2) < 2 ^ 62 := fun x => by constructor <;> (split <;> (try split) <;> omega)
  refine seq_at ?_
  refine ⟨rfl, fun H0 e0 => ⟨_, rfl, ?_⟩⟩
  refine iteF ?_
  dsimp only [tNext]
  refine seq_at ?_
  refine for_at (B := fun _ => none) (item := fun i => .int (0 + i)) (fun P q => ⟨_, rfl, p, _, rfl, .inl (Evl.ex_l e0 sq), _, _, rfl, _, _, rfl, _, rfl, (bd _).1, (bd _).2, q _ _ (Evl.Ex.refl _) (its_r 0 _)⟩) (fun i σ' H' => (∃ s1 s2 s3 s4 s5 s6 s7 s8 s9, σ' = [some (.ref p), s1, s2, s3, s4, s5, s6, s7, s8, s9]) ∧ Ex H H') ?_ (fun _ _ _ _ a o z => by cases z) ?_ ?_
  · exact fun H1 e1 => ⟨⟨_, _, _, _, _, _, _, _, _, rfl⟩, e0.trans e1⟩
  · rintro i σ' H1 hi ⟨⟨s1, s2, s3, s4, s5, s6, s7, s8, s9, rfl⟩, e1⟩
    rw [show (V.int (0 + (i : Int))) = iV i by rw [Int.zero_add]; rfl]
    dsimp only [gName]
    refine seq_at (asg_at ?_)
    refine ⟨_, rfl, _, rfl, _, _, rfl, p, ns, i, rfl, Evl.ex_l e1 sq, rfl, fun z H2 e2 => ⟨_, rfl, z, rfl, fun A H3 hA e3 hb3 => ?_⟩⟩
    have e03 := (e1.trans e2).trans e3
    have hA0 : H A = none := Evl.fresh_back (e1.trans e2) hA
    dsimp only [gName]
    refine seq_at (asg_at ?_)
    refine ⟨Nat.zero_le _, fun M hM => ?_⟩
    have hM0 : H M = none := Evl.fresh_back e03 hM
    have MA : M ≠ A := fun y => hb3.nn (by rw [← y]; exact hM)
    have gM : upd H3 M (.lst []) M = some (.lst []) := upd_same
    have e04 := e03.trans (Evl.Ex.new (o := .lst []) hM)
    have hb4 := hb3.upd (o := .lst []) MA
    dsimp only [gName]
    generalize upd H3 M (.lst []) = H4 at gM e04 hb4 ⊢
    clear e1 e2 e3 e03 hA hM hb3
    refine seq_at ?_
    refine for_at (B := fun _ => none) (n := 2) (item := fun i => .int (0 + i)) (fun P q => ⟨_, rfl, by decide, by decide, q _ _ (Evl.Ex.refl _) (its_r 0 2)⟩) (fun j σ' H' => (∃ s4 s5 s6 s7 s8 s9, σ' = [some (.ref p), some (iV i), some (.ref A), some (.ref M), s4, s5, s6, s7, s8, s9]) ∧ Ex H H' ∧ BoxAt H' A (40 * j) ∧ ∃ ms, H' M = some (.lst ms) ∧ ms.length = j ∧ ∀ v ∈ ms, Trio3 K (L2.del (L2.del H' M) A) v) ?_ (fun _ _ _ _ a o z => by cases z) ?_ ?_
    · exact fun H5 e5 => ⟨⟨_, _, _, _, _, _, rfl⟩, e04.trans e5, hb4.mono e5, [], e5 _ _ gM, rfl, by simp⟩
    · rintro j σ' H5 hj ⟨⟨s4, s5, s6, s7, s8, s9, rfl⟩, e5, hb5, ms, gM5, lm, tm⟩
      dsimp only [gName]
      refine seq_at (asg_at ?_)
      refine ⟨_, rfl, _, rfl, A, 40 * j, rfl, by omega, hb5, fun wv n rs H6 e6 hb6 wo6 wod => ?_⟩
      have wo6' := wod M _ gM5
      have gM6 := del_get e6 MA gM5
      have e06 := ex_of_del e5 hA0 e6
      obtain ⟨W, S, ts, rfl, hW, hS, hts⟩ := wo6.at_
      have n1 := wo6.ok.n1
      have n16 := wo6.ok.n16
      have rl := wo6.ok.rl
      have tl : ts.length ≤ 16 := by have := hts.length; omega
      have qt : Dqs K H6 ts (rs.map pairD) := tp_dqs hts
      dsimp only [gName]
      refine seq_at (asg_at ?_)
      refine ⟨_, rfl, W, _, 1, _, rfl, rfl, SqL.of hW, rfl, S, ts, rfl, .inl (SqL.of hS), fun L hL => ?_⟩
      have x7 := Evl.Ex.new (o := .lst ts) hL
      have gL : upd H6 L (.lst ts) L = some (.lst ts) := upd_same
      dsimp only [gName]
      generalize upd H6 L (.lst ts) = H7 at x7 gL ⊢
      refine seq_at (asg_at ?_)
      refine ⟨_, rfl, W, _, 0, _, rfl, rfl, SqL.of (x7 _ _ hW), rfl, _, rfl, rfl, rfl, ?_⟩
      refine world_tree (d2 := .list (rs.map pairD)) wo6.ok (.int _) (.lst (SqL.of gL) (qt.mono x7)) rfl rfl fun x H8 Fs x8 hx tr8 => ?_
      have e68 := x7.trans x8
      have gL8 := x8 _ _ gL
      dsimp only [gName]
      refine seq_at ?_
      refine ⟨_, rfl, _, rfl, W, _, 1, _, rfl, rfl, SqL.of (e68 _ _ hW), rfl, .list (rs.map pairD), .list (rs.map pairD), dp_pairs gL8 (tp_mono e68 hts), dp_pairs (e68 _ _ hS) (tp_mono e68 hts), shaped_rdsL _, shaped_rdsL _, _, rfl, ?_⟩
      rw [eqv_rdsL, decide_eq_true rfl]
      refine iteF ?_
      dsimp only [tNext]
      refine seq_at ?_
      refine ⟨_, rfl, .inl ⟨rfl, ts, SqL.of gL8⟩, (by show 2 ≤ sizeLine; decide), fun t ht => ?_⟩
      have x9 := Evl.Ex.new (o := .tup [.int 0, .int 1]) ht
      refine ⟨L, ts, _, rfl, rfl, x9 _ _ gL8, line_big (by omega), ?_⟩
      have e69 : Ex H6 (upd (upd H8 t (.tup [.int 0, .int 1])) L (.lst (ts ++ [.ref t]))) := Evl.Ex.mut (e68.trans x9) hL
      have tr9 : TreeAt K (upd (upd H8 t (.tup [.int 0, .int 1])) L (.lst (ts ++ [.ref t]))) x n rs Fs := ((tr8.mono x9).delL (x9 _ _ gL8)).mono (Evl.Ex.mut Ex.ofDel del_same)
      have gL9 : upd (upd H8 t (.tup [.int 0, .int 1])) L (.lst (ts ++ [.ref t])) L = some (.lst (ts ++ [.ref t])) := upd_same
      dsimp only
      generalize upd (upd H8 t (.tup [.int 0, .int 1])) L (.lst (ts ++ [.ref t])) = H9 at e69 tr9 gL9 ⊢
      refine seq_at (asg_at ?_)
      refine ⟨_, rfl, L, _, 0, 0, rfl, rfl, gL9, (show ixN _ ((0 : Nat) : Int) = some 0 from Evl.ixN_nat (by simp)), ?_⟩
      have e6a : Ex H6 (upd H9 L (.lst ((ts ++ [V.ref t]).set 0 V.non))) := Evl.Ex.mut e69 hL
      have tra : TreeAt K (upd H9 L (.lst ((ts ++ [V.ref t]).set 0 V.non))) x n rs Fs := (tr9.delL gL9).mono (Evl.Ex.mut Ex.ofDel del_same)
      generalize upd H9 L (.lst ((ts ++ [V.ref t]).set 0 V.non)) = Ha at e6a tra ⊢
      have gMa := e6a _ _ gM6
      have hWa := e6a _ _ hW
      dsimp only
      refine ⟨_, rfl, .inl ⟨rfl, ms, SqL.of gMa⟩, _, rfl, _, rfl, ?_⟩
      refine lc_ways (item := fun i => .int (0 + i)) tra.ways (TreeG.of wo6.ok.gr).one (by omega) (fun P q => ⟨_, rfl, W, _, 0, _, rfl, rfl, SqL.of hWa, rfl, _, rfl, by omega, by omega, by rw [show ((n : Int)).toNat = n by omega]; exact q _ _ (Evl.Ex.refl _) (its_r 0 n)⟩) ?_ ?_
      · intro z H' N hz e' hN
        rw [show (V.int (0 + (z : Int))) = iV z by rw [Int.zero_add]; rfl]
        have e6' := e6a.trans e'
        refine ⟨rfl, _, rfl, _, rfl, _, _, rfl, n, z, rs, .list (rs.map pairD), .lst (SqL.of (e6' _ _ hW)) (.cons (.int _) (.cons (.lst (SqL.of (e6' _ _ hS)) (qt.mono e6')) .nil)), rfl, rfl, rfl, hz, by omega, by omega, wo6.ok.good, fun r H'' F e'' W'' hr fa => hN r H'' F e'' W'' hr fa⟩
      · intro D ys Hb hD eb gD ly rows
        refine ⟨(by show 3 ≤ sizeLine; decide), fun a ha => ?_⟩
        have xa := Evl.Ex.new (o := .lst [.ref x, .ref W, .ref D]) ha
        have ga : upd Hb a (.lst [.ref x, .ref W, .ref D]) a = some (.lst [.ref x, .ref W, .ref D]) := upd_same
        generalize upd Hb a (.lst [.ref x, .ref W, .ref D]) = Hc at xa ga ⊢
        have e6c := (e6a.trans eb).trans xa
        have gMc := e6c _ _ gM6
        have aM : a ≠ M := fun y => by rw [y, (e6a.trans eb) _ _ gM6] at ha; cases ha
        have hb6c := hb6.mono e6c
        have aA : a ≠ A := fun y => (hb6.mono (e6a.trans eb)).nn (by rw [← y]; exact ha)
        have DM : D ≠ M := fun y => by rw [y, e6a _ _ gM6] at hD; cases hD
        have DA : D ≠ A := fun y => (hb6.mono e6a).nn (by rw [← y]; exact hD)
        refine ⟨M, ms, _, rfl, rfl, gMc, line_big (by omega), ?_⟩
        have bdel : BoxAt (L2.del Hc M) A (40 * j + 40) := by
          obtain ⟨x0, b0, y0, k0, z, r⟩ := hb6c
          exact ⟨x0, b0, y0, k0, by rw [del_ne MA.symm]; exact z, r⟩
        have two : ∀ {b : Addr} {o : HO}, Hc b = some o → b ≠ M → b ≠ A → L2.del (L2.del (upd Hc M (.lst (ms ++ [.ref a]))) M) A b = some o := fun h n1 n2 => by rw [del_upd]; exact get_two h n1 n2
        refine ⟨⟨_, _, _, _, _, _, rfl⟩, Evl.Ex.mut (e06.trans e6c) hM0, (hb6c.upd MA).up (by omega), ms ++ [.ref a], upd_same, by rw [List.length_append, lm]; rfl, fun v hv => ?_⟩
        rcases List.mem_append.mp hv with hv | hv
        · refine (tm v hv).mono (ex_two fun b o nM nA h => ?_)
          rw [upd_ne nM]
          exact e6c _ _ (del_get e6 nA h)
        · rw [List.mem_singleton] at hv
          subst hv
          refine ⟨a, x, .ref W, .ref D, n, rs, Fs, rfl, two ga aM aA, ?_, ?_, ?_⟩
          · rw [del_upd]
            obtain ⟨lA, hlA⟩ := bdel.some
            exact ((tra.mono (eb.trans xa)).delL gMc).delL hlA
          · rw [del_upd]
            exact (wo6'.mono (Ex.del e6c)).del bdel
          · refine ⟨D, ys, rfl, two (xa _ _ gD) DM DA, ly, fun z hz => ?_⟩
            obtain ⟨r, ws, r1, r2, r3, r4, r5⟩ := rows z hz
            have rM : r ≠ M := fun y => by rw [y, gMa] at r2; cases r2
            have rA : r ≠ A := fun y => (hb6.mono e6a).nn (by rw [← y]; exact r2)
            refine ⟨r, ws, r1, two (xa _ _ r3) rM rA, r4, fun k hk => ?_⟩
            obtain ⟨u, u1, u2⟩ := r5 k hk
            have u3 := xa _ _ u2
            refine ⟨u, u1, two u3 (fun y => by rw [y, gMc] at u3; cases u3) (fun y => ?_)⟩
            obtain ⟨lA, hlA⟩ := hb6c.some
            rw [y, hlA] at u3; cases u3
    rintro σ' H5 ⟨⟨s4, s5, s6, s7, s8, s9, rfl⟩, e5, hb5, ms, gM5, lm, tm⟩
    dsimp only
    have hb5' : BoxAt H5 A 80 := hb5
    have sl : ∀ v ∈ cutV ms none (some 1), v ∈ ms := fun v hv => by
      unfold cutV at hv
      exact List.mem_of_mem_drop (List.mem_of_mem_take hv)
    have sll : (cutV ms none (some 1)).length ≤ 2 := by have := cutV_length ms none (some 1); omega
    refine seq_at ?_
    generalize hzs : ms ++ cutV ms none (some 1) = zs
    have zm : ∀ v ∈ zs, v ∈ ms := fun v hv => by
      rw [← hzs] at hv
      rcases List.mem_append.mp hv with h | h
      · exact h
      · exact sl v h
    have zl : zs.length ≤ 4 := by rw [← hzs, List.length_append]; omega
    refine for_wi (fun J H6 => ∃ U, J = Itl K U ∧ Ex H5 H6 ∧ H6 U = some (.lst zs) ∧ U ≠ A) (fun P q => ⟨_, rfl, _, rfl, 1, rfl, M, ms, rfl, SqL.of gM5, fun P hP => ?_⟩) ?_
    · have xP := Evl.Ex.new (o := .lst (cutV ms none (some 1))) hP
      refine ⟨M, P, ms, _, rfl, rfl, xP _ _ gM5, upd_same, Nat.le_of_lt (line_big (by omega)), fun U hU => ?_⟩
      rw [hzs]
      have xU := Evl.Ex.new (o := .lst zs) hU
      exact ⟨U, rfl, ⟨zs, SqL.of upd_same⟩, q _ _ ⟨U, rfl, xP.trans xU, upd_same, fun y => (hb5'.mono xP).nn (by rw [← y]; exact hU)⟩⟩
    rintro _ H6 ⟨U, rfl, e56, gU, UA⟩
    have hb6 := hb5'.mono e56
    have e06 := e5.trans e56
    have gM6 := e56 _ _ gM5
    have tm6 : ∀ v ∈ ms, Trio3 K (L2.del H6 A) v := fun v hv => (tm v hv).mono (ex_sub.trans (Ex.del e56))
    have gUd : L2.del H6 A U = some (.lst zs) := by rw [del_ne UA]; exact gU
    have gMd : L2.del H6 A M = some (.lst ms) := by rw [del_ne MA]; exact gM6
    generalize hB : L2.del H6 A = B at tm6 gUd gMd
    have BA : B A = none := by rw [← hB]; exact del_same
    have ups : ∀ {H' H'' : Hp}, Ex B H' → Ex (L2.del H' A) H'' → Ex B H'' := fun e e' => ex_of_del e BA e'
    have dels : ∀ {H'}, Ex B H' → Ex B (L2.del H' A) := fun {H'} e a o h => by
      rw [del_ne (fun y => by rw [y, BA] at h; cases h)]; exact e _ _ h
    have e0B : ∀ {H'}, Ex B H' → Ex H H' := fun {H'} e a o h => by
      refine e a o ?_
      rw [← hB, del_ne (fun y => by rw [y, hA0] at h; cases h)]
      exact e06 _ _ h
    have eB6 : Ex B H6 := by rw [← hB]; exact Ex.ofDel
    refine ⟨B, _, _, (fun (k : Nat) (σ' : L2.St) (H' : Hp) => (∃ s4 s5 s6 s7 s8 s9, σ' = [some (.ref p), some (iV i), some (.ref A), some (.ref M), s4, s5, s6, s7, s8, s9]) ∧ Ex B H' ∧ BoxAt H' A (80 + 300 * k)), its_l (SqL.of gUd), ?_, (fun _ _ _ z => z.2.1), ?_, ?_⟩
    · exact ⟨⟨_, _, _, _, _, _, rfl⟩, eB6, hb6⟩
    · rintro k σ' H7 hk ⟨⟨s4, s5, s6, s7, s8, s9, rfl⟩, e7, hb7⟩
      obtain ⟨a, s, wv, yv, n, rs, Fs, ev, ga, t3⟩ := tm6 _ (zm _ (nth_mem hk))
      rw [ev]
      refine ⟨a, _, rfl, SqL.of (e7 _ _ ga), rfl, _, _, rfl, _, _, rfl, _, _, rfl, rfl, ?_⟩
      dsimp only [gName]
      have t7 := t3.mono e7
      refine seq_at ?_
      refine ⟨_, rfl, _, rfl, _, _, rfl, s, n, rs, Fs, rfl, t7.tr, t7.wo, fun H8 e8 => ⟨_, rfl, ?_⟩⟩
      refine iteF ?_
      refine ⟨_, rfl, _, rfl, _, rfl, _, _, _, rfl, s, n, rs, Fs, rfl, t7.mono e8, fun H9 e9 => ⟨_, rfl, ?_⟩⟩
      refine iteF ?_
      dsimp only [tNext]
      have e79 := e8.trans e9
      have e09 := e7.trans e79
      refine ⟨_, rfl, _, rfl, _, rfl, _, rfl, _, _, _, _, _, rfl, A, s, n, rs, Fs, 80 + 300 * k, 16, rfl, rfl, t3.mono (dels e09), rfl, by decide, by omega, hb7.mono e79, fun Ha ea hba => ⟨_, rfl, ?_⟩⟩
      refine iteF ?_
      exact ⟨⟨_, _, _, _, _, _, rfl⟩, ups e09 ea, hba.up (by omega)⟩
    rintro σ' H7 ⟨⟨s4, s5, s6, s7, s8, s9, rfl⟩, e7, hb7⟩
    have hb7' : BoxAt H7 A 1280 := hb7.up (by omega)
    dsimp only
    refine for_wi (fun J H' => J = Itl K M ∧ H' = H7) (fun P q => ⟨_, rfl, M, rfl, ⟨ms, SqL.of (e7 _ _ gMd)⟩, q _ _ ⟨rfl, rfl⟩⟩) ?_
    rintro _ _ ⟨rfl, rfl⟩
    refine ⟨B, _, _, (fun (k : Nat) (σ' : L2.St) (H' : Hp) => (∃ s4 s5 s6 s7 s8 s9, σ' = [some (.ref p), some (iV i), some (.ref A), some (.ref M), s4, s5, s6, s7, s8, s9]) ∧ Ex B H' ∧ BoxAt H' A (1280 + 300 * k)), its_l (SqL.of gMd), ?_, (fun _ _ _ z => z.2.1), ?_, ?_⟩
    · exact ⟨⟨_, _, _, _, _, _, rfl⟩, e7, hb7'⟩
    · rintro k σ' H8 hk ⟨⟨s4, s5, s6, s7, s8, s9, rfl⟩, e8, hb8⟩
      obtain ⟨a, s, wv, yv, n, rs, Fs, ev, ga, t3⟩ := tm6 _ (nth_mem hk)
      rw [ev]
      refine ⟨a, _, rfl, SqL.of (e8 _ _ ga), rfl, _, _, rfl, _, _, rfl, _, _, rfl, rfl, ?_⟩
      dsimp only [gName]
      refine seq_at ?_
      refine ⟨_, rfl, _, rfl, _, _, rfl, A, n, 1280 + 300 * k, rs, rfl, (t3.mono e8).wo, by omega, hb8, fun H9 e9 hb9 => ⟨_, rfl, ?_⟩⟩
      refine iteF ?_
      have e89 := ups e8 e9
      have t9 := t3.mono (dels e89)
      refine ⟨_, rfl, _, rfl, _, rfl, _, _, _, rfl, A, s, n, rs, Fs, 1280 + 300 * k + 200, rfl, rfl, t9.tr, t9.wo, by omega, hb9, fun Ha ea hba => ⟨_, rfl, ?_⟩⟩
      refine iteF ?_
      dsimp only [tNext]
      have e8a := ups e89 ea
      refine ⟨_, rfl, _, rfl, _, rfl, _, rfl, _, _, _, _, _, rfl, A, s, n, rs, Fs, 1280 + 300 * k + 200 + 3, 4, rfl, rfl, t3.mono (dels e8a), rfl, by decide, by omega, hba, fun Hb eb hbb => ⟨_, rfl, ?_⟩⟩
      refine iteF ?_
      exact ⟨⟨_, _, _, _, _, _, rfl⟩, ups e8a eb, hbb.up (by omega)⟩
    rintro σ' H8 ⟨⟨s4, s5, s6, s7, s8, s9, rfl⟩, e8, hb8⟩
    exact ⟨⟨_, _, _, _, _, _, _, _, _, rfl⟩, e0B e8⟩
  rintro σ' H1 ⟨⟨s1, s2, s3, s4, s5, s6, s7, s8, s9, rfl⟩, e1⟩
  exact q _ e1
end

end T1

namespace T1
open PySem PySem.Spec PyProof.Rows L2 G
theorem end_law {P : Program} {w : World} {K : PySem.W.Frag} {h : Heap} {mg : Str → Option Value} {f : Addr} (X : K.In h) (G : h.Ns mainGlobals mg) (hfa : mg ("law" : Str) = some (.ref f)) (c : Says K) :
    ∃ fd : FuncData, (∀ (s : Shared) (v : Value), BindsTo s fd ⟨[v], []⟩ [("_law_script", v)]) ∧ ∀ base : Heap, K.In base → base.Ns mainGlobals mg → FG P w K mg base CX0 10 f fd ["_law_script"] (sp_law K) := by
  have T := tx_of X G c
  have e := hfa.symm.trans (T.glo 55 rfl)
  cases e
  obtain ⟨fd, D⟩ := fD_law T
  have b := FunD.bindsA (ps := ["_law_script"]) D fun _ _ _ _ _ _ us hl => match us, hl with | [_], _ => rfl
  refine ⟨fd, fun s v => b s [v] rfl, fun base _ _ => ?_⟩
  obtain ⟨fd', D', G'⟩ := cal_fg (ok_law (P := P) (w := w) (base := base) T) ⟨fd, D⟩
  have eq : fd = fd' := by
    obtain ⟨oc, od, _, _, _, _, _, _, _, osl, _, lk, _⟩ := id D.ex
    obtain ⟨oc', od', _, _, _, _, _, _, _, osl', _, lk', _⟩ := id D'.ex
    rw [lk] at lk'
    cases lk'
    rfl
  subst eq
  exact G'
end T1
open PyProof.Rows PySem PySem.W PySem.Calls
theorem PySem.Challenge.cw_looksleft_k01_trees_holds : PySem.Challenge.rw_looksleft_k01_trees.Holds := by
  w_on; o_law
  refine HandSHeadRun.head_any (r := T1.R) (q := view T1.R.prog [63]) (H := T1.hk) (ob := T1.ob) (M := 30000) (loose := T1.names) (kwd := [])
    (d := HandSHeadRun.topDef T1.R.prog 63) T1.ob_eq (by kernel_rfl) (fun s => by kernel_rfl) T1.run (by kernel_rfl) (by kernel_rfl) (by kernel_rfl)
    (by rfl) (by first | assumption | decide +kernel) (by decide +kernel)
    ⟨rfl, rfl, rfl, rfl, rfl, by decide +kernel⟩ ?hw ?hc
  case hw => w_witness2
  case hc =>
    refine G.walk_G (l := PySem.Challenge.rw_looksleft_k01_trees) (n := 63) (k := 10) (x := "_law_script") rfl (by decide) (by kernel_rfl) ?room ?F
    case room => exact ⟨rfl, by decide, by decide⟩
    case F =>
      intro w mg fa h Y nsG hmg0
      obtain ⟨K, KX, c⟩ := Y
      have at_law : mg ("law" : PySem.Str) = some (.ref fa) := by
        have e : (HandSHeadRun.topDef T1.R.prog 63).name = ("law" : PySem.Str) := by kernel_rfl
        rw [← e]
        exact hmg0
      obtain ⟨fd, hb, hF⟩ := T1.end_law (P := (PySem.Challenge.rw_looksleft_k01_trees).prog) (w := w) KX nsG at_law c
      exact ⟨K, fd, T1.sp_law K, KX, hb, fun H a ns hl _ hS => ⟨_, rfl, a, ns, rfl, hS, fun _ _ => rfl⟩, hF⟩

