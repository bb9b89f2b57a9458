import PyProof.Rows.All
import Wide.All
import OpenK.AllK
import Wide.FinOn
import KE.KStateDown
import HandS.ForMost
import HandS.Exc
import HandS.ExcOwn
import HandS.TryMany
import HandS.ExcInit
import HandS.ExcField
import HandS.WordsExc
import HandS.Defaults
import HandS.MakeKw
import HandS.MakeKwOnly
import HandS.IsInst
import HandS.ClsMeth
import HandS.Deep
import HandS.Flow
import HandS.SortRule
import HandS.SortInts
import HandS.Evl
import HandS.Wide
import HandS.Head0
import HandS.Head1
import HandS.Head2
import HandS.HeadEnd
import HandS.HeadHook1
import HandS.HeadHook2
import HandS.TupAny
import HandS.TupMul
import HandS.Star
import HandS.Strs
import KE.GoesMore
import HandS.SetBool
import HandS.Conv
import HandS.Style
import PyProof.NeKinds
import HandS.SetFor
import HandS.Text
import HandS.FStr
import HandS.Codes
import KE.KUnpackStar
import PyProof.StrOps2
import PySem.Challenge.RW_looksleft_k02_tree_lines
import HandS.TupLe
set_option Elab.async false
set_option linter.all false
set_option maxRecDepth 100000
set_option maxHeartbeats 3900000
/-! My layer: promises of defs where no repr runs around (guards), data, repr, own errors. -/
namespace G
open L2 PyProof.Rows PySem PySem.Spec
/-- a call's arguments: the keywords ks, each by its name, no star among them -/
structure NamedOnly (X : Cx) (kws : List Keyword) (pos : Pos) (ks : List Str) : Prop where
  each : ((backToKw pos (keywordEach kws X.env)).all fun k => k.1.isSome) = true
  keys : ((backToKw pos (keywordEach kws X.env)).filterMap fun k => k.1) = ks
  flat : (((backTo pos (starEach [] X.env)).any fun a => a.1) || ((backToKw pos (keywordEach kws X.env)).any fun k => k.1.isNone)) = false
/-- a call's arguments: e and then es, no star among them -/
structure OneByOne (X : Cx) (e : Expr) (es : List Expr) (pos : Pos) : Prop where
  next : starEach (e :: es) X.env = (false, eval e X.env) :: starEach es X.env
  none : ((backTo pos (starEach es X.env)).any fun a => a.1) = false
/-! ### room, with no repr around -/
structure RG (k : Nat) (A : Around) : Prop where
  r : Room k A
  g : A.guards = some []
theorem RG.mono {j k : Nat} {A : Around} (h : RG k A) (l : j ≤ k) : RG j A := ⟨h.r.mono l, h.g⟩
theorem RG.deeper {k : Nat} {A : Around} (h : RG (k + 1) A) (e : Env) : RG k (A.deeper e) := ⟨h.r.deeper e, h.g⟩
theorem RG.make {k : Nat} {A : Around} (h : RG (k + 1) A) (C : Addr) (us : List Value) (kw : List (Str × Value)) : RG k (A.under (.builtin "type.__call__" ⟨.ref C :: us, kw⟩)) :=
  ⟨h.r.make C us kw, by
    have e : (Code.builtin "type.__call__" ⟨.ref C :: us, kw⟩).guards = [] := by unfold Code.guards; rfl
    have z : (A.under (Code.builtin "type.__call__" ⟨.ref C :: us, kw⟩)).guards = pushGuards (Code.builtin "type.__call__" ⟨.ref C :: us, kw⟩).guards A.guards := by unfold Around.under; rfl
    rw [z, e, h.g]; rfl⟩
/-- what a def promises, called where no repr is around -/
structure FG (P : Program) (w : World) (K : PySem.W.Frag) (mg : Str → Option Value) (base : Heap) (CX : CXT) (k : Nat) (f : Addr) (fd : FuncData) (ps : List Str) (sp : Sp) : Prop where
  few : ∀ (vs : List V) (H : Hp) (Q : VK) (E : XK), sp vs H Q E → vs.length = ps.length
  run : ∀ (A : Around) (outer : List Env) (s : Shared) (H : Hp) (args : Args) (us : List Value) (vs : List V) (Q : VK) (E : XK),
    RG k A → Env0 P w K mg base A outer s H → BindsTo s fd args (ps.zip us) → Vals vs us → sp vs H Q E → codeAny (model P w) A (.call (.ref f) args) (CR CX outer P w H s Q E) s
section
variable {P : Program} {w : World} {K : PySem.W.Frag} {mg : Str → Option Value} {base : Heap} {CX : CXT}
/-- the written part stands in the state of a call -/
theorem has_K {A : Around} {outer : List Env} {s : Shared} {H : Hp} (e : Env0 P w K mg base A outer s H) : K.In s.heap :=
  PySem.W.Frag.In.keeps e.mod.kin (fun a u z => And.left (e.bs a u z))
/-- what a body's end means outside of it -/
theorem body_end {N : List Str} {qual : Str} {scope : Scope} {f : Addr} {cdv : Value} {A : Around} {outer : List Env} {s s' : Shared} {H : Hp} {Q : VK} {E : XK} {fl : Flow}
    (h : SP (cxOf CX P w K mg base N qual scope f cdv A outer s H E) [] { nx := fun _ H' => Q .non H', rt := Q } fl s') :
    match (motive := Flow → Prop) fl with | .ret u => CE outer P w H s Q u s' | .next => CE outer P w H s Q .none s' | _ => False := by
  match fl, h with
  | .ret _, ⟨v, _, H', I, r, q⟩ => exact ⟨v, H', I.os, I.bare, I.base, I.hok, r, q⟩
  | .next, ⟨_, H', I, q⟩ => exact ⟨.non, H', I.os, I.bare, I.base, I.hok, rfl, q⟩
  | .brk, ⟨_, _, _, q⟩ => exact q
  | .cont, ⟨_, _, _, q⟩ => exact q
/-- a parameter has a place in the frame -/
theorem par_place {N ps : List Str} {scope : Scope} (S : FnScope N ps scope) (n : Nat) {us : List Value} (b : Str × Value) (m : b ∈ ps.zip us) :
    scope.names.lookup b.1 = some .local ∨ (scope.names.lookup b.1 = some .cell ∧ ((cellsFrom n scope.names []).lookup b.1).isSome = true) := by
  obtain ⟨p, u⟩ := b
  have c := S.par p (List.of_mem_zip m).1
  exact c.imp id fun c => And.intro c (Option.isSome_iff_exists.mpr (cell_has c))
/-- a def by its body -/
theorem fg_of {x qual : Str} {params : Arguments} {body : List Stmt} {scope : Scope} {dvs : List V} {kws : List (Str × V)} {f : Addr} {fd : FuncData} {N ps : List Str} {k : Nat} {sp : Sp} (F : FunD K x qual params body scope dvs kws f fd) (S : FnScope N ps scope)
    (few : ∀ (vs : List V) (H : Hp) (Q : VK) (E : XK), sp vs H Q E → vs.length = ps.length)
    (run : ∀ (cdv : Value) (A : Around) (outer : List Env) (s : Shared) (H : Hp) (vs : List V) (Q : VK) (E : XK), RG k (A.deeper (envOfC qual scope s.heap.objs.size f cdv)) → sp vs H Q E →
      ∃ t : TS, PSs (cxOf CX P w K mg base N qual scope f cdv A outer s H E) body t ∧
        t { nx := fun _ H' => Q .non H', rt := Q } (start N vs) H) : FG P w K mg base CX (k + 1) f fd ps sp := by
  obtain ⟨oc, od, dV, kV, doc, pm, an, cdv, ct, osl, fdE, stands, code, -⟩ := F.ex
  subst fdE
  constructor
  case few => exact few
  intro A outer s H args us vs Q E room env0 binds vals prom
  have inK := has_K env0
  apply codeAny_call_function room.r.depth (inK _ _ stands) rfl S.co S.gen rfl (PySem.W.codeRec_of inK code)
  apply binds
  apply wpAny_newFunctionEnv_cells S.kind (par_place S _)
  rintro _ rfl s1 inside
  refine And.intro (Heap.NoLimit.keeps (env0.mod.nolimit.keeps fun a u z => And.left (env0.bs a u z)) inside.toInCall.keep) (codeAny_func ?_)
  obtain ⟨t, steps, want⟩ := run cdv A outer s H vs Q E (RG.deeper room _) prom
  have atStart := inv_start (CX := CX) (E := E) (cd := cdv) (f := f) S room.r.hd env0 (few vs H Q E prom) vals inside
  refine wpAny_mono (steps.run [] s1 _ H _ atStart want) (fun fl s' z => ?_) (fun _ _ z => z)
  have z' := body_end z
  cases fl <;> first | exact z' | exact False.elim z'
end
/-! ### calls of such defs -/
section
variable {X : Cx} {CX : CXT} {k : Nat} {f C : Addr} {fd : FuncData} {ps ks : List Str} {sp : Sp} {E : XK} {x m : Str} {p pos apos : Pos} {e o : Expr} {es : List Expr} {kws : List Keyword} {ta : TE} {t tk : TA}
theorem ret_of {pins : List (Addr × Obj)} {σ : L2.St} {H : Hp} {s : Shared} {Q : VK} (hx : Passes CX X E) (I : Inv X pins σ H s) {r : Result} {s' : Shared} (h : CR CX X.stack X.prog X.w H s Q E r s') :
    match r with | .ok (.ret u) => EP X pins σ Q u s' | .ok _ => False | .error e => X.xe e s' := by
  cases r with
  | error e => exact hx pins σ H s e s' I h
  | ok fl => cases fl with
    | ret u => exact I.after h
    | next => exact h
    | brk => exact h
    | cont => exact h
theorem run_g {pins : List (Addr × Obj)} {σ : L2.St} {H : Hp} {s : Shared} {Q : VK} {us : List Value} {vs : List V} (F : FG X.prog X.w X.K X.mg X.base CX k f fd ps sp) (hr : RG k X.A) (hb : Binds X.K fd ps []) (hx : Passes CX X E)
    (I : Inv X pins σ H s) (r : Vals vs us) (h : sp vs H Q E) : wpAny (model X.prog X.w) X.A (call (.ref f) us) (EP X pins σ Q) X.xe s := by
  have hl : us.length = ps.length := r.length.symm.trans (F.few _ _ _ _ h)
  have hbs : BindsTo s fd ⟨us, []⟩ (ps.zip us) := by
    have z := hb s us I.kIn (by rw [List.append_nil]; exact hl)
    rwa [List.append_nil] at z
  refine wpAny_call (codeAny_mono (F.run X.A X.stack s H _ us vs Q E hr I.env0 hbs r h) fun q s' hq => ?_)
  have z := ret_of hx I hq
  cases q with
  | error e => exact z
  | ok fl => cases fl <;> exact z
/-- f(e, ..) -/
theorem pe_g (F : FG X.prog X.w X.K X.mg X.base CX k f fd ps sp) (hr : RG k X.A) (hg : Gl X x) (hm : X.mg x = some (.ref f)) (hk : PySem.W.keepIn X.K (.ref f) = true) (hb : Binds X.K fd ps []) (hx : Passes CX X E) (ha : PA X (e :: es) t)
    (hdb : (x == ("__debug__" : Str)) = false := by decide) (one : OneByOne X e es pos := by exact ⟨rfl, rfl⟩) :
    PE X (.Call (.Name x p) (e :: es) [] pos) (tCall sp [] E t) :=
  ⟨fun pins s σ H Q I h => wpAny_Call_Name_kw (ld_glob I hg hm (PySem.W.callWith_K (h₀ := X.base) I.ok.mod.kin hk (thn (ha.run pos pins s σ H _ I h) fun us s1 ⟨vs, H1, I1, r, q⟩ => ⟨I1.kIn, run_g F hr hb hx I1 r (by simpa using q)⟩) one.next one.none) hdb)⟩
/-- f() -/
theorem pe_g0 (F : FG X.prog X.w X.K X.mg X.base CX k f fd ps sp) (hr : RG k X.A) (hg : Gl X x) (hm : X.mg x = some (.ref f)) (hk : PySem.W.keepIn X.K (.ref f) = true) (hb : Binds X.K fd ps []) (hx : Passes CX X E)
    (hdb : (x == ("__debug__" : Str)) = false := by decide) : PE X (.Call (.Name x p) [] [] pos) (tCall sp [] E tNil) :=
  ⟨fun pins s σ H Q I h => wpAny_Call_Name_kw (ld_glob I hg hm (PySem.W.callWith_K0 I.kIn hk (run_g F hr hb hx I .nil (by simpa [tCall, tNil] using h))) hdb)⟩
/-- o.m(e, ..) -/
theorem pe_gm {pl : Sem Bool} (he : PE X o ta) (c : Cls X.K C) (hm : Meth X.K C m f) (F : FG X.prog X.w X.K X.mg X.base CX k f fd ps sp) (hr : RG k X.A) (hb : Binds X.K fd ps []) (hx : Passes CX X E) (ha : PA X (e :: es) t)
    (one : OneByOne X e es pos := by exact ⟨rfl, rfl⟩)
    (ht : eval (.Call (.Attribute o m apos) (e :: es) [] pos) X.env = (do let ov ← eval o X.env; standAt apos.atName; let (f, first) ← holding [ov] (getMethod ov m pl); callWith pos f first (backTo pos (starEach (e :: es) X.env)) (backToKw pos (keywordEach [] X.env))) := by rfl) :
    PE X (.Call (.Attribute o m apos) (e :: es) [] pos) (tMeth C m sp [] E ta t) := by
  refine ⟨fun pins s σ H Q I h => PySem.W.methodCall_KW (pl := pl) (thn (he.run pins s σ H _ I h) ?_) ht⟩
  rintro u s1 ⟨_, H1, I1, rx, a, dx, fs, rfl, ea, l, q⟩
  cases rx
  refine getmeth_ok I1 ea c hm l (PySem.W.callWith_K (first := [.ref a]) (h₀ := X.base) I.ok.mod.kin hm.kp (thn (ha.run pos pins s1 σ H1 _ I1 q) fun us s2 ⟨vs, H2, I2, r, q2⟩ => ⟨I2.kIn, ?_⟩) one.next one.none)
  exact run_g (us := .ref a :: us) (vs := .ref a :: vs) F hr hb hx I2 (.cons rfl r) (by simpa using q2)
theorem pe_gm0 {pl : Sem Bool} (he : PE X o ta) (c : Cls X.K C) (hm : Meth X.K C m f) (F : FG X.prog X.w X.K X.mg X.base CX k f fd ps sp) (hr : RG k X.A) (hb : Binds X.K fd ps []) (hx : Passes CX X E)
    (ht : eval (.Call (.Attribute o m apos) [] [] pos) X.env = (do let ov ← eval o X.env; standAt apos.atName; let (f, first) ← holding [ov] (getMethod ov m pl); callWith pos f first (backTo pos (starEach [] X.env)) (backToKw pos (keywordEach [] X.env))) := by rfl) :
    PE X (.Call (.Attribute o m apos) [] [] pos) (tMeth C m sp [] E ta tNil) := by
  refine ⟨fun pins s σ H Q I h => PySem.W.methodCall_KW (pl := pl) (thn (he.run pins s σ H _ I h) ?_) ht⟩
  rintro u s1 ⟨_, H1, I1, rx, a, dx, fs, rfl, ea, l, q⟩
  cases rx
  exact getmeth_ok I1 ea c hm l (PySem.W.callWith_K0 (first := [.ref a]) I1.kIn hm.kp (run_g (us := [.ref a]) (vs := [.ref a]) F hr hb hx I1 (.cons rfl .nil) (by simpa [tNil] using q)))
/-- f(e, .., k = v, ..), n values by position: how it binds -/
theorem run_gk {n : Nat} {g : List Value → List Value → List Value} {gV : List V → List V → List V} {pins : List (Addr × Obj)} {σ : L2.St} {H : Hp} {s : Shared} {Q : VK} {us ws : List Value} {vs zs : List V} (F : FG X.prog X.w X.K X.mg X.base CX k f fd ps sp) (hr : RG k X.A)
    (hb : KBn X.K fd ps n ks g gV) (hx : Passes CX X E) (I : Inv X pins σ H s) (r : Vals vs us) (rz : Vals zs ws) (l1 : vs.length = n) (l2 : zs.length = ks.length) (h : sp (gV vs zs) H Q E) :
    wpAny (model X.prog X.w) X.A (call (.ref f) us (ks.zip ws)) (EP X pins σ Q) X.xe s := by
  refine wpAny_call (codeAny_mono (F.run X.A X.stack s H _ (g us ws) _ Q E hr I.env0 (hb.to s us ws I.kIn (r.length.symm.trans l1) (rz.length.symm.trans l2)) (hb.rel r rz) h) fun q s' hq => ?_)
  have z := ret_of hx I hq
  cases q with
  | error e => exact z
  | ok fl => cases fl <;> exact z
def tGK (n m : Nat) (sp : Sp) (gV : List V → List V → List V) (E : XK) (t tk : TA) : TE := fun σ H Q => t σ H fun vs H1 => tk σ H1 fun zs H2 => vs.length = n ∧ zs.length = m ∧ sp (gV vs zs) H2 Q E
/-- f(k = v, ..) -/
theorem pe_gk0 {g : List Value → List Value → List Value} {gV : List V → List V → List V} (F : FG X.prog X.w X.K X.mg X.base CX k f fd ps sp) (hr : RG k X.A) (hg : Gl X x) (hm : X.mg x = some (.ref f)) (hk : PySem.W.keepIn X.K (.ref f) = true) (hb : KBn X.K fd ps 0 ks g gV) (hx : Passes CX X E)
    (hkw : PK X kws tk) (nk : NamedOnly X kws pos ks := by exact ⟨rfl, rfl, rfl⟩)
    (hdb : (x == ("__debug__" : Str)) = false := by decide) :
    PE X (.Call (.Name x p) [] kws pos) (tGK 0 ks.length sp gV E tNil tk) := by
  refine ⟨fun pins s σ H Q I h => wpAny_Call_Name_kw (ld_glob I hg hm (PySem.W.callWith_KW0 (h₀ := X.base) I.ok.mod.kin hk nk.each (thn (hkw.run pos pins s σ H _ I h) ?_) nk.flat) hdb)⟩
  rintro ws s2 ⟨zs, H2, I2, rz, l1, l2, q2⟩
  refine ⟨I2.kIn, ?_⟩
  rw [nk.keys]
  exact run_gk (us := []) (vs := []) F hr hb hx I2 .nil rz rfl l2 q2
/-- a class of one's own is called; Z tells what its __init__ may let out -/
theorem run_new {n : Nat} {g : List Value → List Value → List Value} {gV : List V → List V → List V} {pins : List (Addr × Obj)} {σ : L2.St} {H : Hp} {s : Shared} {Q : VK} {us ws : List Value} {vs zs : List V} {Z : XK} (M : Mk X.K C f) (F : FG X.prog X.w X.K X.mg X.base CX k f fd ps sp) (hr : RG (k + 1) X.A)
    (hb : KBn X.K fd ps (n + 1) ks g gV) (out : ∀ (H' : Hp) (s1 s2 : Shared) (e : Value), Inv X pins σ H' s1 → CX X.stack H' s1 Z e s2 → X.xe e s2) (I : Inv X pins σ H s) (r : Vals vs us) (rz : Vals zs ws) (l1 : vs.length = n) (l2 : zs.length = ks.length)
    (want : ∀ a d : Addr, H a = none → H d = none → d ≠ a → sp (gV (.ref a :: vs) zs) (upd (upd H d (.own a)) a (.ins C d [])) (fun v H' => v = .non ∧ Q (.ref a) H') Z) : wpAny (model X.prog X.w) X.A (call (.ref C) us (ks.zip ws)) (EP X pins σ Q) X.xe s := by
  have J := Inv.made (C := C) I
  have free : ∀ j, H (s.heap.objs.size + j) = none := fun j => I.hok.fresh (Nat.le_add_right _ j)
  have prom := want (s.heap.objs.size + 1) s.heap.objs.size (free 1) (free 0) (Nat.succ_ne_self _).symm
  have self : Vals (V.ref (s.heap.objs.size + 1) :: vs) (Value.ref (s.heap.objs.size + 1) :: us) := Paired.cons rfl r
  have many : (Value.ref (s.heap.objs.size + 1) :: us).length = n + 1 := by rw [← self.length, List.length_cons, l1]
  have manyK : ws.length = ks.length := by rw [← rz.length, l2]
  have body := F.run _ X.stack _ _ _ _ _ _ Z (hr.make C us (ks.zip ws)) (J.env0.make C us (ks.zip ws)) (hb.to _ _ _ J.kIn many manyK) (hb.rel self rz) prom
  refine wpAny_call (make_map I.kIn M.makes M.init (beq_iff_eq.mp M.fn) (codeAny_mono body ?_))
  rintro (e | _ | _ | _ | u) s' z
  · exact out _ _ _ _ J z
  iterate 3 exact False.elim z
  obtain ⟨_, H', J', rv, rfl, q⟩ := J.after z
  exact ⟨rv, .ref (s.heap.objs.size + 1), H', J', rfl, q⟩
theorem run_gmk {n : Nat} {g : List Value → List Value → List Value} {gV : List V → List V → List V} {pins : List (Addr × Obj)} {σ : L2.St} {H : Hp} {s : Shared} {Q : VK} {us ws : List Value} {vs zs : List V} (M : Mk X.K C f) (F : FG X.prog X.w X.K X.mg X.base CX k f fd ps sp) (hr : RG (k + 1) X.A)
    (hb : KBn X.K fd ps (n + 1) ks g gV) (hx : Passes CX X E) (I : Inv X pins σ H s) (r : Vals vs us) (rz : Vals zs ws) (l1 : vs.length = n) (l2 : zs.length = ks.length)
    (want : ∀ a d : Addr, H a = none → H d = none → d ≠ a → sp (gV (.ref a :: vs) zs) (upd (upd H d (.own a)) a (.ins C d [])) (fun v H' => v = .non ∧ Q (.ref a) H') E) :
    wpAny (model X.prog X.w) X.A (call (.ref C) us (ks.zip ws)) (EP X pins σ Q) X.xe s :=
  run_new M F hr hb (fun H' s1 s2 e J z => hx pins σ H' s1 e s2 J z) I r rz l1 l2 want
abbrev tGM := @tMakeK
theorem pe_gmk0 {g : List Value → List Value → List Value} {gV : List V → List V → List V} (M : Mk X.K C f) (F : FG X.prog X.w X.K X.mg X.base CX k f fd ps sp) (hr : RG (k + 1) X.A) (hg : Gl X x) (hm : X.mg x = some (.ref C)) (hb : KBn X.K fd ps 1 ks g gV) (hx : Passes CX X E) (hkw : PK X kws tk)
    (nk : NamedOnly X kws pos ks := by exact ⟨rfl, rfl, rfl⟩) (hdb : (x == ("__debug__" : Str)) = false := by decide)
    :
    PE X (.Call (.Name x p) [] kws pos) (tGM C 0 ks.length sp gV E tNil tk) := by
  refine ⟨fun pins s σ H Q I h => wpAny_Call_Name_kw (ld_glob I hg hm (PySem.W.callWith_KW0 (h₀ := X.base) I.ok.mod.kin M.kp nk.each (thn (hkw.run pos pins s σ H _ I h) ?_) nk.flat) hdb)⟩
  rintro ws s2 ⟨zs, H2, I2, rz, l1, l2, q2⟩
  refine ⟨I2.kIn, ?_⟩
  rw [nk.keys]
  exact run_gmk (us := []) (vs := []) M F hr hb hx I2 .nil rz rfl l2 q2
/-- C(e, ..) by position alone -/
theorem pe_gmk (M : Mk X.K C f) (F : FG X.prog X.w X.K X.mg X.base CX k f fd ps sp) (hr : RG (k + 1) X.A) (hg : Gl X x) (hm : X.mg x = some (.ref C)) {n : Nat} {g : List Value → List Value → List Value} {gV : List V → List V → List V} (hb : KBn X.K fd ps (n + 1) [] g gV) (hx : Passes CX X E) (ha : PA X (e :: es) t)
    (hdb : (x == ("__debug__" : Str)) = false := by decide) (one : OneByOne X e es pos := by exact ⟨rfl, rfl⟩) :
    PE X (.Call (.Name x p) (e :: es) [] pos) (tGM C n 0 sp gV E t tNil) := by
  refine ⟨fun pins s σ H Q I h => wpAny_Call_Name_kw (ld_glob I hg hm (PySem.W.callWith_K (h₀ := X.base) I.ok.mod.kin M.kp (thn (ha.run pos pins s σ H _ I h) ?_) one.next one.none) hdb)⟩
  rintro us s1 ⟨vs, H1, I1, r, l1, l2, q⟩
  refine ⟨I1.kIn, ?_⟩
  exact run_gmk (ks := []) (ws := []) (zs := []) M F hr hb hx I1 r .nil l1 rfl q
end
/-- how a def without defaults binds, keywords among its arguments -/
theorem kb_of {K : PySem.W.Frag} {x qual : Str} {params : Arguments} {body : List Stmt} {scope : Scope} {kws : List (Str × V)} {f : Addr} {fd : FuncData} {ps : List Str} (F : FunD K x qual params body scope [] kws f fd) (n : Nat) (ks : List Str) (g : {α : Type} → List α → List α → List α)
    (hrel : ∀ {vs zs : List V} {us ws : List Value}, Vals vs us → Vals zs ws → Vals (g vs zs) (g us ws))
    (h : ∀ (kV doc pm : Value) (an : Option Addr) (cdv ct : Value) (us ws : List Value), us.length = n → ws.length = ks.length → bindArgs (PySem.W.fnOf x qual params body scope .none kV doc pm an cdv ct) ⟨us, ks.zip ws⟩ = pure (ps.zip (g us ws))) :
    KBn K fd ps n ks (fun us ws => g us ws) (fun vs zs => g vs zs) := by
  have ⟨_, _, dV, kV, doc, pm, an, cdv, ct, _, is, _, _, dflt, _⟩ := F.ex
  subst is
  have none : dV = .none := dflt.elim (·.2) fun z => absurd rfl z.1
  subst none
  exact ⟨fun s us ws _ l1 l2 => .of_eq (h kV doc pm an cdv ct us ws l1 l2), hrel⟩
end G

namespace G
open L2 PyProof.Rows PySem PySem.Spec
open Evl (Ex)
/-! ### data over the abstract heap -/
mutual
inductive Dq (K : PySem.W.Frag) (H : Hp) : V → PyData → Prop
  | non : Dq K H .non .none
  | bl (b : Bool) : Dq K H (.bl b) (.bool b)
  | int (i : Int) : Dq K H (.int i) (.int i)
  | str (x : Str) : Dq K H (.str x) (.str x)
  | lst {a : Addr} {xs : List V} {ds : List PyData} (h : SqL K H a xs) (hs : Dqs K H xs ds) : Dq K H (.ref a) (.list ds)
  | tup {a : Addr} {xs : List V} {ds : List PyData} (h : SqT K H a xs) (hs : Dqs K H xs ds) : Dq K H (.ref a) (.tuple ds)
  | dic {a : Addr} (h : H a = some (.dK [])) : Dq K H (.ref a) (.dict [])
inductive Dqs (K : PySem.W.Frag) (H : Hp) : List V → List PyData → Prop
  | nil : Dqs K H [] []
  | cons {v : V} {vs : List V} {d : PyData} {ds : List PyData} (h : Dq K H v d) (hs : Dqs K H vs ds) : Dqs K H (v :: vs) (d :: ds)
end
section
variable {K : PySem.W.Frag} {H H' : Hp}
mutual
theorem Dq.mono (e : Ex H H') : ∀ {v : V} {d : PyData}, Dq K H v d → Dq K H' v d
  | _, _, .non => .non
  | _, _, .bl b => .bl b
  | _, _, .int i => .int i
  | _, _, .str x => .str x
  | _, _, .lst h hs => .lst (Evl.ex_l e h) (Dqs.mono e hs)
  | _, _, .tup h hs => .tup (Evl.ex_t e h) (Dqs.mono e hs)
  | _, _, .dic h => .dic (e _ _ h)
theorem Dqs.mono (e : Ex H H') : ∀ {v : List V} {d : List PyData}, Dqs K H v d → Dqs K H' v d
  | _, _, .nil => .nil
  | _, _, .cons h hs => .cons (h.mono e) (Dqs.mono e hs)
end
theorem Dqs.length : ∀ {xs : List V} {ds : List PyData}, Dqs K H xs ds → xs.length = ds.length
  | _, _, .nil => rfl
  | _, _, .cons _ hs => congrArg Nat.succ (Dqs.length hs)
theorem Dqs.get : ∀ {xs : List V} {ds : List PyData} {i : Nat} {x : V}, Dqs K H xs ds → xs[i]? = some x → ∃ d, ds[i]? = some d ∧ Dq K H x d
  | _, _, _, _, .nil, seen => by simp at seen
  | _, _, 0, _, .cons h _, e => by simp at e; subst e; exact ⟨_, rfl, h⟩
  | _, _, i + 1, _, .cons _ hs, e => by
    obtain ⟨d, h1, h2⟩ := Dqs.get (i := i) hs (by simpa using e)
    exact ⟨d, by simpa using h1, h2⟩
theorem Dqs.at_ : ∀ {xs : List V} {ds : List PyData} {i : Nat} {d : PyData}, Dqs K H xs ds → ds[i]? = some d → ∃ x, xs[i]? = some x ∧ Dq K H x d
  | _, _, _, _, .nil, seen => by simp at seen
  | _, _, 0, _, .cons h _, e => by simp at e; subst e; exact ⟨_, rfl, h⟩
  | _, _, i + 1, _, .cons _ hs, e => by
    obtain ⟨x, h1, h2⟩ := Dqs.at_ (i := i) hs (by simpa using e)
    exact ⟨x, (by simpa using h1), h2⟩
theorem Dqs.append : ∀ {xs ys : List V} {ds es : List PyData}, Dqs K H xs ds → Dqs K H ys es → Dqs K H (xs ++ ys) (ds ++ es)
  | _, _, _, _, .nil, h => h
  | _, _, _, _, .cons h hs, h' => .cons h (Dqs.append hs h')
theorem Dqs.take : ∀ {xs : List V} {ds : List PyData} (n : Nat), Dqs K H xs ds → Dqs K H (xs.take n) (ds.take n)
  | _, _, 0, _ => by simpa using Dqs.nil
  | _, _, _ + 1, .nil => .nil
  | _, _, n + 1, .cons h hs => .cons h (Dqs.take n hs)
theorem Dqs.drop : ∀ {xs : List V} {ds : List PyData} (n : Nat), Dqs K H xs ds → Dqs K H (xs.drop n) (ds.drop n)
  | _, _, 0, h => h
  | _, _, _ + 1, .nil => .nil
  | _, _, n + 1, .cons _ hs => Dqs.drop n hs
theorem Dqs.set : ∀ {xs : List V} {ds : List PyData} {x : V} {d : PyData} (i : Nat), Dqs K H xs ds → Dq K H x d → Dqs K H (xs.set i x) (ds.set i d)
  | _, _, _, _, _, .nil, _ => .nil
  | _, _, _, _, 0, .cons _ hs, h => .cons h hs
  | _, _, _, _, i + 1, .cons g hs, h => .cons g (Dqs.set i hs h)
theorem Dqs.ints (ns : List Int) : Dqs K H (ns.map V.int) (ns.map PyData.int) := by
  induction ns with
  | nil => exact .nil
  | cons n ns ih => exact .cons (.int n) ih
theorem Dqs.ints_inv : ∀ {ns : List Int} {xs : List V}, Dqs K H xs (ns.map PyData.int) → xs = ns.map V.int
  | [], _, .nil => rfl
  | n :: ns, _, .cons h hs => by cases h; rw [List.map_cons, Dqs.ints_inv hs]
mutual
theorem Dq.dp : ∀ {v : V} {d : PyData}, Dq K H v d → d.canLay0 = true → Dp K H v d
  | _, _, .non, _ => .non
  | _, _, .bl b, _ => .bl b
  | _, _, .int i, _ => .int i
  | _, _, .str x, _ => .str x
  | _, _, .lst h hs, c => .lst h (Dqs.dp hs (by simpa [PyData.canLay0] using c))
  | _, _, .tup h hs, c => .tup h (Dqs.dp hs (by simpa [PyData.canLay0] using c))
  | _, _, .dic h, c => by simp [PyData.canLay0] at c
theorem Dqs.dp : ∀ {v : List V} {d : List PyData}, Dqs K H v d → PyData.canLayAll0 d = true → DpAll K H v d
  | _, _, .nil, _ => .nil
  | _, _, .cons h hs, c => by
    simp only [PyData.canLayAll0, Bool.and_eq_true] at c
    exact .cons (h.dp c.1) (Dqs.dp hs c.2)
end
/-- a value's type's name -/
def tyN : PyData → String
  | .int _ => "int" | .bool _ => "bool" | .str _ => "str" | .none => "NoneType"
  | .dict _ => "dict" | .tuple _ => "tuple" | .list _ => "list"
theorem Dq.ty {v : V} {d : PyData} (h : Dq K H v d) : TyX K H v (.type (tyN d)) := by
  cases h with
  | non => exact .base .non
  | bl b => exact .base (.bl b)
  | int i => exact .base (.int i)
  | str x => exact .base (.str x)
  | dic h => exact .base (.dK h)
  | lst h hs => rcases h with (h | ⟨o, h⟩) | ⟨o, its, n, h1, h2, _⟩
                · exact .base (.lst h)
                · exact .base (.frz h)
                · exact .kList h1 h2
  | tup h hs => rcases h with (h | ⟨o, h⟩) | ⟨o, its, n, h1, h2, _⟩
                · exact .base (.tup h)
                · exact .fTuple h
                · exact .kTuple h1 h2
def isT (T : String) : PyData → Bool
  | .none => T == "NoneType" | .bool _ => T == "bool" || T == "int" | .int _ => T == "int" | .str _ => T == "str" | .list _ => T == "list" | .tuple _ => T == "tuple" | .dict _ => T == "dict"
theorem kit_is {d : PyData} {T : String} (hT : T = "int" ∨ T = "bool" ∨ T = "tuple" ∨ T = "list" ∨ T = "str") : PySem.W.kitOne K (.type (tyN d)) (.type T) = some (isT T d) := by
  rcases hT with rfl | rfl | rfl | rfl | rfl <;> cases d <;> simp only [tyN, isT] <;> exact kit_ty (by decide +kernel)
/-- isinstance(x, T) of data -/
theorem rIsi_of {v c : V} {d : PyData} {T : String} {Q : VK} (h : Dq K H v d) (hc : c = .ty T) (q : Q (.bl (isT T d)) H) (hT : T = "int" ∨ T = "bool" ∨ T = "tuple" ∨ T = "list" ∨ T = "str" := by simp) : rIsi K [v, c] H Q :=
  ⟨v, c, _, _, _, rfl, hc ▸ .ty T, h.ty, kit_is hT, q⟩
/-- sys.modules stands in the written part (it is a dict) -/
def Sm (K : PySem.W.Frag) : Prop := ∃ o, K.lookup sysModules = some o ∧ o.cls = .type "dict"
theorem Sm.ne {X : Cx} {pins : List (Addr × Obj)} {σ : L2.St} {H : Hp} {s : Shared} (S : Sm X.K) (I : Inv X pins σ H s) {a : Addr} (h : (∃ o, H a = some o) ∨ ∃ o, X.K.lookup a = some o ∧ o.cls ≠ .type "dict") : sysModules ≠ a := by
  obtain ⟨o, h1, h2⟩ := S
  rintro rfl
  rcases h with ⟨u, h⟩ | ⟨u, h, c⟩
  · have z := (I.bs _ _ (I.mod.kin _ _ h1)).2
    rw [z] at h; cases h
  · rw [h1] at h; cases h; exact c h2
/-! ### repr -/
mutual
theorem Dq.reads {X : Cx} {pins : List (Addr × Obj)} {σ : L2.St} {H : Hp} {s : Shared} (S : Sm X.K) (I : Inv X pins σ H s) : ∀ {v : V} {d : PyData}, Dq X.K H v d → ∀ u, RelV v u → ∃ as, Reads s.heap u d as ∧ sysModules ∉ as
  | _, _, .non, _, r => by cases r; exact ⟨_, .none, by simp⟩
  | _, _, .bl b, _, r => by cases r; exact ⟨_, .bool b, by simp⟩
  | _, _, .int i, _, r => by obtain ⟨t, rfl⟩ := r; exact ⟨_, .int i t, by simp⟩
  | _, _, .str x, _, r => by obtain ⟨t, rfl⟩ := r; exact ⟨_, .str x t, by simp⟩
  | _, _, .lst h hs, _, r => by
    cases r
    obtain ⟨its, rv, ⟨o, n, ho, hc, _, hd⟩, _⟩ := I.list h
    obtain ⟨as, hr, hn⟩ := Dqs.reads S I hs _ rv
    have hne : sysModules ≠ _ := S.ne I (a := _) (by
      rcases h with (h | ⟨o, h⟩) | ⟨o, its, n, h1, h2, _⟩
      · exact .inl ⟨_, h⟩
      · exact .inl ⟨_, h⟩
      · exact .inr ⟨_, h1, by rw [h2]; exact fun z => absurd (Value.type.inj z) (by decide)⟩)
    exact ⟨_, Reads.list ho hc hd (by simpa using hr), by simp [hn, hne]⟩
  | _, _, .tup h hs, _, r => by
    cases r
    obtain ⟨its, rv, ⟨o, ho, hc, n, hd⟩, _⟩ := I.tuple h
    obtain ⟨as, hr, hn⟩ := Dqs.reads S I hs _ rv
    exact ⟨_, Reads.tuple ho hc hd (by simpa using hr), hn⟩
  | _, _, .dic h, _, r => by
    cases r
    have hne : sysModules ≠ _ := S.ne I (.inl ⟨_, h⟩)
    obtain ⟨_, _, vs, kv, o, es, ep, ho, hx, hd, _, hp, _⟩ := I.hok _ _ h
    cases kv
    obtain ⟨l⟩ := es
    have hl : l = [] := by cases hp; rfl
    subst hl
    exact ⟨_, Reads.dict (kvs := []) ho hx.1 hd .nil .nil, by simp [hne]⟩
theorem Dqs.reads {X : Cx} {pins : List (Addr × Obj)} {σ : L2.St} {H : Hp} {s : Shared} (S : Sm X.K) (I : Inv X pins σ H s) : ∀ {vs : List V} {ds : List PyData}, Dqs X.K H vs ds → ∀ us, Vals vs us → ∃ as, ReadsAll s.heap us ds as ∧ sysModules ∉ as
  | _, _, .nil, _, r => by cases r; exact ⟨_, .nil, by simp⟩
  | _, _, .cons h hs, _, r => by
    cases r with
    | cons r1 r2 =>
      obtain ⟨as, q1, n1⟩ := h.reads S I _ r1
      obtain ⟨bs, q2, n2⟩ := Dqs.reads S I hs _ r2
      exact ⟨_, .cons q1 q2, by simp [n1, n2]⟩
end
/-- repr(x) of data -/
def rRepr (K : PySem.W.Frag) : List V → Hp → VK → Prop := fun xs H Q => ∃ x d, xs = [x] ∧ Dq K H x d ∧ d.showable = true ∧ d.shown.length ≤ sizeLine ∧ d.depth ≤ 60 ∧ Q (.str d.shown) H
theorem call_repr {X : Cx} (S : Sm X.K) (hg : X.A.guards = some []) (hu : X.A.units + 64 < cLine) : CallR X (.builtin "repr") (rRepr X.K) := by
  rintro pins s σ H xs us Q I r ⟨x, d, rfl, h, hs, hz, hd, q⟩
  obtain ⟨u, only, ru⟩ := vals1 r
  subst only
  obtain ⟨as, rd, hn⟩ := h.reads S I u ru
  have core : ∀ a, u = .ref a → wpAny (model X.prog X.w) X.A (call (.builtin "repr") [u]) (EP X pins σ Q) X.xe s := by
    rintro a rfl
    exact repr_of_reads' rd hs (fun _ => hn) hg (by omega) (fun _ _ e => e) (fun h' t tk hk => ⟨.str d.shown, H, I.kept hk, ⟨_, rfl⟩, q⟩) hz
  have sc : ∀ t : Str, d.shown = t → EP X pins σ Q (.str t s.toks) { s with toks := s.toks + 1 } := fun t e => ⟨.str d.shown, H, I.tok _, ⟨_, by rw [e]⟩, q⟩
  cases h with
  | non => cases ru; exact PySem.P.repr_of_none (sc _ (by simp only [PyData.shown]))
  | bl b => cases ru; exact PySem.P.repr_of_bool (sc _ (by simp only [PyData.shown]))
  | int i => obtain ⟨t, rfl⟩ := ru; exact PySem.P.repr_of_int (by simpa [PyData.showable] using hs) (sc _ (by simp only [PyData.shown]))
  | str x => obtain ⟨t, rfl⟩ := ru; exact PySem.P.repr_of_str (sc _ (by simp only [PyData.shown])) (by simpa only [PyData.shown] using hz)
  | lst h hs => cases ru; exact core _ rfl
  | tup h hs => cases ru; exact core _ rfl
  | dic h => cases ru; exact core _ rfl
end
end G

namespace G
open L2 PyProof.Rows PySem PySem.Spec
open Evl (Ex)
/-! ### own errors: LeftError.__init__(self, words) -/
/-- LeftError, the parent of all, at C: its __init__ is ValueError's -/
structure ParC (K : PySem.W.Frag) (mg : Str → Option Value) (C : Addr) : Prop where
  g : mg "LeftError" = some (.ref C)
  rd : ∃ mc, PySem.W.readsIn K C mc = true ∧ PySem.W.findCls K (.ref C) mc "__init__" = some (.val (.builtin "ValueError.__init__"))
  ga : some (some (.builtin "type.__getattribute__")) = PySem.W.specialIn K (.ref C) "__getattribute__"
theorem pe_parinit {X : Cx} {C : Addr} {e : Expr} {es : List Expr} {ta : TA} {p1 p2 pos : Pos} {pl : Sem Bool} (T : ParC X.K X.mg C) (hg : Gl X "LeftError") (ha : PA X (e :: es) ta)
    (hc : eval (.Call (.Attribute (.Name "LeftError" p1) "__init__" p2) (e :: es) [] pos) X.env = (do let ov ← eval (.Name "LeftError" p1) X.env; standAt p2.atName; let (f, first) ← holding [ov] (getMethod ov "__init__" pl); callWith pos f first (backTo pos (starEach (e :: es) X.env)) (backToKw pos (keywordEach [] X.env))) := by rfl)
    (one : OneByOne X e es pos := by exact ⟨rfl, rfl⟩) :
    PE X (.Call (.Attribute (.Name "LeftError" p1) "__init__" p2) (e :: es) [] pos) (tVeI X.K ta) := by
  obtain ⟨mc, rd, fi⟩ := T.rd
  refine ⟨fun pins s σ H Q I h => PySem.W.methodCall_KW (ld_glob I hg T.g (PySem.W.method_cls I.kIn T.ga.symm (PySem.W.cls_value I.kIn rd fi rfl ?_))) hc⟩
  refine PyProof.Rows.callWith_method1 (thn (ha.run pos pins _ σ H _ (I.tok _) h) ?_) one.next one.none
  rintro us s1 ⟨_, H1, I1, r1, a, D, ws, rfl, hl, T2, ea, q⟩
  cases r1 with
  | @cons _ u0 _ ur ra rw' =>
    cases ra
    have hn : ur.length ≤ sizeLine := by
      rw [← Paired.length rw', sizeLine_eq]; omega
    exact oinit_ok T2 I1 ea hn fun s' J => ⟨.non, H1, J, rfl, q⟩
/-- a class of errors at C, of a name x, with the fields fs -/
structure ErrC (K : PySem.W.Frag) (mg : Str → Option Value) (x : Str) (C : Addr) : Prop where
  g : mg x = some (.ref C)
  ox : OexC K C
  xf : XfC K C
/-- the promise of __init__(self, f) -/
def spE1 (C : Addr) (f : Str) : Sp := fun vs H Q _ => ∃ (a : Addr) (v : V), vs = [.ref a, v] ∧ H a = some (exo a C none) ∧ ∀ d, H d = none → d ≠ a → Q .non (upd (upd H d (exd d [(f, v)])) a (exo a C (some d)))
def spE2 (C : Addr) (f g : Str) : Sp := fun vs H Q _ => ∃ (a : Addr) (v w : V), vs = [.ref a, v, w] ∧ H a = some (exo a C none) ∧ ∀ d H', H d = none → d ≠ a → H' a = some (exo a C (some d)) → H' d = some (exd d [(g, w), (f, v)]) → (∀ b, b ≠ a → b ≠ d → H' b = H b) → Q .non H'
/-- the error is made: what is left of it is its dict -/
theorem ex_err {H : Hp} {a d : Addr} {o u w : HO} {fs : List (Str × V)} (ha : H a = none) (hd : H d = none) (hne : d ≠ a) : Ex H (upd (del (upd (upd (upd H a o) d u) a w) a) d (.xd fs)) := fun b z e => by
  have b1 : b ≠ a := fun q => by rw [q, ha] at e; cases e
  have b2 : b ≠ d := fun q => by rw [q, hd] at e; cases e
  rw [upd_ne b2, del_ne b1, upd_ne b1, upd_ne b2, upd_ne b1]; exact e
def upA (ta : TA) : TA := fun σ H P => ∃ P', (∀ vs H1, P' vs H1 → P vs H1) ∧ ta σ H P'
theorem PA.up {X : Cx} {es : List Expr} {ta : TA} (h : PA X es ta) : PA X es (upA ta) :=
  ⟨fun pos pins s σ H P I ⟨_, hp, z⟩ => thn (h.run pos pins s σ H _ I z) fun _ _ ⟨vs, H1, J, r, q⟩ => ⟨vs, H1, J, r, hp vs H1 q⟩⟩
def tErr1 (C : Addr) (f : Str) (ta : TA) : L2.St → Hp → XK → Prop := fun σ H Q => ta σ H fun vs H1 => ∃ v, vs = [v] ∧ ∀ d H', H1 d = none → Ex H1 H' → H' d = some (.xd [(f, v)]) → Q (.ref C) (some d) H'
def tErr2 (C : Addr) (f g : Str) (ta : TA) : L2.St → Hp → XK → Prop := fun σ H Q => ta σ H fun vs H1 => ∃ v w, vs = [v, w] ∧ ∀ d H', H1 d = none → Ex H1 H' → H' d = some (.xd [(g, w), (f, v)]) → Q (.ref C) (some d) H'
theorem mkO1 {C : Addr} {f : Str} {ta : TA} {σ : L2.St} {H : Hp} {Q : XK} (h : tErr1 C f ta σ H Q) : tMkO C (spE1 C f) [] (upA ta) σ H Q := by
  refine ⟨_, ?_, h⟩
  rintro _ H1 ⟨v, rfl, q⟩
  refine ⟨by simp, fun a ha => ⟨a, v, rfl, upd_same, fun d hd hne => ⟨rfl, d, [(f, v)], upd_same, by rw [upd_ne hne, upd_same], ?_, ?_⟩⟩⟩
  · rw [upd_ne hne] at hd; exact hd
  · rw [upd_ne hne] at hd
    exact q d _ hd (ex_err ha hd hne) upd_same
theorem mkO2 {C : Addr} {f g : Str} {ta : TA} {σ : L2.St} {H : Hp} {Q : XK} (h : tErr2 C f g ta σ H Q) : tMkO C (spE2 C f g) [] (upA ta) σ H Q := by
  refine ⟨_, ?_, h⟩
  rintro _ H1 ⟨v, w, rfl, q⟩
  refine ⟨by simp, fun a ha => ⟨a, v, w, rfl, upd_same, fun d H' hd hne e1 e2 e3 => ⟨rfl, d, _, e1, e2, ?_, ?_⟩⟩⟩
  · rw [upd_ne hne] at hd; exact hd
  · rw [upd_ne hne] at hd
    refine q d _ hd (fun b z e => ?_) upd_same
    have b1 : b ≠ a := fun q => by rw [q, ha] at e; cases e
    have b2 : b ≠ d := fun q => by rw [q, hd] at e; cases e
    rw [upd_ne b2, del_ne b1, e3 b b1 b2, upd_ne b1]; exact e
section
variable {X : Cx} {CX : CXT} {x : Str} {C fI : Addr} {k : Nat} {fd : FuncData} {e : Expr} {es : List Expr} {ta : TA} {p pos : Pos} {f g : Str}
/-- X(e): an error with one field -/
theorem pmk_err1 {ps : List Str} (T : ErrC X.K X.mg x C) (iC : PySem.W.findIn X.K (.ref C) "__init__" = some (some (.ref fI))) (tI : PySem.W.typeIn X.K (.ref fI) = some (.type "function"))
    (F : FnOk X.prog X.w X.K X.mg X.base CX0 k fI fd ps (spE1 C f)) (hr : RG (k + 1) X.A) (hb : Binds X.K fd ps []) (hg : Gl X x) (ha : PA X (e :: es) ta)
    (hdb : (x == ("__debug__" : Str)) = false := by decide) (one : OneByOne X e es pos := by exact ⟨rfl, rfl⟩) :
    PMk X (.Call (.Name x p) (e :: es) [] pos) (tErr1 C f ta) :=
  fun pins s σ H Q I h => pmk_oex T.ox iC tI F hr.r hb .nil pass0 hg T.g (PA.up ha) hdb one.next one.none pins s σ H Q I (mkO1 h)
theorem pmk_err2 {ps : List Str} (T : ErrC X.K X.mg x C) (iC : PySem.W.findIn X.K (.ref C) "__init__" = some (some (.ref fI))) (tI : PySem.W.typeIn X.K (.ref fI) = some (.type "function"))
    (F : FnOk X.prog X.w X.K X.mg X.base CX0 k fI fd ps (spE2 C f g)) (hr : RG (k + 1) X.A) (hb : Binds X.K fd ps []) (hg : Gl X x) (ha : PA X (e :: es) ta)
    (hdb : (x == ("__debug__" : Str)) = false := by decide) (one : OneByOne X e es pos := by exact ⟨rfl, rfl⟩) :
    PMk X (.Call (.Name x p) (e :: es) [] pos) (tErr2 C f g ta) :=
  fun pins s σ H Q I h => pmk_oex T.ox iC tI F hr.r hb .nil pass0 hg T.g (PA.up ha) hdb one.next one.none pins s σ H Q I (mkO2 h)
end
end G

namespace G
open L2 PyProof.Rows PySem PySem.Spec
open Evl (Ex)
/-! ### what the head tells -/
def kM (n : Nat) (g : Addr → Option Obj) : PySem.W.Frag := He.frG g (sysModules :: cStatics :: He.asD g n)
abbrev AlM : Type := He.AlD × Bool
def obsM (fa : List He.Fa) (fn : List He.DefD) (more : PySem.W.Frag → Bool) (K : PySem.W.Frag) : AlM := (He.obsD fa fn K, more K)
def SaysM (fa : List He.Fa) (fn : List He.DefD) (more : PySem.W.Frag → Bool) (K : PySem.W.Frag) : Prop := obsM fa fn more K = (He.valD fn, true)
def hookM (n : Nat) (fa : List He.Fa) (fn : List He.DefD) (more : PySem.W.Frag → Bool) : PySem.W.Hook where
  α := AlM
  obs := fun s => obsM fa fn more (kM n s.heap.get?)
  val := fun _ => (He.valD fn, true)
  says := fun _ h => ∃ K : PySem.W.Frag, K.In h ∧ SaysM fa fn more K
  of := fun _ _ e => ⟨_, He.frG_in, e⟩
  keeps := fun _ _ _ says kept => says.imp fun _ both => ⟨PySem.W.Frag.In.keeps both.1 kept, both.2⟩
def obM (n : Nat) (fa : List He.Fa) (fn : List He.DefD) (more : PySem.W.Frag → Bool) (s : PySem.W.SharedT) : AlM := obsM fa fn more (kM n (HandSHeadRun.getT s))
theorem obM_eq (n : Nat) (fa : List He.Fa) (fn : List He.DefD) (more : PySem.W.Frag → Bool) (s : PySem.W.SharedT) : obM n fa fn more s = (hookM n fa fn more).obs s.abs := by
  have e : HandSHeadRun.getT s = s.abs.heap.get? := funext (HandSHeadRun.getT_eq s)
  show obsM fa fn more (kM n (HandSHeadRun.getT s)) = obsM fa fn more (kM n s.abs.heap.get?)
  rw [e]
section
variable {fa : List He.Fa} {fn : List He.DefD} {more : PySem.W.Frag → Bool} {K : PySem.W.Frag}
theorem SaysM.d (c : SaysM fa fn more K) : He.SaysD fa fn K := (Prod.mk.inj c).1
theorem SaysM.m (c : SaysM fa fn more K) : more K = true := (Prod.mk.inj c).2
end
/-- sys.modules, as a look -/
def smB (K : PySem.W.Frag) : Bool := match K.lookup sysModules with
  | some o => o.cls == .type "dict"
  | none => false
theorem smB_ok {K : PySem.W.Frag} (h : smB K = true) : Sm K := by
  unfold smB at h
  split at h
  · rename_i o e; exact ⟨o, e, beq_iff_eq.mp h⟩
  · cases h
/-- an own class over ValueError, as a look -/
def oexB (K : PySem.W.Frag) (C : Addr) : Bool := match K.lookup C with
  | some ⟨.type "type", _, .cls own, slots⟩ => (match own.mro, slots.toList with
    | .ref C' :: bm, [_, _, _, _, some (.builtin n), _] => C' == C && n == "ValueError.__new__" && !own.hasDel && own.hasDict && PySem.HandSPX.refsVE bm
    | _, _ => false)
  | _ => false
def clsB (K : PySem.W.Frag) (C : Addr) : Bool := oexB K C && (decide (PySem.W.findIn K (.ref C) "__setattr__" = some (some (.builtin "object.__setattr__"))) && (decide (PySem.W.subIn K (.ref C) (.type "BaseException") = some true) &&
  (decide (PySem.W.typeIn K (.ref C) = some (.type "type")) && PySem.W.keepIn K (.ref C))))
theorem clsB_ok {K : PySem.W.Frag} {C : Addr} (h : clsB K C = true) : OexC K C := by
  unfold clsB at h
  simp only [decide_eq_true_eq, Bool.and_eq_true] at h
  obtain ⟨h1, h2, h3, h4, h5⟩ := h
  refine ⟨?_, h2, h3, h4, h5⟩
  unfold oexB at h1
  split at h1
  · rename_i dd own slots ho
    split at h1
    · rename_i C' bm k0 k1 k2 k3 n k5 line six
      simp only [Bool.and_eq_true, beq_iff_eq, Bool.not_eq_true'] at h1
      obtain ⟨⟨⟨⟨rfl, rfl⟩, hdel⟩, hdi⟩, ht⟩ := h1
      cases own with | mk nm bs mro ns qn hd sn sub ab col del =>
      cases slots with | mk all =>
      dsimp only at line hdel hdi
      subst line hdel hdi six
      exact ⟨nm, qn, ns, bs, bm, sn, sub, ab, col, dd, k0, k1, k2, k3, k5, ho, ht⟩
    · cases h1
  · cases h1
/-- an error class x with the fields fs -/
def errB (K : PySem.W.Frag) (p : Str × List Str) : Bool := clsB K (He.ga K p.1) && (xfB K (He.ga K p.1) && (decide (PySem.W.findIn K (.ref (He.ga K p.1)) "__init__" = some (some (.ref (He.ma K (He.ga K p.1) "__init__")))) &&
  (decide (PySem.W.typeIn K (.ref (He.ma K (He.ga K p.1) "__init__")) = some (.type "function")) && p.2.all fun f => decide (PySem.W.findIn K (.ref (He.ga K p.1)) f = some none))))
structure ErrF (K : PySem.W.Frag) (x : Str) (fs : List Str) : Prop where
  ox : OexC K (He.ga K x)
  xf : XfC K (He.ga K x)
  iC : PySem.W.findIn K (.ref (He.ga K x)) "__init__" = some (some (.ref (He.ma K (He.ga K x) "__init__")))
  tI : PySem.W.typeIn K (.ref (He.ma K (He.ga K x) "__init__")) = some (.type "function")
  no : ∀ f ∈ fs, PySem.W.findIn K (.ref (He.ga K x)) f = some none
theorem errB_ok {K : PySem.W.Frag} {x : Str} {fs : List Str} (h : errB K (x, fs) = true) : ErrF K x fs := by
  unfold errB at h
  simp only [Bool.and_eq_true, decide_eq_true_eq, List.all_eq_true] at h
  obtain ⟨h1, h2, h3, h4, h5⟩ := h
  exact ⟨clsB_ok h1, xfB_ok h2, h3, h4, h5⟩
/-- the parent -/
def parB (K : PySem.W.Frag) : Bool := PySem.W.readsIn K (He.ga K "LeftError") (.type "type") && ((match PySem.W.findCls K (.ref (He.ga K "LeftError")) (.type "type") "__init__" with
  | some (.val v) => v == .builtin "ValueError.__init__"
  | _ => false) && decide (PySem.W.specialIn K (.ref (He.ga K "LeftError")) "__getattribute__" = some (some (.builtin "type.__getattribute__"))))
theorem parB_ok {K : PySem.W.Frag} {mg : Str → Option Value} (h : parB K = true) (hg : mg "LeftError" = some (.ref (He.ga K "LeftError"))) : ParC K mg (He.ga K "LeftError") := by
  unfold parB at h
  simp only [decide_eq_true_eq, Bool.and_eq_true] at h
  obtain ⟨h1, h2, h3⟩ := h
  refine ⟨hg, ⟨.type "type", h1, ?_⟩, h3.symm⟩
  split at h2
  · rename_i v e; rw [e, beq_iff_eq.mp h2]
  · cases h2
/-! ### a global def that is called -/
structure Cal (P : Program) (w : World) (K : PySem.W.Frag) (mg : Str → Option Value) (base : Heap) (CX : CXT) (k : Nat) (x : Str) (ps : List Str) (sp : Sp) : Prop where
  ex : ∃ fd, FG P w K mg base CX k (He.ga K x) fd ps sp ∧ Binds K fd ps [] ∧ ∃ oc od osl, K.lookup (He.ga K x) = some ⟨oc, od, .func fd, osl⟩
  kp : PySem.W.keepIn K (.ref (He.ga K x)) = true
  g : mg x = some (.ref (He.ga K x))
section
variable {P : Program} {w : World} {K : PySem.W.Frag} {mg : Str → Option Value} {base : Heap} {CX : CXT}
theorem cal_of {x : Str} {params : Arguments} {body : List Stmt} {scope : Scope} {N ps : List Str} {k : Nat} {sp : Sp} (F : ∃ fd, FunD K x x params body scope [] [] (He.ga K x) fd) (hm : mg x = some (.ref (He.ga K x))) (S : FnScope N ps scope)
    (hb : ∀ (kV doc pm : Value) (an : Option Addr) (cdv ct : Value) (us : List Value), us.length = ps.length → bindArgs (PySem.W.fnOf x x params body scope .none kV doc pm an cdv ct) ⟨us, []⟩ = pure (ps.zip us))
    (few : ∀ (vs : List V) (H : Hp) (Q : VK) (E : XK), sp vs H Q E → vs.length = ps.length)
    (hbody : ∀ (f : Addr) (cdv : Value) (A : Around) (outer : List Env) (s : Shared) (H : Hp) (vs : List V) (Q : VK) (E : XK), RG k (A.deeper (envOfC x scope s.heap.objs.size f cdv)) → sp vs H Q E →
      ∃ t, PSs (cxOf CX P w K mg base N x scope f cdv A outer s H E) body t ∧ t { nx := fun _ H' => Q .non H', rt := Q } (start N vs) H) :
    Cal P w K mg base CX (k + 1) x ps sp := by
  obtain ⟨fd, F⟩ := F
  refine ⟨⟨fd, fg_of F S few (hbody _), F.bindsN hb, ?_⟩, F.kp, hm⟩
  obtain ⟨oc, od, _, _, _, _, _, _, _, osl, _, lk, _⟩ := F.ex
  exact ⟨oc, od, osl, lk⟩
end
section
variable {X : Cx} {CX : CXT} {k : Nat} {ps : List Str} {sp : Sp} {E : XK} {x : Str} {p pos : Pos} {e : Expr} {es : List Expr} {t : TA}
theorem pe_c (F : Cal X.prog X.w X.K X.mg X.base CX k x ps sp) (hr : RG k X.A) (hg : Gl X x) (hx : Passes CX X E) (ha : PA X (e :: es) t) (hdb : (x == ("__debug__" : Str)) = false := by decide)
    (one : OneByOne X e es pos := by exact ⟨rfl, rfl⟩) : PE X (.Call (.Name x p) (e :: es) [] pos) (tCall sp [] E t) := by
  obtain ⟨fd, G, b, _⟩ := F.ex
  exact pe_g G hr hg F.g F.kp b hx ha hdb one
theorem pe_c0 (F : Cal X.prog X.w X.K X.mg X.base CX k x ps sp) (hr : RG k X.A) (hg : Gl X x) (hx : Passes CX X E) (hdb : (x == ("__debug__" : Str)) = false := by decide) : PE X (.Call (.Name x p) [] [] pos) (tCall sp [] E tNil) := by
  obtain ⟨fd, G, b, _⟩ := F.ex
  exact pe_g0 G hr hg F.g F.kp b hx hdb
end
/-- the def that is called, by its text -/
theorem cal_fg {P : Program} {w : World} {K : PySem.W.Frag} {mg : Str → Option Value} {base : Heap} {CX : CXT} {k : Nat} {x : Str} {ps : List Str} {sp : Sp} {params : Arguments} {body : List Stmt} {scope : Scope} (F : Cal P w K mg base CX k x ps sp) (D : ∃ fd, FunD K x x params body scope [] [] (He.ga K x) fd) :
    ∃ fd, FunD K x x params body scope [] [] (He.ga K x) fd ∧ FG P w K mg base CX k (He.ga K x) fd ps sp := by
  obtain ⟨fd, G, _, oc, od, osl, lk⟩ := F.ex
  obtain ⟨fd', D⟩ := D
  obtain ⟨oc', od', _, _, _, _, _, _, _, osl', _, lk', _⟩ := id D.ex
  rw [lk] at lk'
  cases lk'
  exact ⟨fd, D, G⟩
theorem hu64 {k : Nat} {A : Around} (h : Room k A) : A.units + 64 < cLine := by have := h.un; omega
theorem hu65 {k : Nat} {A : Around} (h : Room k A) : A.units + 65 < cLine := by have := h.un; omega
theorem hu0 {k : Nat} {A : Around} (h : Room k A) : A.units < cLine := by have := h.un; omega
/-! ### promises by the number of arguments -/
abbrev Sp0 := Hp → VK → XK → Prop
def sp0 (R : Hp → VK → XK → Prop) : Sp := fun vs H Q E => vs = [] ∧ R H Q E
def sp1 (R : V → Hp → VK → XK → Prop) : Sp := fun vs H Q E => ∃ a, vs = [a] ∧ R a H Q E
def sp2 (R : V → V → Hp → VK → XK → Prop) : Sp := fun vs H Q E => ∃ a b, vs = [a, b] ∧ R a b H Q E
def sp3 (R : V → V → V → Hp → VK → XK → Prop) : Sp := fun vs H Q E => ∃ a b c, vs = [a, b, c] ∧ R a b c H Q E
def sp4 (R : V → V → V → V → Hp → VK → XK → Prop) : Sp := fun vs H Q E => ∃ a b c d, vs = [a, b, c, d] ∧ R a b c d H Q E
def sp5 (R : V → V → V → V → V → Hp → VK → XK → Prop) : Sp := fun vs H Q E => ∃ a b c d e, vs = [a, b, c, d, e] ∧ R a b c d e H Q E
theorem len0 {R} {vs : List V} {H : Hp} {Q : VK} {E : XK} (h : sp0 R vs H Q E) : vs.length = 0 := by obtain ⟨rfl, _⟩ := h; rfl
theorem len1 {R} {vs : List V} {H : Hp} {Q : VK} {E : XK} (h : sp1 R vs H Q E) : vs.length = 1 := by obtain ⟨_, rfl, _⟩ := h; rfl
theorem len2 {R} {vs : List V} {H : Hp} {Q : VK} {E : XK} (h : sp2 R vs H Q E) : vs.length = 2 := by obtain ⟨_, _, rfl, _⟩ := h; rfl
theorem len3 {R} {vs : List V} {H : Hp} {Q : VK} {E : XK} (h : sp3 R vs H Q E) : vs.length = 3 := by obtain ⟨_, _, _, rfl, _⟩ := h; rfl
theorem len4 {R} {vs : List V} {H : Hp} {Q : VK} {E : XK} (h : sp4 R vs H Q E) : vs.length = 4 := by obtain ⟨_, _, _, _, rfl, _⟩ := h; rfl
theorem len5 {R} {vs : List V} {H : Hp} {Q : VK} {E : XK} (h : sp5 R vs H Q E) : vs.length = 5 := by obtain ⟨_, _, _, _, _, rfl, _⟩ := h; rfl
/-! ### the end -/
/-- the law's def is called: tracked is the script at most, and only where the written part has it not -/
structure Met (P : Program) (w : World) (K : PySem.W.Frag) (h : Heap) (a : Addr) (zs : List V) (H : Hp) : Prop where
  only : Only H
  here : SqL K H a zs
  ok : HOk P w H h
  one : ∀ b, H b = none ∨ (b = a ∧ K.lookup a = none)
section
variable {P : Program} {w : World} {K : PySem.W.Frag} {mg mb : Str → Option Value} {a : Addr} {vs : List Value} {zs : List V} {s : Shared} {H : Hp}
abbrev scriptObj (vs : List Value) : Obj := { cls := .type "list", data := .seq vs.toArray }
theorem met_ex {h : Heap} (inK : K.In h) (at_a : h.get? a = some (scriptObj vs)) (r : Vals zs vs) (few : zs.length ≤ sizeLine) : ∃ H, Met P w K h a zs H := by
  rcases Option.eq_none_or_eq_some (K.lookup a) with out | ⟨u, own⟩
  · have alone : ∀ b, (upd (fun _ => none) a (.frz (scriptObj vs) (.lst zs)) : Hp) b = none ∨ b = a := fun b => by
      by_cases q : b = a
      · exact Or.inr q
      · exact Or.inl (by rw [upd_ne q])
    refine ⟨upd (fun _ => none) a (.frz (scriptObj vs) (.lst zs)), ?_, .inl (.inr ⟨_, upd_same⟩), ?_, fun b => (alone b).imp id fun q => ⟨q, out⟩⟩
    · intro b
      refine (alone b).imp id ?_
      rintro rfl
      exact ⟨_, _, upd_same⟩
    · intro b ob z
      rcases alone b with q | rfl
      · rw [q] at z; exact nomatch z
      · rw [upd_same] at z
        cases z
        exact ⟨at_a, few, vs, _, r, at_a⟩
  · have e := (inK a u own).symm.trans at_a
    cases e
    have size : vs.toArray.size ≤ sizeLine := by
      have := r.length
      rw [List.size_toArray]; omega
    exact ⟨fun _ => none, fun _ => .inl rfl, .inr ⟨_, vs.toArray, _, own, rfl, rfl, rfl, size, by simpa using r⟩, fun _ _ z => (nomatch z), fun _ => .inl rfl⟩
/-- an object that is no list in the state is not tracked -/
theorem Met.free (M : Met P w K s.heap a zs H) (at_a : s.heap.get? a = some (scriptObj vs)) {b : Addr} {o : Obj} (e : s.heap.get? b = some o) (no : b = a → o ≠ scriptObj vs) : (hidT s.heap H).get? b = some o := by
  refine hidT_get e ((M.one b).resolve_right fun ⟨q, _⟩ => no q ?_)
  subst q
  rw [e] at at_a
  exact Option.some.inj at_a
theorem Met.ns (M : Met P w K s.heap a zs H) (at_a : s.heap.get? a = some (scriptObj vs)) {b : Addr} {m : Str → Option Value} (n : s.heap.Ns b m) : (hidT s.heap H).Ns b m := by
  obtain ⟨o, es, ep, e, d, rest⟩ := n
  refine ⟨o, es, ep, M.free at_a e (fun _ q => ?_), d, rest⟩
  rw [q] at d
  exact Data.noConfusion d
theorem Met.env (M : Met P w K s.heap a zs H) (at_a : s.heap.get? a = some (scriptObj vs)) (inK : K.In s.heap) (main : s.heap.Ns mainGlobals mg) (bn : s.heap.Ns builtinsNs mb) (boot : ∀ x : Str, x ≠ "__name__" → mb x = bootBuiltins x) (free : s.heap.NoLimit) (still : s.gens = #[]) :
    K.In (hidT s.heap H) ∧ (hidT s.heap H).Ns mainGlobals mg ∧ Env0 P w K mg (hidT s.heap H) callerA [] s H := by
  have kin : K.In (hidT s.heap H) := fun b o e => by
    refine hidT_get (inK b o e) ((M.one b).resolve_right ?_)
    rintro ⟨rfl, none_⟩
    rw [none_] at e
    exact nomatch e
  have names := M.ns at_a main
  obtain ⟨mc, lim1, lim2⟩ := free
  refine ⟨kin, names, rfl, ⟨kin, names, ⟨mb, M.ns at_a bn, boot⟩, mc, M.ns at_a lim1, lim2⟩, fun _ _ e => of_hidT e, ?_, trivial, ?_, M.ok, AllBare.of_eq still⟩
  · rw [hidT_size]; exact Nat.le_refl _
  · intro b m
    exact absurd m List.not_mem_nil
end
theorem law_callG {P : Program} {w : World} {K : PySem.W.Frag} {mg mb : Str → Option Value} {k : Nat} {fa a : Addr} {fd : FuncData} {x : Str} {sp : Sp} {s : Shared} {vs : List Value} {ns : List Int}
    (inK : K.In s.heap) (main : s.heap.Ns mainGlobals mg) (bn : s.heap.Ns builtinsNs mb) (boot : ∀ x : Str, x ≠ "__name__" → mb x = bootBuiltins x) (free : s.heap.NoLimit) (still : s.gens = #[])
    (at_a : s.heap.get? a = some (scriptObj vs)) (nums : IntsAre vs ns) (few : ns.length ≤ sizeLine) (room : Room k callerA)
    (F : ∀ base : Heap, K.In base → base.Ns mainGlobals mg → FG P w K mg base CX0 k fa fd [x] sp) (binds : ∀ (s : Shared) (u : Value), BindsTo s fd ⟨[u], []⟩ [(x, u)])
    (prom : ∀ H : Hp, Only H → SqL K H a (ns.map V.int) → sp [.ref a] H (fun v _ => v = .bl true) fun _ _ _ => False) :
    codeAny (model P w) callerA (.call (.ref fa) ⟨[.ref a], []⟩) (fun r s' => (r = .ok (.ret (.bool true)) ∧ OldK s.heap s'.heap) ∧ s'.os = s.os ∧ AllBare s'.gens) s := by
  obtain ⟨H, M⟩ := met_ex (P := P) (w := w) inK at_a (vals_ints nums) (by rwa [List.length_map])
  obtain ⟨kin, names, env⟩ := M.env at_a inK main bn boot free still
  have run := (F _ kin names).run callerA [] s H ⟨[.ref a], []⟩ [.ref a] [.ref a] _ _ ⟨room, rfl⟩ env (binds s _) (Paired.cons rfl .nil) (prom H M.only M.here)
  refine codeAny_mono run ?_
  rintro (e | _ | _ | _ | u) s' z
  iterate 4 exact False.elim z
  obtain ⟨v, H', os, bare, un, ok', r, t⟩ := z
  cases (show v = V.bl true from t)
  cases (show u = Value.bool true from r)
  refine ⟨⟨rfl, OldK.of_keep fun b o e => ?_⟩, os, bare⟩
  rcases M.only b with n | ⟨uo, xs, z⟩
  · exact un.keep b o e n (fun m => absurd m List.not_mem_nil) (fun m => absurd m List.not_mem_nil)
  · have old := (M.ok b _ z).1
    rw [e] at old
    cases old
    exact (ok' b _ (un.frzs b _ _ z)).1
theorem walk_G {l : PySem.W.OpenLaw} {n k : Nat} {q : Program} {loose : List Str} {XP : (Str → Option Value) → Heap → Prop} {YP : World → Heap → Prop} {d : DefRec} {x : Str}
    (most : l.most = some n) (line : n ≤ sizeLine) (bare : d.params.defaults = []) (room : Room k callerA)
    (F : ∀ (w : World) (mg : Str → Option Value) (fa : Addr) (h : Heap), YP w h → h.Ns mainGlobals mg → mg d.name = some (.ref fa) → ∃ (K : PySem.W.Frag) (fd : FuncData) (sp : Sp),
      K.In h ∧ (∀ (s : Shared) (u : Value), BindsTo s fd ⟨[u], []⟩ [(x, u)]) ∧ (∀ (H : Hp) (a : Addr) (ns : List Int), ns.length ≤ n → Only H → SqL K H a (ns.map V.int) → sp [.ref a] H (fun v _ => v = .bl true) fun _ _ _ => False) ∧
        ∀ base : Heap, K.In base → base.Ns mainGlobals mg → FG l.prog w K mg base CX0 k fa fd [x] sp) : PySem.W.WalkO q loose XP YP l.row.toRowW d [] (fun f vs => PySem.call f vs) := by
  apply Att.attach_call most bare
  intro w s0 s1 mg mb fa o pm cd doc a vs ns G Y at_f data code name obj nums few gens
  obtain ⟨K, fd, sp, inK, binds, prom, def_⟩ := F w mg fa _ Y G.T.g name
  refine codeAny_mono (law_callG inK G.T.g G.T.b G.T.builtins G.T.nolimit gens obj nums (by omega) room def_ binds fun H only here => prom H a ns few only here) ?_
  exact fun _ _ ⟨⟨z1, z2⟩, z3⟩ => ⟨z1, z2, z3⟩
end G

namespace G
open L2 PyProof.Rows PySem PySem.Spec
open Evl (Ex)
/-! ### what is walked while the old heap stands -/
structure ItS (J : It) (H : Hp) (n : Nat) (item : Nat → V) : Prop where
  go : ∀ i H', Ex H H' → i < n → J.go i H'
  yl : ∀ i x H' H'', Ex H H' → i < n → J.yld i H' x H'' → x = item i ∧ H'' = H'
  st : ∀ H', Ex H H' → J.stop n H'
def nth (xs : List V) (i : Nat) : V := (xs[i]?).getD .non
theorem nth_at {xs : List V} {i : Nat} (h : i < xs.length) : xs[i]? = some (nth xs i) := by
  unfold nth; rw [List.getElem?_eq_getElem h]; rfl
section
variable {K : PySem.W.Frag} {H : Hp} {a : Addr} {xs : List V}
theorem its_l (h : SqL K H a xs) : ItS (Itl K a) H xs.length (nth xs) where
  go := fun i H' e hi => ⟨xs, _, Evl.ex_l e h, nth_at hi⟩
  yl := fun i x H' H'' e hi ⟨h1, h2⟩ => ⟨by have z := h2 xs (Evl.ex_l e h); rw [nth_at hi] at z; exact (Option.some.inj z).symm, h1⟩
  st := fun H' e => ⟨xs, Evl.ex_l e h, Nat.le_refl _⟩
theorem its_t (h : SqT K H a xs) : ItS (Itt K a) H xs.length (nth xs) where
  go := fun i H' e hi => ⟨xs, _, Evl.ex_t e h, nth_at hi⟩
  yl := fun i x H' H'' e hi ⟨h1, h2⟩ => ⟨by have z := h2 xs (Evl.ex_t e h); rw [nth_at hi] at z; exact (Option.some.inj z).symm, h1⟩
  st := fun H' e => ⟨xs, Evl.ex_t e h, Nat.le_refl _⟩
theorem its_r (lo : Int) (n : Nat) : ItS (Itr lo n) H n (fun i => .int (lo + i)) where
  go := fun i H' _ hi => hi
  yl := fun i x H' H'' _ _ ⟨h1, h2⟩ => ⟨h2, h1⟩
  st := fun H' _ => Nat.le_refl n
end
theorem PI.or {X : Cx} {tg l : Expr} {w1 w2 : TI} (h1 : PI X tg l w1) (h2 : PI X tg l w2) : PI X tg l (fun σ H R => w1 σ H R ∨ w2 σ H R) :=
  ⟨fun pins s σ H R I h => h.elim (h1.run pins s σ H R I) (h2.run pins s σ H R I)⟩
/-- a list or a tuple -/
theorem pi_seq {X : Cx} {tg l : Expr} {tl : TE} (h : PE X l tl) : PI X tg l (fun σ H R => iList X.K tl σ H R ∨ iTup X.K tl σ H R) := PI.or (pi_list h) (pi_tup h)
/-- what a comprehension's list holds -/
inductive F2 {α β : Type} (R : α → β → Prop) : List α → List β → Prop where
  | nil : F2 R [] []
  | cons {a : α} {b : β} {as : List α} {bs : List β} : R a b → F2 R as bs → F2 R (a :: as) (b :: bs)
theorem F2.imp {α β : Type} {R R' : α → β → Prop} (f : ∀ a b, R a b → R' a b) : ∀ {as : List α} {bs : List β}, F2 R as bs → F2 R' as bs
  | _, _, .nil => .nil
  | _, _, .cons h hs => .cons (f _ _ h) (F2.imp f hs)
theorem F2.snoc {α β : Type} {R : α → β → Prop} {a : α} {b : β} (h : R a b) : ∀ {as : List α} {bs : List β}, F2 R as bs → F2 R (as ++ [a]) (bs ++ [b])
  | _, _, .nil => .cons h .nil
  | _, _, .cons g hs => .cons g (F2.snoc h hs)
theorem F2.length {α β : Type} {R : α → β → Prop} : ∀ {as : List α} {bs : List β}, F2 R as bs → as.length = bs.length
  | _, _, .nil => rfl
  | _, _, .cons _ hs => congrArg Nat.succ (F2.length hs)
theorem F2.map_eq {α β : Type} {f : α → β} : ∀ {as : List α} {bs : List β}, F2 (fun a b => b = f a) as bs → bs = as.map f
  | _, _, .nil => rfl
  | _, _, .cons h hs => by rw [h, F2.map_eq hs]; rfl
theorem lc_gen {J : It} {H : Hp} {n : Nat} {item : Nat → V} (S : ItS J H n item) {g : TG} {tt : TT} {te : TE} {vs : List Nat} {σ : L2.St} {Q : VK} (fl : Nat → Bool) (R : Nat → Addr → V → Hp → Prop) (hn : n < sizeLine)
    (cl : ∀ i D y H' o, H D = none → R i D y H' → R i D y (upd H' D o)) (mo : ∀ i D y H' H'', Ex H' H'' → R i D y H' → R i D y H'')
    (turn : ∀ i D H', i < n → H D = none → Ex H H' → (∃ acc, H' D = some (.lst acc)) → ∀ (Ny : VK) (Nn : Hp → Prop), (∀ y H4, fl i = true → Ex H' H4 → R i D y H4 → Ny y H4) → (∀ H4, fl i = false → Ex H' H4 → Nn H4) →
      g (item i) (wipe σ vs) H' fun σ2 H2 => wipe σ2 vs = wipe σ vs ∧ tt σ2 H2 fun b H3 => if b = true then te σ2 H3 Ny else Nn H3)
    (fin : ∀ D ys H', H D = none → Ex H H' → H' D = some (.lst ys) → F2 (fun i y => R i D y H') ((List.range n).filter fl) ys → Q (.ref D) H') :
    ∀ D, H D = none → ∃ W : Nat → Nat → Hp → Prop, (∃ m, W 0 m (upd H D (.lst []))) ∧ ∀ i m H, W i m H → (J.stop i H ∧ Q (.ref D) H) ∨ (J.go i H ∧ ∃ Nx : Hp → Prop, (∀ H', Nx H' → ∃ m', m' < m ∧ W (i + 1) m' H') ∧
      ∀ x H', J.yld i H x H' → g x (wipe σ vs) H' fun σ2 H2 => wipe σ2 vs = wipe σ vs ∧ tt σ2 H2 fun b H3 => if b = true then te σ2 H3 fun y H4 => ∃ acc, H4 D = some (.lst acc) ∧ acc.length < sizeLine ∧ Nx (upd H4 D (.lst (acc ++ [y]))) else Nx H3) := by
  intro D hD
  have exD : ∀ {H' : Hp} {o : HO}, Ex H H' → Ex H (upd H' D o) := fun e => Evl.Ex.mut e hD
  refine ⟨fun i m H' => m = n - i ∧ i ≤ n ∧ Ex H H' ∧ ∃ ys, H' D = some (.lst ys) ∧ ys.length ≤ i ∧ F2 (fun i y => R i D y H') ((List.range i).filter fl) ys, ⟨n, by omega, Nat.zero_le _, Evl.Ex.new hD, [], upd_same, Nat.le_refl _, by simpa using F2.nil⟩, ?_⟩
  rintro i m H' ⟨rfl, hi, e, ys, hd, hl, f⟩
  by_cases c : i = n
  · subst c
    exact .inl ⟨S.st H' e, fin D ys H' hD e hd f⟩
  · have hi' : i < n := by omega
    refine .inr ⟨S.go i H' e hi', fun H2 => i + 1 ≤ n ∧ Ex H H2 ∧ ∃ ys, H2 D = some (.lst ys) ∧ ys.length ≤ i + 1 ∧ F2 (fun i y => R i D y H2) ((List.range (i + 1)).filter fl) ys, fun H2 ⟨h1, h2, h3⟩ => ⟨n - (i + 1), by omega, rfl, h1, h2, h3⟩, ?_⟩
    intro x H'' hy
    obtain ⟨rfl, rfl⟩ := S.yl i x H' H'' e hi' hy
    refine turn i D H'' hi' hD e ⟨ys, hd⟩ _ _ (fun y H4 ft e4 r => ?_) (fun H4 ff e4 => ?_)
    · refine ⟨ys, e4 _ _ hd, by omega, hi', exD (e.trans e4), ys ++ [y], upd_same, by rw [List.length_append, List.length_singleton]; omega, ?_⟩
      rw [List.range_succ, List.filter_append, List.filter_cons, if_pos ft, List.filter_nil]
      refine F2.snoc ?_ ?_
      · exact cl i D y H4 _ hD r
      · exact f.imp fun j z q => cl j D z H4 _ hD (mo j D z H'' H4 e4 q)
    · refine ⟨hi', e.trans e4, ys, e4 _ _ hd, by omega, ?_⟩
      rw [List.range_succ, List.filter_append, List.filter_cons, if_neg (by rw [ff]; simp), List.filter_nil, List.append_nil]
      exact f.imp fun j z q => mo j D z H'' H4 e4 q
/-- .. at a comprehension -/
theorem lc_at {wi : TI} {H : Hp} {n : Nat} {item : Nat → V} {g : TG} {tt : TT} {te : TE} {vs : List Nat} {σ : L2.St} {Q : VK} (fl : Nat → Bool) (R : Nat → Addr → V → Hp → Prop) (hn : n < sizeLine)
    (hw : ∀ P : It → Hp → Prop, (∀ J H1, Ex H H1 → ItS J H1 n item → P J H1) → wi σ H P)
    (cl : ∀ i D y H' o, H D = none → R i D y H' → R i D y (upd H' D o)) (mo : ∀ i D y H' H'', Ex H' H'' → R i D y H' → R i D y H'')
    (turn : ∀ i D H', i < n → H D = none → Ex H H' → (∃ acc, H' D = some (.lst acc)) → ∀ (Ny : VK) (Nn : Hp → Prop), (∀ y H4, fl i = true → Ex H' H4 → R i D y H4 → Ny y H4) → (∀ H4, fl i = false → Ex H' H4 → Nn H4) →
      g (item i) (wipe σ vs) H' fun σ2 H2 => wipe σ2 vs = wipe σ vs ∧ tt σ2 H2 fun b H3 => if b = true then te σ2 H3 Ny else Nn H3)
    (fin : ∀ D ys H', H D = none → Ex H H' → H' D = some (.lst ys) → F2 (fun i y => R i D y H') ((List.range n).filter fl) ys → Q (.ref D) H') :
    tLc wi g tt te vs σ H Q := by
  refine hw _ fun J H1 e1 S => ?_
  have un : ∀ {D : Addr}, H1 D = none → H D = none := fun {D} h => Evl.fresh_back e1 h
  exact lc_gen S fl R hn (fun i D y H' o h => cl i D y H' o (un h)) mo (fun i D H' hi h e => turn i D H' hi (un h) (e1.trans e)) fun D ys H' h e => fin D ys H' (un h) (e1.trans e)
/-- a comprehension by a word of the whole list -/
theorem lc_inv {wi : TI} {H B : Hp} {n : Nat} {item : Nat → V} {g : TG} {tt : TT} {te : TE} {vs : List Nat} {σ : L2.St} {Q : VK} (hw : ∀ P : It → Hp → Prop, (∀ J H1, Ex H H1 → ItS J B n item → P J H1) → wi σ H P)
    (Pv : Addr → Nat → Hp → Prop) (h0 : ∀ D H1, Ex H H1 → H1 D = none → Pv D 0 (upd H1 D (.lst []))) (he : ∀ D i H', Pv D i H' → Ex B H')
    (turn : ∀ D i H', i < n → Pv D i H' → g (item i) (wipe σ vs) H' fun σ2 H2 => wipe σ2 vs = wipe σ vs ∧ tt σ2 H2 fun b H3 => if b = true then te σ2 H3 fun y H4 => ∃ acc, H4 D = some (.lst acc) ∧ acc.length < sizeLine ∧ Pv D (i + 1) (upd H4 D (.lst (acc ++ [y]))) else Pv D (i + 1) H3)
    (fin : ∀ D H', Pv D n H' → Q (.ref D) H') : tLc wi g tt te vs σ H Q := by
  refine hw _ fun J H1 e1 S D hD => ?_
  refine ⟨fun i m H' => m = n - i ∧ i ≤ n ∧ Pv D i H', ⟨n, by omega, Nat.zero_le _, h0 D H1 e1 hD⟩, ?_⟩
  rintro i m H' ⟨rfl, hi, p⟩
  by_cases c : i = n
  · subst c
    exact .inl ⟨S.st H' (he _ _ _ p), fin D H' p⟩
  · have hi' : i < n := by omega
    refine .inr ⟨S.go i H' (he _ _ _ p) hi', Pv D (i + 1), fun H2 h => ⟨n - (i + 1), by omega, rfl, hi', h⟩, ?_⟩
    intro x H'' hy
    obtain ⟨rfl, rfl⟩ := S.yl i x H' H'' (he _ _ _ p) hi' hy
    exact turn D i H'' hi' p
/-- .. without a test -/
theorem range_all (n : Nat) : (List.range n).filter (fun _ => true) = List.range n := by simp
/-- a loop -/
theorem for_gen {J : It} {B : Hp} {n : Nat} {item : Nat → V} (S : ItS J B n item) {H : Hp} {g : TG} {tb : TS} {D : Ends} {σ : L2.St} (Pv : Nat → L2.St → Hp → Prop) (h0 : Pv 0 σ H) (he : ∀ i σ' H', Pv i σ' H' → Ex B H')
    (hs : ∀ i σ' H', i < n → Pv i σ' H' → g (item i) σ' H' fun σ2 H2 => tb { D with nx := Pv (i + 1), ct := Pv (i + 1), bk := D.nx } σ2 H2) (hd : ∀ σ' H', Pv n σ' H' → D.nx σ' H') :
    ∃ W : Nat → Nat → L2.St → Hp → Prop, (∃ m, W 0 m σ H) ∧ ∀ i m σ H, W i m σ H → (J.stop i H ∧ D.nx σ H) ∨ (J.go i H ∧ ∃ N : L2.St → Hp → Prop, (∀ σ' H', N σ' H' → ∃ m', m' < m ∧ W (i + 1) m' σ' H') ∧
      ∀ x H', J.yld i H x H' → g x σ H' fun σ2 H2 => tb { D with nx := N, ct := N, bk := D.nx } σ2 H2) := by
  refine ⟨fun i m σ' H' => m = n - i ∧ i ≤ n ∧ Pv i σ' H', ⟨n, by omega, Nat.zero_le _, h0⟩, ?_⟩
  rintro i m σ' H' ⟨rfl, hi, p⟩
  by_cases c : i = n
  · subst c
    exact .inl ⟨S.st H' (he _ _ _ p), hd _ _ p⟩
  · have hi' : i < n := by omega
    refine .inr ⟨S.go i H' (he _ _ _ p) hi', Pv (i + 1), fun σ2 H2 h => ⟨n - (i + 1), by omega, rfl, hi', h⟩, ?_⟩
    intro x H'' hy
    obtain ⟨rfl, rfl⟩ := S.yl i x H' H'' (he _ _ _ p) hi' hy
    exact hs i σ' H'' hi' p
/-- a loop at its statement: what is walked stands in B -/
theorem for_at {wi : TI} {H B : Hp} {n : Nat} {item : Nat → V} {g : TG} {tb : TS} {D : Ends} {σ : L2.St} (hw : ∀ P : It → Hp → Prop, (∀ J H1, Ex H H1 → ItS J B n item → P J H1) → wi σ H P) (Pv : Nat → L2.St → Hp → Prop) (h0 : ∀ H1, Ex H H1 → Pv 0 σ H1) (he : ∀ i σ' H', Pv i σ' H' → Ex B H')
    (hs : ∀ i σ' H', i < n → Pv i σ' H' → g (item i) σ' H' fun σ2 H2 => tb { D with nx := Pv (i + 1), ct := Pv (i + 1), bk := D.nx } σ2 H2) (hd : ∀ σ' H', Pv n σ' H' → D.nx σ' H') : tFor wi g tb D σ H :=
  hw _ fun J H1 e1 S => for_gen S Pv (h0 H1 e1) he hs hd
theorem ItS.mono {J : It} {B H : Hp} {n : Nat} {item : Nat → V} (S : ItS J B n item) (e : Ex B H) : ItS J H n item :=
  ⟨fun i H' e' => S.go i H' (e.trans e'), fun i x H' H'' e' => S.yl i x H' H'' (e.trans e'), fun H' e' => S.st H' (e.trans e')⟩
theorem seq_at {t u : TS} {D : Ends} {σ : L2.St} {H : Hp} (h : t { D with nx := u D } σ H) : tSeq t u D σ H := h
theorem asg_at {te : TE} {g : TG} {D : Ends} {σ : L2.St} {H : Hp} (h : te σ H fun v H1 => g v σ H1 D.nx) : tAsg te g D σ H := h
theorem ret_at {te : TE} {D : Ends} {σ : L2.St} {H : Hp} (h : te σ H D.rt) : tRet te D σ H := h
theorem cb_at {r : List V → Hp → VK → Prop} {te : TE} {σ : L2.St} {H : Hp} {Q : VK} (h : te σ H fun v H1 => r [v] H1 Q) : tCB r (tCons te tNil) σ H Q := h
theorem take_snoc' {α : Type} {l : List α} {i : Nat} {x : α} (h : l[i]? = some x) : l.take (i + 1) = l.take i ++ [x] := by
  rw [List.take_add_one, h]; rfl
/-! the walks -/
section
variable {K : PySem.W.Frag} {H B : Hp} {a : Addr} {xs : List V} {σ : L2.St} {i : Nat} {P : It → Hp → Prop}
theorem w_list (hs : σ[i]? = some (some (.ref a))) (h : SqL K B a xs) (h' : SqL K H a xs) (q : ∀ J H1, Ex H H1 → ItS J B xs.length (nth xs) → P J H1) : iList K (tVar i) σ H P := ⟨_, hs, a, rfl, ⟨xs, h'⟩, q _ _ (Evl.Ex.refl _) (its_l h)⟩
theorem w_tup (hs : σ[i]? = some (some (.ref a))) (h : SqT K B a xs) (h' : SqT K H a xs) (q : ∀ J H1, Ex H H1 → ItS J B xs.length (nth xs) → P J H1) : iTup K (tVar i) σ H P := ⟨_, hs, a, rfl, ⟨xs, h'⟩, q _ _ (Evl.Ex.refl _) (its_t h)⟩
theorem w_seq (hs : σ[i]? = some (some (.ref a))) (h : SqL K B a xs ∨ SqT K B a xs) (e : Ex B H) (q : ∀ J H1, Ex H H1 → ItS J B xs.length (nth xs) → P J H1) : iList K (tVar i) σ H P ∨ iTup K (tVar i) σ H P :=
  h.elim (fun h => .inl (w_list hs h (Evl.ex_l e h) q)) fun h => .inr (w_tup hs h (Evl.ex_t e h) q)
/-- .. ahead of a comprehension -/
theorem l_list (hs : σ[i]? = some (some (.ref a))) (h : SqL K H a xs) (q : ∀ J H1, Ex H H1 → ItS J H1 xs.length (nth xs) → P J H1) : iList K (tVar i) σ H P := w_list hs h h fun J H1 e S => q J H1 e (S.mono e)
theorem l_tup (hs : σ[i]? = some (some (.ref a))) (h : SqT K H a xs) (q : ∀ J H1, Ex H H1 → ItS J H1 xs.length (nth xs) → P J H1) : iTup K (tVar i) σ H P := w_tup hs h h fun J H1 e S => q J H1 e (S.mono e)
theorem l_seq (hs : σ[i]? = some (some (.ref a))) (h : SqL K H a xs ∨ SqT K H a xs) (q : ∀ J H1, Ex H H1 → ItS J H1 xs.length (nth xs) → P J H1) : iList K (tVar i) σ H P ∨ iTup K (tVar i) σ H P :=
  w_seq hs h (Evl.Ex.refl _) fun J H1 e S => q J H1 e (S.mono e)
end
/-! rules with the written part told by a letter (a comprehension's block must not show in a reading) -/
section
variable {X : Cx} {K : PySem.W.Frag}
theorem ix_listK (h : X.K = K := by rfl) : IxR X (rIxL K) := h ▸ ix_list
theorem ix_tupK (h : X.K = K := by rfl) : IxR X (rIxT K) := h ▸ ix_tup
theorem ix_seqK (h : X.K = K := by rfl) : IxR X (rIx K) := h ▸ ix_seq
theorem op_inK (h : X.K = K := by rfl) : OpR X (compareOp .In) (rIn K false) := h ▸ op_in_seq
theorem op_ninK (h : X.K = K := by rfl) : OpR X (compareOp .NotIn) (rIn K true) := h ▸ op_notIn_seq
theorem op_eqDK (hu : X.A.units + 64 < cLine) (h : X.K = K := by rfl) : OpR X (compareOp .Eq) (rEqD K) := h ▸ op_eqD hu
theorem op_neDK (hu : X.A.units + 64 < cLine) (h : X.K = K := by rfl) : OpR X (compareOp .NotEq) (rNeD K) := h ▸ op_neD hu
theorem op_ltTK (hu : X.A.units < cLine) (h : X.K = K := by rfl) : OpR X (compareOp .Lt) (rLtT K) := h ▸ op_ltT hu
theorem op_catAK (h : X.K = K := by rfl) : OpR X (binaryOp .Add) (rCatA K) := h ▸ op_catA
theorem sl_listK (h : X.K = K := by rfl) : SlR X (rSlL K) := h ▸ sl_list
theorem sl_tupK (h : X.K = K := by rfl) : SlR X (rSlT K) := h ▸ sl_tup
def rLenQ (K : PySem.W.Frag) : List V → Hp → VK → Prop := fun xs H Q => ∃ p ys, xs = [.ref p] ∧ (SqL K H p ys ∨ SqT K H p ys) ∧ Q (.int ys.length) H
theorem call_lenK (h : X.K = K := by rfl) : CallR X (.builtin "len") (rLenQ K) := by subst h; exact call_len_seq
def rListOf (K : PySem.W.Frag) : List V → Hp → VK → Prop := fun xs H Q => ∃ p ys, xs = [.ref p] ∧ (SqL K H p ys ∨ SqT K H p ys) ∧ ∀ l, H l = none → Q (.ref l) (upd H l (.lst ys))
theorem call_listK (h : X.K = K := by rfl) : CallR X (.type "list") (rListOf K) := by subst h; exact call_list_of
def rTupOf (K : PySem.W.Frag) : List V → Hp → VK → Prop := fun xs H Q => ∃ p ys, xs = [.ref p] ∧ ((SqL K H p ys ∧ ∀ l, H l = none → Q (.ref l) (upd H l (.tup ys))) ∨ (SqT K H p ys ∧ Q (.ref p) H))
theorem call_tupK (h : X.K = K := by rfl) : CallR X (.type "tuple") (rTupOf K) := by subst h; exact call_tuple_of
theorem call_isiK' (h : X.K = K := by rfl) : CallR X (.builtin "isinstance") (rIsi K) := h ▸ call_isi
theorem call_isiTK (h : X.K = K := by rfl) : CallR X (.builtin "isinstance") (rIsiT K) := h ▸ call_isiT
theorem call_reprK (S : Sm X.K) (hg : X.A.guards = some []) (hu : X.A.units + 64 < cLine) (h : X.K = K := by rfl) : CallR X (.builtin "repr") (rRepr K) := h ▸ call_repr S hg hu
theorem cr_sumK (hc : X.calm = true) (h : X.K = K := by rfl) : CallR X (.builtin "sum") (rSum K) := h ▸ cr_sum hc
theorem cr_allK (hc : X.calm = true) (h : X.K = K := by rfl) : CallR X (.builtin "all") (rAll K) := h ▸ cr_all hc
theorem cr_sortedIK (h : X.K = K := by rfl) : CallR X (.builtin "sorted") (rSortedI K) := h ▸ cr_sortedI
theorem cr_sortedPOK (h : X.K = K := by rfl) : CallR X (.builtin "sorted") (rSortedPO K) := h ▸ cr_sortedPO
theorem pa_starK {e : Expr} {es : List Expr} {te : TE} {t : TA} {p : Pos} (he : PE X e te) (hr : PA X es t) (h : X.K = K := by rfl) (hs : starEach (.Starred e p :: es) X.env = (true, eval e X.env) :: starEach es X.env := by rfl) : PA X (.Starred e p :: es) (StX.tStar K te t) := h ▸ StX.pa_star he hr hs
theorem pe_fldK {e : Expr} {te : TE} {f : Str} {pos : Pos} (he : PE X e te) (h : X.K = K := by rfl) (hb : attributeBase e f X.env (eval e X.env) = eval e X.env := by rfl) : PE X (.Attribute e f pos) (tFld K te f) := h ▸ pe_fld he hb
end
/-- all of truth values told by the places -/
theorem all_range_map (n : Nat) (f : Nat → Bool) : ((List.range n).map f).all id = decide (∀ i, i < n → f i = true) := by
  rw [Bool.eq_iff_iff]; simp
end G

namespace G
open L2 PyProof.Rows PySem PySem.Spec
open Evl (Ex)
/-! ### own classes answering in, len, == -/
theorem RG.in1 {k : Nat} {A : Around} (h : RG (k + 1) A) : RG k A.in1 := ⟨h.r.in1, h.g⟩
/-- the class at C answers the name m by the def at f -/
structure Spc (K : PySem.W.Frag) (C : Addr) (m : Str) (f : Addr) : Prop where
  s : PySem.W.findIn K (.ref C) m = some (some (.ref f))
  fn : true = PySem.W.isFn K (.ref f)
section
variable {X : Cx} {CX : CXT} {k : Nat} {f C : Addr} {fd : FuncData} {ps : List Str} {sp : Sp} {E : XK} {m : Str}
/-- run_g, anywhere below the running body -/
theorem run_gA {A : Around} {pins : List (Addr × Obj)} {σ : L2.St} {H : Hp} {s : Shared} {Q : VK} {us : List Value} {vs : List V} (F : FG X.prog X.w X.K X.mg X.base CX k f fd ps sp) (hA : A.frames = X.A.frames) (hr : RG k A) (hb : Binds X.K fd ps []) (hx : Passes CX X E)
    (I : Inv X pins σ H s) (r : Vals vs us) (h : sp vs H Q E) : wpAny (model X.prog X.w) A (call (.ref f) us) (EP X pins σ Q) X.xe s := by
  have nl : us.length = ps.length := r.length.symm.trans (F.few _ _ _ _ h)
  have bt : BindsTo s fd ⟨us, []⟩ (ps.zip us) := by
    have z := hb s us I.kIn (by rw [List.append_nil]; exact nl)
    rwa [List.append_nil] at z
  have e1 := I.env0
  have e0 : Env0 X.prog X.w X.K X.mg X.base A X.stack s H := { e1 with frames := by rw [hA]; exact e1.frames }
  refine wpAny_call (codeAny_mono (F.run A X.stack s H _ us vs Q E hr e0 bt r h) fun q s' hq => ?_)
  have y := ret_of hx I hq
  cases q with
  | error e => exact y
  | ok fl => cases fl <;> exact y
/-- an own instance, with the answer's promise at it -/
def InsAt (C a : Addr) (H : Hp) : Prop := ∃ dx fs, H a = some (.ins C dx fs)
theorem InsAt.mono {a : Addr} {H H' : Hp} (e : Ex H H') (h : InsAt C a H) : InsAt C a H' := let ⟨d, fs, z⟩ := h; ⟨d, fs, e _ _ z⟩
def rInO (C : Addr) (neg : Bool) (sp : Sp) (E : XK) : R2 := fun x y H Q => ∃ a, y = .ref a ∧ InsAt C a H ∧ sp [.ref a, x] H (fun v H' => ∃ b, v = .bl b ∧ Q (.bl (if neg then !b else b)) H') E
theorem op_inO (T : Spc X.K C "__contains__" f) (F : FG X.prog X.w X.K X.mg X.base CX k f fd ps sp) (hr : RG k X.A) (hb : Binds X.K fd ps []) (hx : Passes CX X E) : OpR X (compareOp .In) (rInO C false sp E) := by
  rintro pins s σ H x y v u Q I rx ry ⟨a, rfl, ⟨dx, fs, ha⟩, h⟩
  cases ry
  obtain ⟨_, J, _⟩ := ins_get I.hok ha
  obtain ⟨od, J, _⟩ := J.look
  obtain ⟨m, hF⟩ := I.fr
  refine PySem.W.in_K hF I.ok.mod.kin J T.s T.fn.symm (wpAny_mono (run_gA (us := [.ref a, v]) (vs := [.ref a, x]) F rfl hr hb hx I (.cons rfl (.cons rx .nil)) h) (fun r s' ⟨z, H', J', rz, b, hz, q⟩ => ?_) fun _ _ z => z)
  subst hz
  cases rz
  exact wpAny_truthy_bool ⟨.bl _, H', J', rfl, q⟩
theorem op_ninO (T : Spc X.K C "__contains__" f) (F : FG X.prog X.w X.K X.mg X.base CX k f fd ps sp) (hr : RG k X.A) (hb : Binds X.K fd ps []) (hx : Passes CX X E) : OpR X (compareOp .NotIn) (rInO C true sp E) := by
  rintro pins s σ H x y v u Q I rx ry ⟨a, rfl, ⟨dx, fs, ha⟩, h⟩
  cases ry
  obtain ⟨_, J, _⟩ := ins_get I.hok ha
  obtain ⟨od, J, _⟩ := J.look
  obtain ⟨m, hF⟩ := I.fr
  refine PySem.W.notIn_K hF I.ok.mod.kin J T.s T.fn.symm (wpAny_mono (run_gA (us := [.ref a, v]) (vs := [.ref a, x]) F rfl hr hb hx I (.cons rfl (.cons rx .nil)) h) (fun r s' ⟨z, H', J', rz, b, hz, q⟩ => ?_) fun _ _ z => z)
  subst hz
  cases rz
  exact wpAny_truthy_bool ⟨.bl _, H', J', rfl, q⟩
def rLenO (C : Addr) (sp : Sp) (E : XK) : List V → Hp → VK → Prop := fun xs H Q => ∃ a, xs = [.ref a] ∧ InsAt C a H ∧ sp [.ref a] H (fun v H' => ∃ n : Int, v = .int n ∧ (0 ≤ n ∧ n < 2 ^ 63) ∧ Q (.int n) H') E
theorem call_lenO (T : Spc X.K C "__len__" f) (F : FG X.prog X.w X.K X.mg X.base CX k f fd ps sp) (hr : RG (k + 1) X.A) (hb : Binds X.K fd ps []) (hx : Passes CX X E) : CallR X (.builtin "len") (rLenO C sp E) := by
  rintro pins s σ H xs us Q I r ⟨a, rfl, ⟨dx, fs, ha⟩, h⟩
  obtain ⟨u, only, ru⟩ := vals1 r
  subst only
  cases ru
  obtain ⟨_, J, _⟩ := ins_get I.hok ha
  obtain ⟨od, J, _⟩ := J.look
  obtain ⟨m, hF⟩ := I.fr
  refine PySem.W.len_K hF I.ok.mod.kin J T.s T.fn.symm (wpAny_mono (run_gA (us := [.ref a]) (vs := [.ref a]) F rfl hr.in1 hb hx I (.cons rfl .nil) h) (fun r s' ⟨z, H', J', rz, n, hz, hn, q⟩ => ?_) fun _ _ z => z)
  subst hz
  obtain ⟨t, rfl⟩ := rz
  exact ⟨hn, .int n, H', J'.tok _, ⟨_, rfl⟩, q⟩
end
/-! ### in, index: tuples of data -/
section
variable {X : Cx} {K : PySem.W.Frag}
def rInT (K : PySem.W.Frag) : R2 := fun x y H Q => ∃ d ds, Dp K H x d ∧ Dp K H y (.tuple ds) ∧ SeqAt.shaped d = true ∧ SeqAt.shaped (.tuple ds) = true ∧ Q (.bl (ds.any fun z => PyData.eqv z d)) H
theorem tup_parts {pins : List (Addr × Obj)} {σ : L2.St} {H : Hp} {s : Shared} {a : Addr} {ds : List PyData} (I : Inv X pins σ H s) (h : Dp X.K H (.ref a) (.tuple ds)) (c : SeqAt.shaped (.tuple ds) = true) :
    ∃ its as, s.heap.IsTuple a its.toArray ∧ ReadsAll s.heap its ds as ∧ PyData.canLayAll0 ds = true ∧ its.length ≤ sizeLine := by
  have lay : PyData.canLayAll0 ds = true := by have z := SeqAt.canLay_of_shaped c; simpa [PyData.canLay0] using z
  cases h with
  | tup hs ha =>
    have ⟨its, rv, lies, short⟩ := I.tuple hs
    have ⟨as, q⟩ := Dp.readsAll I ds _ its ha rv
    exact ⟨its, as, lies, q, lay, rv.length ▸ short⟩
theorem op_inT (hu : X.A.units + 65 < cLine) (h : X.K = K := by rfl) : OpR X (compareOp .In) (rInT K) := by
  subst h
  rintro pins s σ H x y v u Q I rx ry ⟨d, ds, hd, he, sd, se, q⟩
  obtain ⟨bs, r1⟩ := Dp.reads I d x v hd rx
  cases y with
  | ref a =>
    cases ry
    obtain ⟨its, as, pl, rs, lay, _⟩ := tup_parts I he se
    refine SeqAt.in_tupleAt (fun z => PyData.eqv (SeqAt.readOf s.heap z) d) pl (SeqAt.items_eqAt (vs := its.toArray) rs r1 lay (SeqAt.canLay_of_shaped sd) (room_in_shaped sd hu)) ⟨.bl _, H, I, rfl, ?_⟩
    rw [SeqAt.any_by_data rs lay]
    exact q
  | _ => cases he
def rIndexT (K : PySem.W.Frag) : V → List V → Hp → VK → Prop := fun x xs H Q => ∃ (a : Addr) (y : V) (d : PyData) (ds : List PyData) (j : Nat) (z : PyData), x = V.ref a ∧ xs = [y] ∧ Dp K H (V.ref a) (.tuple ds) ∧ Dp K H y d ∧
  SeqAt.shaped (.tuple ds) = true ∧ SeqAt.shaped d = true ∧ ds[j]? = some z ∧ PyData.eqv z d = true ∧ (∀ (m : Nat) (z' : PyData), m < j → ds[m]? = some z' → PyData.eqv z' d = false) ∧ Q (.int (j : Nat)) H
theorem mt_indexT (hu : X.A.units + 65 < cLine) (h : X.K = K := by rfl) : MtR X "tuple.index" (rIndexT K) := by
  subst h
  rintro pins s σ H x xs v us Q I rx rxs ⟨a, y, d, ds, j, z, rfl, rfl, hl, hy, sl, sd, hz, hzj, hno, q⟩
  cases rx
  obtain ⟨uy, rfl, ry⟩ := vals1 rxs
  have ⟨bs, r1⟩ := Dp.reads I d _ _ hy ry
  obtain ⟨its, as, ⟨⟨cls, dd, dt, sls⟩, ho, hc, n, hdt⟩, rs, lay, hlen⟩ := tup_parts I hl sl
  simp only at hc hdt
  subst hc hdt
  have mp : its.map (SeqAt.readOf s.heap) = ds := SeqAt.readsAll_map ds its as lay rs
  have le : its.length = ds.length := by rw [← mp, List.length_map]
  have rd : ∀ (m : Nat) (hm : m < its.toArray.size) (z' : PyData), ds[m]? = some z' → SeqAt.readOf s.heap its.toArray[m] = z' := by
    intro m _ z' e
    rw [← mp, List.getElem?_map, Option.map_eq_some_iff] at e
    obtain ⟨v, at_m, is⟩ := e
    rw [← is, List.getElem_toArray, (List.getElem?_eq_some_iff.mp at_m).2]
  have jd := (List.getElem?_eq_some_iff.mp hz).1
  have hj : j < its.toArray.size := by rw [List.size_toArray]; omega
  refine call_meets PySem.F.slot_tuple_index ⟨_, ho, rfl⟩ PySem.F.entry_tuple_index (PySem.F.args_tuple_index_2 _ _)
    (TI.tuple_indexAt a its.toArray n dd sls uy (fun u => PyData.eqv (SeqAt.readOf s.heap u) d) j hj ?_ ?_) ⟨ho, SeqAt.items_eqAt (vs := its.toArray) rs r1 lay (SeqAt.canLay_of_shaped sd) (room_in_shaped sd hu), ⟨.int (j : Nat), H, I.tok _, ⟨_, rfl⟩, q⟩⟩
  · exact (congrArg (PyData.eqv · d) (rd j hj z hz)).trans hzj
  · intro m hm mj
    have e : ds[m]? = some ds[m] := List.getElem?_eq_getElem (by omega)
    exact (congrArg (PyData.eqv · d) (rd m hm _ e)).trans (hno m _ mj e)
end
/-! ### tuple(..) of data; data that lies apart from a list -/
theorem tup_any {K : PySem.W.Frag} {H : Hp} {p : Addr} {ys : List V} {ds : List PyData} {Q : VK} (hx : SqL K H p ys ∨ SqT K H p ys) (hd : Dqs K H ys ds) (k : ∀ v H', Ex H H' → Dq K H' v (.tuple ds) → Q v H') : rTupOf K [.ref p] H Q :=
  ⟨p, ys, rfl, hx.elim (fun h => .inl ⟨h, fun l hl => k _ _ (Evl.Ex.new hl) (.tup (SqT.of upd_same) (hd.mono (Evl.Ex.new hl)))⟩) fun h => .inr ⟨h, k _ _ (Evl.Ex.refl _) (.tup h hd)⟩⟩
mutual
/-- no list and no dict in it -/
def tups : PyData → Bool
  | .list _ => false
  | .dict _ => false
  | .tuple ds => tupsAll ds
  | _ => true
def tupsAll : List PyData → Bool
  | [] => true
  | d :: ds => tups d && tupsAll ds
end
theorem tupsAll_iff : ∀ {ds : List PyData}, tupsAll ds = true ↔ ∀ d ∈ ds, tups d = true
  | [] => by simp [tupsAll]
  | d :: ds => by rw [tupsAll, Bool.and_eq_true, tupsAll_iff]; simp
theorem Ex.del {H H' : Hp} {D : Addr} (e : Ex H H') : Ex (L2.del H D) (L2.del H' D) := fun a o z => by
  unfold L2.del at *
  split at z
  · cases z
  · rename_i c; rw [if_neg c]; exact e _ _ z
theorem Ex.ofDel {H : Hp} {D : Addr} : Ex (L2.del H D) H := fun a o z => by
  unfold L2.del at z
  split at z
  · cases z
  · exact z
theorem del_upd {H : Hp} {D : Addr} {o : HO} : L2.del (upd H D o) D = L2.del H D := by
  funext b
  unfold L2.del
  split
  · rfl
  · rename_i c; exact upd_ne c
theorem SqT.del {K : PySem.W.Frag} {H : Hp} {D a : Addr} {xs acc : List V} (h : SqT K H a xs) (hD : H D = some (.lst acc)) : SqT K (L2.del H D) a xs := by
  refine Or.imp_left (fun here => ?_) h
  have apart : a ≠ D := fun z => by
    subst z
    exact here.elim (fun e => nomatch hD.symm.trans e) fun ⟨o, e⟩ => nomatch hD.symm.trans e
  have same := del_ne (H := H) apart
  exact here.imp same.trans fun ⟨o, e⟩ => ⟨o, same.trans e⟩
mutual
theorem Dq.del {K : PySem.W.Frag} {H : Hp} {D : Addr} {acc : List V} (hD : H D = some (.lst acc)) : ∀ {v : V} {d : PyData}, Dq K H v d → tups d = true → Dq K (L2.del H D) v d
  | _, _, .non, _ => .non
  | _, _, .bl b, _ => .bl b
  | _, _, .int i, _ => .int i
  | _, _, .str x, _ => .str x
  | _, _, .lst h hs, c => by simp [tups] at c
  | _, _, .tup h hs, c => .tup (SqT.del h hD) (Dqs.del hD hs (by simpa [tups] using c))
  | _, _, .dic h, c => by simp [tups] at c
theorem Dqs.del {K : PySem.W.Frag} {H : Hp} {D : Addr} {acc : List V} (hD : H D = some (.lst acc)) : ∀ {v : List V} {d : List PyData}, Dqs K H v d → tupsAll d = true → Dqs K (L2.del H D) v d
  | _, _, .nil, _ => .nil
  | _, _, .cons h hs, c => by
    simp only [tupsAll, Bool.and_eq_true] at c
    exact .cons (h.del hD c.1) (Dqs.del hD hs c.2)
end
theorem f2_choose {α β γ : Type} {A : α → γ → Prop} {B : γ → β → Prop} : ∀ {as : List α} {bs : List β}, F2 (fun a b => ∃ c, A a c ∧ B c b) as bs → ∃ cs, F2 A as cs ∧ F2 B cs bs
  | _, _, .nil => ⟨[], .nil, .nil⟩
  | _, _, .cons ⟨c, h1, h2⟩ hs => let ⟨cs, q1, q2⟩ := f2_choose hs; ⟨c :: cs, .cons h1 q1, .cons h2 q2⟩
theorem f2_dq {K : PySem.W.Frag} {H : Hp} {γ : Type} {f : γ → PyData} : ∀ {cs : List γ} {vs : List V}, F2 (fun c v => Dq K H v (f c)) cs vs → Dqs K H vs (cs.map f)
  | _, _, .nil => .nil
  | _, _, .cons h hs => .cons h (f2_dq hs)
theorem f2_range {γ : Type} {A : Nat → γ → Prop} {n : Nat} {cs : List γ} (h : F2 A (List.range n) cs) : cs.length = n ∧ ∀ i c, cs[i]? = some c → A i c := by
  have l := h.length
  rw [List.length_range] at l
  refine ⟨l.symm, fun i c hc => ?_⟩
  have g : ∀ {as : List Nat} {cs : List γ}, F2 A as cs → ∀ {i : Nat} {c : γ}, cs[i]? = some c → ∃ a, as[i]? = some a ∧ A a c := by
    intro as cs h
    induction h with
    | nil => intro i c hc; simp at hc
    | cons h _ ih =>
      intro i c hc
      cases i with
      | zero => simp at hc; subst hc; exact ⟨_, rfl, h⟩
      | succ i => simpa using ih (by simpa using hc)
  obtain ⟨a, h1, h2⟩ := g h hc
  have hi : i < n := by rw [← List.length_range (n := n)]; exact (List.getElem?_eq_some_iff.mp h1).1
  rw [List.getElem?_range hi] at h1
  cases h1; exact h2
/-! data lies apart from an own instance -/
section
variable {K : PySem.W.Frag} {H : Hp} {D C dx : Addr} {fs : List (Str × V)} {o : HO}
theorem SqT.ins {a : Addr} {xs : List V} (h : SqT K H a xs) (hD : H D = some (.ins C dx fs)) : SqT K (upd H D o) a xs := by
  rcases h with (h | ⟨q, h⟩) | h
  · exact .inl (.inl (by rw [upd_ne (fun z => by rw [z, hD] at h; cases h)]; exact h))
  · exact .inl (.inr ⟨q, by rw [upd_ne (fun z => by rw [z, hD] at h; cases h)]; exact h⟩)
  · exact .inr h
theorem SqL.ins {a : Addr} {xs : List V} (h : SqL K H a xs) (hD : H D = some (.ins C dx fs)) : SqL K (upd H D o) a xs := by
  rcases h with (h | ⟨q, h⟩) | h
  · exact .inl (.inl (by rw [upd_ne (fun z => by rw [z, hD] at h; cases h)]; exact h))
  · exact .inl (.inr ⟨q, by rw [upd_ne (fun z => by rw [z, hD] at h; cases h)]; exact h⟩)
  · exact .inr h
mutual
theorem Dq.ins (hD : H D = some (.ins C dx fs)) : ∀ {v : V} {d : PyData}, Dq K H v d → Dq K (upd H D o) v d
  | _, _, .non => .non
  | _, _, .bl b => .bl b
  | _, _, .int i => .int i
  | _, _, .str x => .str x
  | _, _, .lst h hs => .lst (SqL.ins h hD) (Dqs.ins hD hs)
  | _, _, .tup h hs => .tup (SqT.ins h hD) (Dqs.ins hD hs)
  | _, _, .dic h => .dic (by rw [upd_ne (fun z => by rw [z, hD] at h; cases h)]; exact h)
theorem Dqs.ins (hD : H D = some (.ins C dx fs)) : ∀ {v : List V} {d : List PyData}, Dqs K H v d → Dqs K (upd H D o) v d
  | _, _, .nil => .nil
  | _, _, .cons h hs => .cons (h.ins hD) (Dqs.ins hD hs)
end
end
theorem fld_at {K : PySem.W.Frag} {ta tv : TE} {f : Str} {D : Ends} {σ : L2.St} {H : Hp} (h : tv σ H fun y H1 => ta σ H1 fun x H2 => ∃ a C dx fs, x = .ref a ∧ H2 a = some (.ins C dx fs) ∧ Cls K C ∧ NoAttr K C f ∧ fs.length < 1000 ∧ D.nx σ (upd H2 a (.ins C dx (putF f y fs)))) : sFld K ta tv f D σ H := h
/-! ### a tuple whose methods are called: made by tuple(list), pinned as it lies -/
def FrzT (H : Hp) (v : V) : Prop := ∃ p o xs, v = .ref p ∧ H p = some (.frz o (.tup xs)) ∧ o.dict = none ∧ o.cls = .type "tuple"
theorem FrzT.mono {H H' : Hp} {v : V} (e : Ex H H') (h : FrzT H v) : FrzT H' v := let ⟨p, o, xs, a, b, c⟩ := h; ⟨p, o, xs, a, e _ _ b, c⟩
theorem FrzT.del {H : Hp} {D : Addr} {acc : List V} {v : V} (h : FrzT H v) (hD : H D = some (.lst acc)) : FrzT (L2.del H D) v :=
  let ⟨p, o, xs, a, b, c⟩ := h; ⟨p, o, xs, a, by rw [del_ne (fun z => by rw [z, hD] at b; cases b)]; exact b, c⟩
theorem FrzT.ins {H : Hp} {D C dx : Addr} {fs : List (Str × V)} {u : HO} {v : V} (h : FrzT H v) (hD : H D = some (.ins C dx fs)) : FrzT (upd H D u) v :=
  let ⟨p, o, xs, a, b, c⟩ := h; ⟨p, o, xs, a, by rw [upd_ne (fun z => by rw [z, hD] at b; cases b)]; exact b, c⟩
def rTupF (K : PySem.W.Frag) : List V → Hp → VK → Prop := fun xs H Q => ∃ p ys, xs = [.ref p] ∧ SqL K H p ys ∧ ∀ l o, H l = none → o.dict = none → o.cls = .type "tuple" → Q (.ref l) (upd H l (.frz o (.tup ys)))
section
variable {X : Cx} {K : PySem.W.Frag}
theorem call_tupF (h : X.K = K := by rfl) : CallR X (.type "tuple") (rTupF K) := by
  subst h
  rintro pins s σ H xs us Q I r ⟨p, ys, rfl, hq, q⟩
  obtain ⟨u, only, rx⟩ := vals1 r
  subst only
  cases rx
  have ⟨its, rv, pl, hz⟩ := I.list hq
  have hl := rv.length
  refine call_tuple_list pl.isList (fun h' kp => ?_) (by simp only [List.size_toArray]; omega)
  have J : Inv X pins σ H { s with heap := h' } := I.kept (t' := s.toks) kp
  have ht := IsTup.new h' its.toArray
  refine ⟨.ref h'.objs.size, upd H h'.objs.size (.frz { cls := .type "tuple", data := .seq its.toArray } (.tup ys)), J.laid (t' := s.toks) (fun b o e => Heap.get?_push_of_some _ e) (Nat.le_refl _) ?_, rfl, q _ _ (J.hok.fresh (Nat.le_refl _)) rfl rfl⟩
  exact ⟨Heap.get?_push_size _ rfl, hz, its, rv, ht⟩
def tBMT (r : V → List V → Hp → VK → Prop) (to : TE) (t : TA) : TE := fun σ H Q => to σ H fun x H1 => FrzT H1 x ∧ t σ H1 fun xs H2 => r x xs H2 Q
variable {o e : Expr} {es : List Expr} {to : TE} {t : TA} {name : Str} {apos cpos : Pos} {id : String} {r : V → List V → Hp → VK → Prop}
theorem pe_bmT (pa : PlainAttrs "tuple") (slot : Slot "tuple" name id) (hty : typeOf (.builtin id) = pure (.type "method_descriptor")) (hm : MtR X id r) (ho : PE X o to) (ha : PA X (e :: es) t) (hbase : attributeBase o name X.env (eval o X.env) = eval o X.env := by rfl) (hfew : ((backTo cpos (starEach (e :: es) X.env)).all (fun x => !x.1) && (backToKw cpos (keywordEach [] X.env)).all (fun x => x.1.isSome) && decide ((e :: es).length + ([] : List Keyword).length + (if ([] : List Keyword).isEmpty then 0 else 1) < 30)) = true := by rfl) (hline : (apos.endLine == cpos.line) = true := by rfl) (hs : starEach (e :: es) X.env = (false, eval e X.env) :: starEach es X.env := by rfl) (hplain : (backTo cpos (starEach es X.env)).any (·.1) = false := by rfl) :  PE X (.Call (.Attribute o name apos) (e :: es) [] cpos) (tBMT r to t) := by
  refine ⟨fun pins s σ H Q I h => wpAny_Call_method_late hbase hfew hline rfl (thn (ho.run pins s σ H _ I h) ?_)⟩
  rintro v s1 ⟨x, H1, I1, r1, ⟨p, ob, xs, rfl, hp, hd, hc⟩, q1⟩
  cases r1
  have g := (I1.hok _ _ hp).1
  refine ⟨"tuple", id, pa, slot, hty, ⟨ob, g, hc⟩, fun a z => by cases z; exact ⟨ob, g, hd⟩, ?_⟩
  have args := ha.run cpos pins _ σ H1 _ I1 q1
  rw [hs] at args ⊢; refine Calls.callWith_builtin (by show (false || (backTo cpos (starEach es X.env)).any (·.1)) = false; rw [hplain] <;> rfl) (Calls.evalArgs_plain ?_)
  exact thn args fun us s2 ⟨ys, H2, I2, r2, q2⟩ => hm pins s2 σ H2 (.ref p) ys (.ref p) us Q I2 rfl r2 q2
end
/-! ### own classes: isinstance, != (facts of the head) -/
def ownB (os : List Str) (K : PySem.W.Frag) (x : Str) : Bool :=
  decide (PySem.W.findIn K (.ref (He.ga K x)) "__class__" = some (some (.builtin "object.__class__"))) && (decide (PySem.W.specialIn K (.builtin "object.__class__") "__get__" = some (some (.builtin "getset_descriptor.__get__"))) &&
  (decide (PySem.W.takesIn K (.builtin "object.__class__") = some true) && (decide (PySem.W.mroIn K (He.ga K x) (.type "object") = some true) && (decide (PySem.W.findIn K (.ref (He.ga K x)) "__ne__" = some (some (.builtin "object.__ne__"))) &&
  ((["NoneType", "bool", "int", "str", "list", "tuple", "dict"].all fun T => decide (PySem.W.kitOne K (.type T) (.ref (He.ga K x)) = some false)) && os.all fun y => decide (PySem.W.kitOne K (.ref (He.ga K y)) (.ref (He.ga K x)) = some (decide (y = x))))))))
structure OwnF (os : List Str) (K : PySem.W.Frag) (x : Str) : Prop where
  ha : PySem.W.findIn K (.ref (He.ga K x)) "__class__" = some (some (.builtin "object.__class__"))
  got : some (some (.builtin "getset_descriptor.__get__")) = PySem.W.specialIn K (.builtin "object.__class__") "__get__" ∧ some true = PySem.W.takesIn K (.builtin "object.__class__")
  hm : PySem.W.mroIn K (He.ga K x) (.type "object") = some true
  ne : PySem.W.findIn K (.ref (He.ga K x)) "__ne__" = some (some (.builtin "object.__ne__"))
  ty : ∀ T ∈ ["NoneType", "bool", "int", "str", "list", "tuple", "dict"], PySem.W.kitOne K (.type T) (.ref (He.ga K x)) = some false
  ow : ∀ y ∈ os, PySem.W.kitOne K (.ref (He.ga K y)) (.ref (He.ga K x)) = some (decide (y = x))
theorem ownB_ok {os : List Str} {K : PySem.W.Frag} {x : Str} (h : ownB os K x = true) : OwnF os K x := by
  unfold ownB at h
  simp only [Bool.and_eq_true, decide_eq_true_eq, List.all_eq_true] at h
  obtain ⟨h1, h2, h3, h4, h5, h6, h7⟩ := h
  exact OwnF.mk h1 ⟨h2.symm, h3.symm⟩ h4 h5 h6 h7
theorem tyN_mem (d : PyData) : tyN d ∈ ["NoneType", "bool", "int", "str", "list", "tuple", "dict"] := by cases d <;> simp [tyN]
/-- isinstance(x, C), x data -/
theorem isi_own_d {os : List Str} {K : PySem.W.Frag} {H : Hp} {x : Str} {v : V} {d : PyData} {Q : VK} (F : OwnF os K x) (h : Dq K H v d) (q : Q (.bl false) H) : rIsi K [v, .ref (He.ga K x)] H Q :=
  ⟨v, _, _, _, _, rfl, .own _, h.ty, F.ty _ (tyN_mem d), q⟩
/-- .. x an own instance -/
theorem isi_own_o {os : List Str} {K : PySem.W.Frag} {H : Hp} {x y : Str} {a : Addr} {Q : VK} (F : OwnF os K x) (G : OwnF os K y) (cl : Cls K (He.ga K y)) (hy : y ∈ os) (h : InsAt (He.ga K y) a H) (q : Q (.bl (decide (y = x))) H) : rIsi K [.ref a, .ref (He.ga K x)] H Q :=
  let ⟨_, _, g⟩ := h
  ⟨.ref a, _, _, _, _, rfl, .own _, .base (.ins g cl G.ha G.got.1.symm G.got.2.symm G.hm), F.ow y hy, q⟩
end G

namespace G
open L2 PyProof.Rows PySem PySem.Spec
open Evl (Ex)
/-! ### == and != by an own __eq__ -/
section
variable {prog : Program} {w : World} {A : Around} {E : Value → Shared → Prop} {s : Shared} {K : PySem.W.Frag} {x C L f : Addr} {h₀ : Heap} {m : Str → Option Value} {ox : Obj} {od : Option Obj} {b tb : Value}
theorem by_no {α : Sort _} (a b : α) : (if false = true then a else b) = b := rfl
open PySem.W in
theorem ifBound_ne {Q : Option Value → Shared → Prop} (X : K.In s.heap) (I : InstAt s.heap x ox C od) (hs : findIn K (.ref C) "__ne__" = some (some (.builtin "object.__ne__")))
    (h : wpAny (model prog w) A (call (.builtin "object.__ne__") [.ref x, b]) (fun v => Q (some v)) E s) : wpAny (model prog w) A (callSpecialIfBound? (.ref x) "__ne__" [b]) Q E s := by
  unfold callSpecialIfBound? bindSpecialIfBound?
  refine wpAny_holding (wpAny_bind (wpAny_bind (wpAny_bind (I.type.here ((looks_findIn X hs).here (wpAny_bind (wpAny_askSetting (wpAny_ite ?_))))))))
  have e : bindSpecial (.builtin "object.__ne__") (.ref x) = pure (.builtin "object.__ne__", [.ref x]) := PySem.F.cmp_object.ne.bind _
  have last : wpAny (model prog w) A (call (.builtin "object.__ne__") ([.ref x] ++ [b]) >>= fun v => pure (some v)) Q E s := wpAny_bind (wpAny_mono h (fun v s' q => wpAny_pure q) fun _ _ q => q)
  split
  · refine wpAny_bind (wpAny_of_eq e (wpAny_pure ?_)); exact last
  · refine wpAny_tryCatch (wpAny_bind (wpAny_of_eq e (wpAny_pure ?_))); exact last
open PySem.W in
theorem ne_own {Q : Value → Shared → Prop} (hu : A.units + 1 < cLine) (F : Fr h₀ L s.heap m) (X₀ : K.In h₀) (I : InstAt s.heap x ox C od) (hb : Looks (model prog w) s.heap (typeOf b) tb) (hn : notFirst K C tb = true)
    (hne : findIn K (.ref C) "__ne__" = some (some (.builtin "object.__ne__"))) (hm : mroIn K C (.type "object") = some true) (hs : findIn K (.ref C) "__eq__" = some (some (.ref f))) (hf : isFn K (.ref f) = true)
    (h : wpAny (model prog w) A.in1 (call (.ref f) [.ref x, b]) (fun r s' => ∃ z, r = .bool z ∧ Q (.bool !z) s') E s) : wpAny (model prog w) A (richCompare .NotEq (.ref x) b) Q E s := by
  have X := X₀.keeps F.keep
  have run : wpAny (model prog w) A (call (.builtin "object.__ne__") [.ref x, b]) (fun r s' => ∃ z, r = .bool z ∧ Q (.bool z) s') E s := by
    have sub : Looks (model prog w) s.heap (isInstance (.ref x) (.type "object")) true := (I.type).andThen (looks_mroIn X hm)
    refine wpAny_call (codeAny_call_builtin PySem.F.cmp_object.ne.plain PySem.F.cmpEntry_ne (check_slot PySem.F.cmpKind_ne PySem.F.cmpSplit_ne sub (PySem.F.cmpArgs_ne _ _) ?_))
    rw [Builtin.«object.__ne__»]
    refine wpAny_bind (wpAny_of_eq (show slotArgs "__ne__" 1 ⟨[.ref x, b], []⟩ = pure (.ref x, [b]) from rfl) ?_)
    refine wpAny_bind (wpAny_cRoomFor hu (wpAny_bind (ifBound_K X I hs hf (wpAny_mono h (fun r s' z => ?_) fun _ _ z => z))))
    obtain ⟨z, rfl, q⟩ := z
    exact wpAny_bind (wpAny_truthy_bool (wpAny_pure ⟨_, rfl, q⟩))
  have one : wpAny (model prog w) A (tryCompare (.ref x) "__ne__" b) (fun r s' => ∃ v, r = some v ∧ Q v s') E s := by
    unfold tryCompare
    refine wpAny_bind (ifBound_ne X I hne (wpAny_mono run (fun v s' z => ?_) fun _ _ z => z))
    obtain ⟨z, rfl, q⟩ := z
    exact wpAny_pure ⟨_, rfl, q⟩
  unfold richCompare
  simp only [oneThing_ref]
  refine wpAny_holding (wpAny_bind (wpAny_cRoomFor (by omega) (wpAny_bind (I.type.here (wpAny_bind (hb.here ?_))))))
  split
  · rename_i c
    have apart : some false = subIn K tb (.ref C) := (Bool.or_eq_true_iff.mp hn).elim (fun z => by rw [beq_iff_eq.mp z] at c; simp at c) fun z => (beq_iff_eq.mp z).symm
    refine wpAny_bind ((looks_subIn X apart.symm).here ?_)
    rw [by_no]
    refine wpAny_bind (wpAny_mono one (fun r s' ⟨v, e, q⟩ => ?_) fun _ _ z => z)
    subst e; exact wpAny_pure q
  · refine wpAny_bind (m := pure false) (wpAny_pure ?_)
    rw [by_no]
    refine wpAny_bind (wpAny_mono one (fun r s' ⟨v, e, q⟩ => ?_) fun _ _ z => z)
    subst e; exact wpAny_pure q
end
theorem nf_of {K : PySem.W.Frag} {t : Value} {C : Addr} (h : PySem.W.kitOne K t (.ref C) = some false) : PySem.W.notFirst K C t = true := by
  unfold PySem.W.kitOne at h
  split at h
  · cases h
  · have e : PySem.W.kitCls K t (.ref C) = (if ((PySem.W.clsIn K C).isSome && PySem.W.typeIn K (.ref C) == some (.type "type")) = true then PySem.W.subIn K t (.ref C) else none) := rfl
    rw [e] at h
    by_cases c : ((PySem.W.clsIn K C).isSome && PySem.W.typeIn K (.ref C) == some (.type "type")) = true
    · rw [if_pos c] at h
      unfold PySem.W.notFirst; rw [h]; simp
    · rw [if_neg c] at h; cases h
theorem nf_same {K : PySem.W.Frag} {C : Addr} : PySem.W.notFirst K C (.ref C) = true := by unfold PySem.W.notFirst; simp
section
variable {X : Cx} {K : PySem.W.Frag} {CX : CXT} {k : Nat} {f C : Addr} {fd : FuncData} {ps : List Str} {sp : Sp} {E : XK}
def rCmpO (K : PySem.W.Frag) (C : Addr) (neg : Bool) (sp : Sp) (E : XK) : R2 := fun x y H Q => ∃ a t, x = .ref a ∧ InsAt C a H ∧ TyX K H y t ∧ PySem.W.notFirst K C t = true ∧ sp [.ref a, y] H (fun v H' => ∃ b, v = .bl b ∧ Q (.bl (if neg then !b else b)) H') E
theorem op_eqO (T : Spc X.K C "__eq__" f) (F : FG X.prog X.w X.K X.mg X.base CX k f fd ps sp) (hr : RG k X.A) (hb : Binds X.K fd ps []) (hx : Passes CX X E) : OpR X (compareOp .Eq) (rCmpO X.K C false sp E) := by
  rintro pins s σ H x y v u Q I rx ry ⟨a, t, rfl, ⟨dx, fs, ha⟩, ty, nf, h⟩
  cases rx
  obtain ⟨_, J, _⟩ := ins_get I.hok ha
  obtain ⟨od, J, _⟩ := J.look
  obtain ⟨m, hF⟩ := I.fr
  obtain ⟨R, kx, hR, _⟩ := kit_of I ry ty
  refine PySem.W.cmp_K (op := .Eq) (hu0 hr.r) hF I.ok.mod.kin J (kx.ty _ _ I.kIn hR) nf T.s T.fn.symm (wpAny_mono (run_gA (us := [.ref a, u]) (vs := [.ref a, y]) F rfl hr hb hx I (.cons rfl (.cons ry .nil)) h) (fun r s' ⟨z, H', J', rz, b, hz, q⟩ => ?_) fun _ _ z => z)
  subst hz
  cases rz
  exact ⟨.bl b, H', J', rfl, q⟩
theorem op_neO (T : Spc X.K C "__eq__" f) (hne : PySem.W.findIn X.K (.ref C) "__ne__" = some (some (.builtin "object.__ne__"))) (hm : PySem.W.mroIn X.K C (.type "object") = some true) (F : FG X.prog X.w X.K X.mg X.base CX k f fd ps sp) (hr : RG (k + 1) X.A) (hb : Binds X.K fd ps []) (hx : Passes CX X E) : OpR X (compareOp .NotEq) (rCmpO X.K C true sp E) := by
  rintro pins s σ H x y v u Q I rx ry ⟨a, t, rfl, ⟨dx, fs, ha⟩, ty, nf, h⟩
  cases rx
  obtain ⟨_, J, _⟩ := ins_get I.hok ha
  obtain ⟨od, J, _⟩ := J.look
  obtain ⟨m, hF⟩ := I.fr
  obtain ⟨R, kx, hR, _⟩ := kit_of I ry ty
  have un : X.A.units + 1 < cLine := by have := hr.r.un; omega
  refine ne_own un hF I.ok.mod.kin J (kx.ty _ _ I.kIn hR) nf hne hm T.s T.fn.symm (wpAny_mono (run_gA (us := [.ref a, u]) (vs := [.ref a, y]) F rfl hr.in1 hb hx I (.cons rfl (.cons ry .nil)) h) (fun r s' ⟨z, H', J', rz, b, hz, q⟩ => ?_) fun _ _ z => z)
  subst hz
  cases rz
  exact ⟨b, rfl, .bl _, H', J', rfl, q⟩
end
end G

namespace G
open L2 PyProof.Rows PySem PySem.Spec
open Evl (Ex)
/-! ### enumerate(tuple) -/
section
variable {s : Shared} {w : World} {prog : Program} {E : Value → Shared → Prop} {A : Around}
theorem enum_new {v : Value} {o : Obj} {H : Heap → Prop} (B : Begins v o H) :
    Meets (Builtin.«enumerate.__new__» ⟨[.type "enumerate", v], []⟩) (fun _ R s => H s.heap ∧
      R (.ok (.ret (.ref (s.heap.push o).objs.size))) { s with heap := (s.heap.push o).push { cls := .type "enumerate", data := .fields #[.none, .bool false, .ref s.heap.objs.size, rawInt 0, .none, .none] } }) :=
  .of_wp fun prog w A R ⟨heap, glob, held, toks, out⟩ ⟨ready, made⟩ => by
    have hsub := sub_enumerate
    have begin_ : ∀ {A' : Around} {E : Value → Shared → Prop} {Q : Value → Shared → Prop}, Q (.ref heap.objs.size) ⟨heap.push o, glob, held, toks, out⟩ → wpAny (model prog w) A' (pyIter v) Q E ⟨heap, glob, held, toks, out⟩ :=
      B.iter prog w _ _ _ _ ready
    wp_walk using begin_
    apply wpAny_stack_any
    intro below
    apply wpAny_pure
    split
    · rename_i c _ _ _ _ _
      cases (c == Value.type "enumerate") <;> (wp_walk using begin_; exact ⟨_, rfl, made⟩)
    · wp_walk using begin_; exact ⟨_, rfl, made⟩
theorem enum_call {v : Value} {o : Obj} {H : Heap → Prop} {Q : Value → Shared → Prop} (B : Begins v o H) (h1 : H s.heap)
    (h : ∀ h', IsEnum h' (s.heap.objs.size + 1) s.heap.objs.size 0 .none → h'.get? s.heap.objs.size = some o → h'.objs.size = s.heap.objs.size + 2 → (∀ b u, s.heap.get? b = some u → h'.get? b = some u) → Q (.ref (s.heap.objs.size + 1)) { s with heap := h' }) :
    wpAny (model prog w) A (call (.type "enumerate") [v]) Q E s := by
  refine callType_new F.called_enumerate (by decide) (F.typeCall_enumerate_1 _) (F.newCall_enumerate_1 _) (fun obj => F.args_object_init_2 obj _) F.entry_enumerate_new (enum_new B) ⟨h1, ?_⟩
  have z : (s.heap.push o).objs.size = s.heap.objs.size + 1 := Heap.size_push ..
  show _ ∧ _
  rw [z]
  have e0 : IsEnum ((s.heap.push o).push { cls := .type "enumerate", data := .fields #[.none, .bool false, .ref s.heap.objs.size, rawInt 0, .none, .none] }) (s.heap.objs.size + 1) s.heap.objs.size 0 .none := by
    have q := Heap.get?_push_size (s.heap.push o) (o := { cls := .type "enumerate", data := .fields #[.none, .bool false, .ref s.heap.objs.size, rawInt 0, .none, .none] }) rfl
    rwa [z] at q
  exact ⟨⟨_, e0, rfl⟩, h _ e0 (Heap.get?_push_of_some _ (Heap.get?_push_size _ B.free)) (by rw [Heap.size_push, z]) fun b u x => Heap.get?_push_of_some _ (Heap.get?_push_of_some _ x)⟩
end
/-- the tuple at a, each item in a new pair -/
def Iet (K : PySem.W.Frag) (a : Addr) : It :=
  ⟨fun i H => ∃ (xs : List V) (x : V), SqT K H a xs ∧ xs[i]? = some x, fun i H v H' => ∃ T x, v = .ref T ∧ H T = none ∧ H' = upd H T (.tup [.int (i : Nat), x]) ∧ ∀ xs, SqT K H a xs → xs[i]? = some x, fun i H => ∃ xs : List V, SqT K H a xs ∧ xs.length = i⟩
theorem apart_cls {h : Heap} {a b : Addr} {o : Obj} {c : Value} (h1 : h.get? a = some o) (h2 : ∃ u, h.get? b = some u ∧ u.cls = c) (ne : o.cls ≠ c) : a ≠ b := fun e => by
  obtain ⟨u, q, r⟩ := h2
  rw [← e, h1] at q; cases q; exact ne r
/-- where such a walk stands: e numbers what it draws from the tuple a -/
def AtEn (a e it : Addr) (i : Nat) (h : Heap) : Prop := h.IsTupleIter it a i ∧ e ≠ it ∧ ∃ old, IsEnum h e it (i : Int) old
theorem two_of {e it b : Addr} (m : b ∈ [e, it]) : b = e ∨ b = it := by simpa using m
theorem AtEn.lt {a e it : Addr} {i : Nat} {h : Heap} (z : AtEn a e it i h) {b : Addr} (m : b ∈ [e, it]) : b < h.objs.size := by
  obtain ⟨⟨o, g, _⟩, _, old, q⟩ := z
  rcases two_of m with rfl | rfl
  · exact Heap.lt_size q
  · exact Heap.lt_size g
/-- the tuple lies apart from both -/
theorem AtEn.apart {a e it : Addr} {i : Nat} {h : Heap} {xs : Array Value} (z : AtEn a e it i h) (t : h.IsTuple a xs) : a ≠ it ∧ e ∉ [it, a] := by
  obtain ⟨o, g, c, n, d⟩ := t
  obtain ⟨⟨o2, g2, c2, d2⟩, ne, old, g3⟩ := z
  refine ⟨?_, ?_⟩
  · rintro rfl
    rw [g] at g2; cases g2
    rw [d] at d2; cases d2
  · intro m
    rcases two_of m with q | q
    · exact ne q
    · rw [q] at g3
      have z := g.symm.trans g3
      cases z
      cases d
theorem turn_enumT {P : Program} {w : World} {K : PySem.W.Frag} {elts : List Expr} {kk : Nat} {tpos : Pos} (a e it : Addr) : Turn P w K (.Tuple elts kk tpos) (Iet K a) [e, it] e (AtEn a e it) := by
  have first : e ∈ [e, it] := List.mem_cons_self
  have second : it ∈ [e, it] := by simp
  constructor
  case mem => exact first
  case self => exact fun A i s Q E ⟨_, _, old, g⟩ q => wpAny_pyIter_enum g q
  case keep => exact fun i h h' ⟨z, ne, old, g⟩ k => ⟨z.at (k it second), ne, old, k e first _ g⟩
  case obj =>
    rintro i h ⟨⟨o, g, _, d⟩, _, old, g2⟩ b m
    rcases two_of m with rfl | rfl
    · exact ⟨_, g2, fun _ q => nomatch q⟩
    · exact ⟨o, g, fun _ q => by rw [d] at q; exact nomatch q⟩
  case done =>
    rintro X rfl rfl rfl calm i pins s σ H E I free z ⟨xs, sq, end_⟩
    obtain ⟨its, rel, tup, _⟩ := I.tuple sq
    have size : its.toArray.size = i := by rw [List.size_toArray, ← rel.length, end_]
    obtain ⟨apart, out⟩ := z.apart tup
    obtain ⟨here, _, old, g⟩ := z
    have D := Draws.tuple (prog := X.prog) (w := X.w) (A := X.A.in1) (I.ok.hd calm) it a apart its.toArray
    obtain ⟨f0, f1, _, f3, f4, f5⟩ := free it second
    exact wpAny_pyNext_enum_endD D g (by rw [size]; exact ⟨here, tup⟩) fun h' but => ⟨rfl, I.turned (t' := s.toks) but f0 f1 f3 f4 f5⟩
  case item =>
    rintro X rfl rfl rfl calm i pins s σ H E I free z ⟨xs, x, sq, hx⟩
    obtain ⟨its, rel, tup, _⟩ := I.tuple sq
    obtain ⟨u, hu, ru⟩ := rel.get hx
    have more : i < its.toArray.size := by
      rw [List.size_toArray, ← rel.length]
      exact (List.getElem?_eq_some_iff.mp hx).1
    obtain ⟨apart, out⟩ := z.apart tup
    have old_ : ∀ b ∈ [e, it], b < s.heap.objs.size := fun b => z.lt
    obtain ⟨here, ne, old, g⟩ := z
    have D := Draws.tuple (prog := X.prog) (w := X.w) (A := X.A.in1) (I.ok.hd calm) it a apart its.toArray
    refine wpAny_pyNext_enum_itemD D g ⟨here, tup⟩ more ne out fun y h1 tk hy out1 st1 pair size1 keep1 => ?_
    obtain rfl : y = u := by
      have q : its.toArray[i]? = some u := by simpa using hu
      exact Option.some.inj (hy.symm.trans q)
    refine ⟨_, rfl, wpAny_letOwnedTupleGo_enum (s := { s with heap := h1, toks := tk + 1 }) out1 fun h2 en2 but => ?_⟩
    have far : ∀ b, b ∈ [e, it] → b ≠ s.heap.objs.size := fun b m => Nat.ne_of_lt (old_ b m)
    have pair2 := (but.2 _ (far e first).symm).trans pair
    have whole : ∀ b o, b ∉ [e, it] → s.heap.get? b = some o → h2.get? b = some o := fun b o nm q => by
      have n1 : b ≠ e := fun q => nm (q ▸ first)
      rw [but.2 b n1]
      exact keep1 b o n1 (fun q => nm (q ▸ second)) q
    refine ⟨.ref s.heap.objs.size, upd H s.heap.objs.size (.tup [.int (i : Nat), x]), I.turnedNew (t' := tk + 1) whole free (Nat.le_refl _) ⟨?_, _, Paired.cons ⟨_, rfl⟩ (.cons ru .nil), _, pair2, rfl, _, rfl⟩, rfl, ?_, ⟨?_, ne, y, en2⟩, fun b m => ?_⟩
    · show 2 ≤ sizeLine
      rw [sizeLine_eq]; decide
    · refine ⟨_, x, rfl, I.hok.fresh (Nat.le_refl _), rfl, fun ys sq' => ?_⟩
      rw [I.tuple_inj sq' sq]; exact hx
    · exact st1.1.at fun o q => (but.2 it ne.symm).trans q
    · rw [upd_ne (far b m)]
      exact (free b m).1
def iEnumT (K : PySem.W.Frag) (ta : TA) : TI := fun σ H R => ta σ H fun vs H1 => ∃ a xs, vs = [.ref a] ∧ SqT K H1 a xs ∧ R (Iet K a) H1
theorem pi_enumT {X : Cx} {K : PySem.W.Frag} {e : Expr} {ta : TA} {p pos tpos : Pos} {elts : List Expr} {kk : Nat} (hg : Gl X "enumerate") (hm : X.mg "enumerate" = none) (ha : PA X [e] ta) (h : X.K = K := by rfl) (hs : starEach [e] X.env = [(false, eval e X.env)] := by rfl) : PI X (.Tuple elts kk tpos) (.Call (.Name "enumerate" p) [e] [] pos) (iEnumT K ta) := by
  subst h
  refine ⟨fun pins s σ H R I h => Call_ (ld_blt I hg hm boot_enumerate (PyProof.Rows.callWith_type1 (thn (ha.run pos pins s σ H _ I h) ?_) hs rfl))⟩
  rintro us s1 ⟨vs, H1, I1, r1, a, xs, rfl, hq, q⟩
  have ⟨u, one, ru⟩ := vals1 r1
  subst one
  cases ru
  obtain ⟨its, rv, pl, hz⟩ := I1.tuple hq
  refine enum_call (begins_tuple a its.toArray) pl fun h' he hit hsz hk => wpAny_pyIter_enum he ?_
  have J : Inv X pins σ H1 { s1 with heap := h' } := I1.kept (t' := s1.toks) hk
  refine ⟨s1.heap.objs.size + 1, [s1.heap.objs.size + 1, s1.heap.objs.size], _, _, H1, rfl, J, turn_enumT a (s1.heap.objs.size + 1) s1.heap.objs.size, ⟨⟨_, hit, rfl, rfl⟩, Nat.succ_ne_self _, .none, he⟩, fun b hb => ?_, q⟩
  have le : s1.heap.objs.size ≤ b := by
    have two : b = s1.heap.objs.size + 1 ∨ b = s1.heap.objs.size := by simpa using hb
    exact two.elim (fun z => z ▸ Nat.le_succ _) fun z => Nat.le_of_eq z.symm
  exact I1.fpOk le (I1.hok.fresh le)
/-- what is walked, each item told by Y -/
structure ItY (J : It) (B : Hp) (n : Nat) (Y : Nat → Hp → V → Hp → Prop) : Prop where
  go : ∀ i H', Ex B H' → i < n → J.go i H'
  yl : ∀ i x H' H'', Ex B H' → i < n → J.yld i H' x H'' → Y i H' x H''
  st : ∀ H', Ex B H' → J.stop n H'
theorem lc_invY {wi : TI} {H B : Hp} {n : Nat} {Y : Nat → Hp → V → Hp → Prop} {g : TG} {tt : TT} {te : TE} {vs : List Nat} {σ : L2.St} {Q : VK} (hw : ∀ P : It → Hp → Prop, (∀ J H1, Ex H H1 → ItY J B n Y → P J H1) → wi σ H P)
    (Pv : Addr → Nat → Hp → Prop) (h0 : ∀ D H1, Ex H H1 → H1 D = none → Pv D 0 (upd H1 D (.lst []))) (he : ∀ D i H', Pv D i H' → Ex B H')
    (turn : ∀ D i x H' H'', i < n → Pv D i H' → Y i H' x H'' → g x (wipe σ vs) H'' fun σ2 H2 => wipe σ2 vs = wipe σ vs ∧ tt σ2 H2 fun b H3 => if b = true then te σ2 H3 fun y H4 => ∃ acc, H4 D = some (.lst acc) ∧ acc.length < sizeLine ∧ Pv D (i + 1) (upd H4 D (.lst (acc ++ [y]))) else Pv D (i + 1) H3)
    (fin : ∀ D H', Pv D n H' → Q (.ref D) H') : tLc wi g tt te vs σ H Q := by
  refine hw _ fun J H1 e1 S D hD => ?_
  refine ⟨fun i m H' => m = n - i ∧ i ≤ n ∧ Pv D i H', ⟨n, by omega, Nat.zero_le _, h0 D H1 e1 hD⟩, ?_⟩
  rintro i m H' ⟨rfl, hi, p⟩
  by_cases c : i = n
  · subst c
    exact .inl ⟨S.st H' (he _ _ _ p), fin D H' p⟩
  · have hi' : i < n := by omega
    exact .inr ⟨S.go i H' (he _ _ _ p) hi', Pv D (i + 1), fun H2 h => ⟨n - (i + 1), by omega, rfl, hi', h⟩, fun x H'' hy => turn D i x H' H'' hi' p (S.yl i x H' H'' (he _ _ _ p) hi' hy)⟩
theorem ity_enum {K : PySem.W.Frag} {H : Hp} {a : Addr} {xs : List V} (h : SqT K H a xs) : ItY (Iet K a) H xs.length (fun i H' v H'' => ∃ T, v = .ref T ∧ H' T = none ∧ H'' = upd H' T (.tup [.int (i : Nat), nth xs i])) where
  go := fun i H' e hi => ⟨xs, _, Evl.ex_t e h, nth_at hi⟩
  yl := fun i x H' H'' e hi ⟨T, y, h1, h2, h3, h4⟩ => by
    have z := h4 xs (Evl.ex_t e h)
    rw [nth_at hi] at z; cases z
    exact ⟨T, h1, h2, h3⟩
  st := fun H' e => ⟨xs, Evl.ex_t e h, rfl⟩
theorem filter_nth (l : List Nat) (p : Nat → Bool) : ((List.range l.length).filter fun t => p (l[t]?.getD 0)).map (fun t => l[t]?.getD 0) = l.filter p := by
  have e : (List.range l.length).map (fun t => l[t]?.getD 0) = l := by
    refine List.ext_getElem? fun i => ?_
    rw [List.getElem?_map]
    by_cases c : i < l.length
    · rw [List.getElem?_range c, List.getElem?_eq_getElem c, Option.map_some, List.getElem?_eq_getElem c, Option.getD_some]
    · have out : ¬ i < (List.range l.length).length := by rwa [List.length_range]
      rw [List.getElem?_eq_none (Nat.le_of_not_lt c), List.getElem?_eq_none (Nat.le_of_not_lt out), Option.map_none]
  conv => rhs; rw [← e]
  rw [List.filter_map]; rfl
theorem pg_tupK {X : Cx} {K : PySem.W.Frag} {es : List Expr} {k : Nat} {t : TGs} {n : Nat} {pos : Pos} (hc : X.calm = true) (h : PGs X es t) (e : X.K = K := by rfl) (hn : (assignEach es X.env).length = n := by rfl) (hst : (assignEach es X.env).findIdx? (·.1) = none := by rfl) : PG X (.Tuple es k pos) (gTup K n t) := e ▸ pg_tup hc h hn hst
end G

namespace G
open L2 PyProof.Rows PySem PySem.Spec
open Evl (Ex)
/-! ### {x for a in as for x in xs}: a set of ints, two clauses without tests -/
abbrev sc2 (elt t0 i0 t1 i1 : Expr) (scope : Scope) (pos : Pos) : Expr := .SetComp elt [⟨t0, i0, [], 0⟩, ⟨t1, i1, [], 0⟩] scope pos
section
variable {prog : Program} {w : World} {A : Around} {R : Result → Shared → Prop} {s : Shared} {elt t0 i0 t1 i1 : Expr} {scope : Scope} {pos : Pos} {it acc : Value} {env : Env}
theorem sc2_turn0 : compTurn (sc2 elt t0 i0 t1 i1 scope pos) 0 it acc env = (do
    standAt i0.pos
    match ← pyNext it with
    | none => pure (.done .next)
    | some v => do
      letOwnedTupleGo t0 it v
      assign t0 env v
      let mut ok := true
      for c in ([] : List Expr) do
        if ok then
          ok ← isTrue c env (eval c env)
      if ok then do
        let x ← eval i1 env
        standAt i1.pos; let x ← foldedSetIterable i1 env x; let _ ← runOwn (.compStart (sc2 elt t0 i0 t1 i1 scope pos) 1 (← holding [x] (pyIter x)) acc env) env
      again (.compLoop (sc2 elt t0 i0 t1 i1 scope pos) 0 it acc env)) := by rfl
theorem sc2_turn1 : compTurn (sc2 elt t0 i0 t1 i1 scope pos) 1 it acc env = (do
    standAt i1.pos
    match ← pyNext it with
    | none => pure (.done .next)
    | some v => do
      letOwnedTupleGo t1 it v
      assign t1 env v
      let mut ok := true
      for c in ([] : List Expr) do
        if ok then
          ok ← isTrue c env (eval c env)
      if ok then (do let v ← eval elt env; standAt elt.pos; let _ ← call (.builtin "set.add") [acc, v])
      again (.compLoop (sc2 elt t0 i0 t1 i1 scope pos) 1 it acc env)) := by rfl
/-- one clause's loop: what each turn must show -/
def Clause (prog : Program) (w : World) (A : Around) (tg : Expr) (it : Value) (env : Env) (stop : Shared → Prop) (body : Shared → Prop) (s : Shared) : Prop :=
  wpAny (model prog w) A (pyNext it) (fun r s1 => match r with
    | none => stop s1
    | some v => wpAny (model prog w) A (letOwnedTupleGo tg it v) (fun _ s2 => wpAny (model prog w) A (assign tg env v) (fun _ s3 => body s3) (fun _ _ => False) s2) (fun _ _ => False) s1) (fun _ _ => False) s
theorem sc2_loop1 (I : Nat → Shared → Prop) (turn : ∀ n s, I n s → Clause prog w A t1 it env (fun s1 => R (.ok .next) s1)
      (fun s3 => wpAny (model prog w) A (eval elt env) (fun x s4 => wpAny (model prog w) A (call (.builtin "set.add") [acc, x]) (fun _ s5 => ∃ m, m < n ∧ I m s5) (fun _ _ => False) s4) (fun _ _ => False) s3) s) (n : Nat) (h : I n s) :
    codeAny (model prog w) A (.compLoop (sc2 elt t0 i0 t1 i1 scope pos) 1 it acc env) R s := by
  refine codeAny_loop rfl I (fun m t now => ?_) n h
  show wpAny _ A ((compTurn (sc2 elt t0 i0 t1 i1 scope pos) 1 it acc env).onRaise (fun x => do noteFrame x env; theTreesLotGoes x)) _ _ t
  refine wpAny_noted ?_
  rw [sc2_turn1]
  refine wpAny_bind (wpAny_standAt (wpAny_bind (thnF (turn m t now) fun r s1 h1 => ?_)))
  cases r with
  | none => exact wpAny_pure h1
  | some v =>
    refine wpAny_bind (thnF h1 fun _ s2 h2 => wpAny_bind (thnF h2 fun _ s3 h3 => ?_))
    refine wpAny_bind (m := pure true) (wpAny_pure ?_)
    rw [if_pos rfl]
    exact wpAny_bind (wpAny_bind (thnF h3 fun x s4 h4 => wpAny_bind (wpAny_standAt (wpAny_bind (thnF h4 fun _ s5 h5 => wpAny_pure (wpAny_pure ⟨rfl, h5⟩))))))
theorem sc2_loop0 (hs : ∀ x, foldedSetIterable i1 env x = pure x) (I : Nat → Shared → Prop) (turn : ∀ n s, I n s → Clause prog w A t0 it env (fun s1 => R (.ok .next) s1)
      (fun s3 => wpAny (model prog w) A (eval i1 env) (fun x s4 => wpAny (model prog w) A (pyIter x) (fun it1 s5 =>
        codeAny (model prog w) A (.compStart (sc2 elt t0 i0 t1 i1 scope pos) 1 it1 acc env) (fun r s' => (∃ f, r = .ok f) ∧ ∃ m, m < n ∧ I m s') s5) (fun _ _ => False) s4) (fun _ _ => False) s3) s) (n : Nat) (h : I n s) :
    codeAny (model prog w) A (.compLoop (sc2 elt t0 i0 t1 i1 scope pos) 0 it acc env) R s := by
  refine codeAny_loop rfl I (fun m t now => ?_) n h
  show wpAny _ A ((compTurn (sc2 elt t0 i0 t1 i1 scope pos) 0 it acc env).onRaise (fun x => do noteFrame x env; theTreesLotGoes x)) _ _ t
  refine wpAny_noted ?_
  rw [sc2_turn0]
  refine wpAny_bind (wpAny_standAt (wpAny_bind (thnF (turn m t now) fun r s1 h1 => ?_)))
  cases r with
  | none => exact wpAny_pure h1
  | some v =>
    refine wpAny_bind (thnF h1 fun _ s2 h2 => wpAny_bind (thnF h2 fun _ s3 h3 => ?_))
    refine wpAny_bind (m := pure true) (wpAny_pure ?_)
    rw [if_pos rfl]
    refine wpAny_bind (thnF h3 fun x s4 h4 => ?_)
    refine wpAny_bind (wpAny_standAt (wpAny_bind (wpAny_of_eq (hs x) (wpAny_bind (wpAny_holding (thnF h4 fun it1 s5 h5 => ?_))))))
    refine wpAny_bind (wpAny_runOwn (A.mark_none.symm ▸ codeAny_mono h5 fun r s' ⟨⟨f, hr⟩, hm⟩ => ?_))
    subst hr
    first | exact wpAny_pure (wpAny_pure ⟨rfl, hm⟩) | exact wpAny_pure ⟨rfl, hm⟩ | exact wpAny_bind (wpAny_pure (wpAny_pure ⟨rfl, hm⟩))
theorem sc2_start (h0 : codeAny (model prog w) A (.compLoop (sc2 elt t0 i0 t1 i1 scope pos) 1 it acc env) R s)
    (h : wpAny (model prog w) A (pyIter it) (fun it' s' => codeAny (model prog w) A (.compLoop (sc2 elt t0 i0 t1 i1 scope pos) 1 it' acc env) R s') (fun _ _ => False) s) :
    codeAny (model prog w) A (.compStart (sc2 elt t0 i0 t1 i1 scope pos) 1 it acc env) R s := by
  refine codeAny_of_tree ?_
  show wpAny _ _ ((compStart (sc2 elt t0 i0 t1 i1 scope pos) 1 it acc env).onRaise (fun x => do noteFrame x env; standAt theWindowsPlace)) _ _ s
  refine wpAny_notedAt ?_
  unfold compStart
  refine (show wpAny (model prog w) A (ask >>= _) _ _ s from wpAny_bind (wpAny_askSetting (wpAny_ite ?_)))
  split
  · first | exact wpAny_bind (wpAny_pure (wpAny_pure (And.intro rfl h0))) | exact wpAny_pure (And.intro rfl h0)
  · refine wpAny_bind (wpAny_rule (show wpAny _ _ (standAt i1.pos >>= _) _ _ s from ?_))
    exact wpAny_bind (wpAny_standAt (wpAny_bind (thnF h fun it' s' h' => wpAny_pure (And.intro rfl h'))))
end
/-- the reading: D is the new set -/
def tSc2 (w : World) (wi : TI) (g : TG) (wi1 : TI) (g1 : TG) (te : TE) (vs vs1 : List Nat) : TE := fun σ H Q => wi σ H fun J H1 => ∀ D, H1 D = none → ∃ W : Nat → Nat → Hp → Prop, (∃ m, W 0 m (upd H1 D (SetO w D (fun _ => false) 0))) ∧ ∀ i m H, W i m H →
  (J.stop i H ∧ Q (.ref D) H) ∨ (J.go i H ∧ ∃ Nx : Hp → Prop, (∀ H', Nx H' → ∃ m', m' < m ∧ W (i + 1) m' H') ∧ ∀ x H', J.yld i H x H' → g x (wipe σ vs) H' fun σ2 H2 => wipe σ2 vs = wipe σ vs ∧
    wi1 σ2 H2 fun J1 H4 => ∃ W1 : Nat → Nat → Hp → Prop, (∃ m, W1 0 m H4) ∧ ∀ j k H, W1 j k H →
      (J1.stop j H ∧ Nx H) ∨ (J1.go j H ∧ ∃ Ny : Hp → Prop, (∀ H', Ny H' → ∃ k', k' < k ∧ W1 (j + 1) k' H') ∧ ∀ x H', J1.yld j H x H' → g1 x (wipe σ2 vs1) H' fun σ3 H5 => wipe σ3 vs1 = wipe σ2 vs1 ∧
        te σ3 H5 fun y H7 => ∃ (c : Int) (S : Int → Bool) (n : Nat), y = .int c ∧ H7 D = some (SetO w D S n) ∧ n + 1 < scanBound ∧ Ny (upd H7 D (SetO w D (fun j => S j || decide (j = c)) (if S c = true then n else n + 1)))))
section
variable {X : Cx}
/-- what lay pinned when a turn began lies there still -/
theorem pins_keep {Y : Cx} {fp : List Addr} {pins : List (Addr × Obj)} {σ : L2.St} {H : Hp} {s : Shared} {h : Heap} (I : Inv Y (pins ++ pinsAt fp h) σ H s) {b : Addr} (m : b ∈ fp) {o : Obj} (e : h.get? b = some o) : s.heap.get? b = some o ∧ H b = none :=
  have z := I.pin (b, o) (List.mem_append_right _ (List.mem_append_right _ (mem_pinsAt m e)))
  And.intro z.1 z.2.1
/-- one turn of a clause, in a block that lets nothing out -/
theorem clause_turn {Y : Cx} {J : It} {fp : List Addr} {it : Addr} {tn : Nat → Heap → Prop} {tg : Expr} {g : TG} {i : Nat} {pins : List (Addr × Obj)} {s : Shared} {σ : L2.St} {H : Hp} {R : L2.St → Hp → Prop} {stop body : Shared → Prop}
    (T : Turn Y.prog Y.w Y.K tg J fp it tn) (calm : Y.calm = true) (quiet : ∀ e s', ¬ Y.xe e s') (pg : PG Y tg g) (I : Inv Y pins σ H s) (apart : ∀ b ∈ fp, FpOk Y pins H b) (here : tn i s.heap)
    (way : (J.stop i H ∧ ∀ s1, Inv Y pins σ H s1 → stop s1) ∨ (J.go i H ∧ ∀ x H', J.yld i H x H' → g x σ H' R))
    (next : ∀ (h : Heap) (σ3 : L2.St) (H3 : Hp) (s3 : Shared), Inv Y (pins ++ pinsAt fp h) σ3 H3 s3 → tn (i + 1) h → R σ3 H3 → body s3) :
    Clause Y.prog Y.w Y.A tg (.ref it) Y.env stop body s := by
  unfold Clause
  rcases way with ⟨at_end, q⟩ | ⟨more, q⟩
  · refine thnF (T.done Y rfl rfl rfl calm i pins s σ H (fun _ _ => False) I apart here at_end) ?_
    rintro _ s1 ⟨rfl, I1⟩
    exact q s1 I1
  · refine thnF (T.item Y rfl rfl rfl calm i pins s σ H (fun _ _ => False) I apart here more) ?_
    rintro _ s1 ⟨u, rfl, z⟩
    refine thnF z ?_
    rintro _ s2 ⟨x, H2, I2, rel, y, there, free⟩
    have P := Inv.pinned I2 (fun b m => ⟨free b m, (apart b m).2⟩) (T.obj _ _ there)
    refine wpAny_mono (pg.run _ s2 _ H2 x u R P rel (q x H2 y)) ?_ (fun e s' z => quiet e s' z)
    rintro _ s3 ⟨σ3, H3, I3, r⟩
    exact next s2.heap σ3 H3 s3 I3 there r
theorem wipe_out {σ : L2.St} {i : Nat} : ∀ {vs : List Nat}, i ∉ vs → (wipe σ vs)[i]? = σ[i]?
  | [], _ => rfl
  | v :: vs, h => by
    unfold wipe
    rw [List.getElem?_set_ne (fun e => h (by simp [e])), wipe_out fun m => h (List.mem_cons_of_mem _ m)]
/-- from a block back to the body that holds it -/
theorem block_left {pins : List (Addr × Obj)} {σ σ' : L2.St} {H H' : Hp} {s s' : Shared} {scope : Scope} {cl : List (Str × Addr)} {C : Addr} {fp : List Addr} (I : Inv X pins σ H s) (far : ∀ b ∈ fp, FpOk X pins H b) (new : s.heap.objs.size ≤ C)
    (J : Inv (X.blk s H scope (compEnvC scope cl C X.env) fp) [] σ' H' s') : ∃ m, s'.heap.Ns C m ∧ ∀ h, Heap.SameBut C s'.heap h → Inv X pins σ H' { s' with heap := h } := by
  have back : Inv X pins σ H' s' := by
    refine I.call' (ch := fp) J.os J.base J.hok J.bare fun b m => ?_
    obtain ⟨_, f1, _, f3, f4, f5⟩ := far b m
    exact ⟨f3, f1, f4, f5⟩
  obtain ⟨_, f1, _, f3, f4, f5⟩ := I.fpOk (b := C) (H' := H') new J.free
  obtain ⟨m, names, _⟩ := J.loc
  exact ⟨m, names, fun h but => back.turned (t' := s'.toks) (fun b o n e => (but.2 b n).trans e) J.free f1 f3 f4 f5⟩
theorem pe_sc2 {elt t0 i0 t1 i1 : Expr} {scope : Scope} {own : List (Str × Nat)} {vs1 : List Nat} {pos : Pos} {wi wi1 : TI} {g g1 : TG} {te : TE} (calm : X.calm = true) (nd : X.N.Nodup) (walk0 : PI X t0 i0 wi) (ok : BlkOk X.N X.env.scope scope own) (sub : ∀ i ∈ vs1, i ∈ own.map (·.2))
    (goal0 : ∀ (s : Shared) (H : Hp) (C : Addr) (cl : List (Str × Addr)) (fp : List Addr), PG (X.blk s H scope (compEnvC scope cl C X.env) fp) t0 g)
    (walk1 : ∀ (s : Shared) (H : Hp) (C : Addr) (cl : List (Str × Addr)) (fp : List Addr), PI (X.blk s H scope (compEnvC scope cl C X.env) fp) t1 i1 wi1)
    (goal1 : ∀ (s : Shared) (H : Hp) (C : Addr) (cl : List (Str × Addr)) (fp : List Addr), PG (X.blk s H scope (compEnvC scope cl C X.env) fp) t1 g1)
    (item : ∀ (s : Shared) (H : Hp) (C : Addr) (cl : List (Str × Addr)) (fp : List Addr), PE (X.blk s H scope (compEnvC scope cl C X.env) fp) elt te)
    (plain0 : ∀ x, foldedSetIterable i0 X.env x = pure x := by intro _; rfl) (plain1 : ∀ env x, foldedSetIterable i1 env x = pure x := by intro _ _; rfl) :
    PE X (sc2 elt t0 i0 t1 i1 scope pos) (tSc2 X.w wi g wi1 g1 te (own.map (·.2)) vs1) := by
  constructor
  intro pins s σ H Q I want
  have clo : ∀ y ∈ scope.names, y.2 = .free → ∃ c, X.env.cells.lookup y.1 = some c := by
    intro y m e
    exact I.ok.has _ (ok.free y m e)
  show wpAny _ _ (comprehension _ scope X.env _ _ _ _ none) _ _ s
  refine wpAny_comprehension_free (use := none) rfl plain0 (closure_ok clo) ok.kind (fun y m e => (ok.uniq y m).trans (congrArg some e)) ?_
  refine thn (walk0.run pins s σ H _ I want) ?_
  intro xv s1 z1
  refine thn z1 ?_
  rintro _ s2 ⟨it, fp, tn, J, H2, rfl, I2, T, here, far, want2⟩
  refine PpSet.newSet_ok (newEnv_comp ?_)
  obtain ⟨D, eD⟩ : ∃ D, D = s2.heap.objs.size := ⟨_, rfl⟩
  obtain ⟨h3, e3⟩ : ∃ h3, h3 = s2.heap.push { cls := .type "set", dict := none, data := .set #[] 0 (.fresh 0 0 (!X.w.params.followText "set-order")) } := ⟨_, rfl⟩
  rw [← eD, ← e3]
  have freeD : H2 D = none := I2.hok.fresh (Nat.le_of_eq eD.symm)
  obtain ⟨W, ⟨m0, w0⟩, turns⟩ := want2 D freeD
  have kept : ∀ b o, s2.heap.get? b = some o → h3.get? b = some o := fun b o e => by
    rw [e3]; exact Heap.get?_push_of_some _ e
  have J3 : Inv X pins σ (upd H2 D (SetO X.w D (fun _ => false) 0)) { s2 with heap := h3 } := by
    refine I2.laid (t' := s2.toks) kept (Nat.le_of_eq eD.symm) (setO_new ?_)
    rw [eD, e3]; exact setR_fresh X.w
  have size3 : s2.heap.objs.size < h3.objs.size := by rw [e3, Heap.size_push]; exact Nat.lt_succ_self _
  have older : ∀ b ∈ fp, b < s2.heap.objs.size := fun b m => by
    obtain ⟨o, e, _⟩ := T.obj _ _ here b m
    exact Heap.lt_size e
  have far3 : ∀ b ∈ fp, FpOk X pins (upd H2 D (SetO X.w D (fun _ => false) 0)) b := fun b m => by
    have ne : b ≠ D := by rw [eD]; exact Nat.ne_of_lt (older b m)
    exact ⟨by rw [upd_ne ne]; exact (far b m).1, (far b m).2⟩
  have here3 : tn 0 h3 := T.keep _ _ _ here fun b _ => kept b
  generalize upd H2 D (SetO X.w D (fun _ => false) 0) = H3 at w0 J3 far3
  have B0 := block_start J3 ok nd fun b m => ⟨far3 b m, Nat.lt_trans (older b m) size3⟩
  have here4 : tn 0 (pushCells (h3.push { cls := .type "dict", data := .dict #[] }) scope.names) := T.keep _ _ _ here3 fun b _ o e => pushCells_keeps _ _ _ _ (Heap.get?_push_of_some _ e)
  generalize cellsFrom (h3.objs.size + 1) scope.names (cloFrom X.env.cells scope.names []) = cl at B0 ⊢
  have PG0 := goal0 { s2 with heap := h3 } H3 h3.objs.size cl fp
  have PI1 := walk1 { s2 with heap := h3 } H3 h3.objs.size cl fp
  have PG1 := goal1 { s2 with heap := h3 } H3 h3.objs.size cl fp
  have PE1 := item { s2 with heap := h3 } H3 h3.objs.size cl fp
  have leave : ∀ {σ' H' s'}, Inv (X.blk { s2 with heap := h3 } H3 scope (compEnvC scope cl h3.objs.size X.env) fp) [] σ' H' s' → Q (.ref D) H' → compPost (model X.prog X.w) X.A X.xe none (EP X pins σ Q) (.ref D) h3.objs.size (.ok .next) s' := fun {σ' H' s'} Z q => by
    obtain ⟨m, names, rest⟩ := block_left J3 far3 (Nat.le_refl _) Z
    exact ⟨m, names, fun h but => ⟨.ref D, H', rest h but, rfl, q⟩⟩
  generalize eY : X.blk { s2 with heap := h3 } H3 scope (compEnvC scope cl h3.objs.size X.env) fp = Y at B0 PG0 PI1 PG1 PE1 leave
  have yp : Y.prog = X.prog := by rw [← eY]
  have yw : Y.w = X.w := by rw [← eY]
  have yK : Y.K = X.K := by rw [← eY]
  have yA : Y.A = X.A := by rw [← eY]
  have ye : Y.env = compEnvC scope cl h3.objs.size X.env := by rw [← eY]
  have yc : Y.calm = true := by rw [← eY]; exact calm
  have quiet : ∀ e s', ¬ Y.xe e s' := by rw [← eY]; exact fun _ _ z => z
  have apart : ∀ {σ' H' s'}, Inv Y [] σ' H' s' → (∀ b ∈ fp, H' b = none) → ∀ b ∈ fp, FpOk Y [] H' b := fun {σ' H' s'} Z free b m => by
    subst eY
    exact ⟨free b m, (Z.ok.exf b m).1, Z.ok.exfs b m, .inl m, fun x c e => (Z.ok.exf b m).2 x c e, fun p hp => absurd hp List.not_mem_nil⟩
  clear eY
  show codeAny _ _ (.compStart (sc2 elt t0 i0 t1 i1 scope pos) 0 (.ref it) (.ref D) (compEnvC scope cl h3.objs.size X.env)) _ _
  rw [← yp, ← yw, ← yA] at leave ⊢
  rw [← ye]
  rw [← yp, ← yw, ← yK] at T
  -- the first clause's loop
  have loop0 : codeAny (model Y.prog Y.w) Y.A (.compLoop (sc2 elt t0 i0 t1 i1 scope pos) 0 (.ref it) (.ref D) Y.env) (compPost (model Y.prog Y.w) Y.A X.xe none (EP X pins σ Q) (.ref D) h3.objs.size)
      { s2 with heap := pushCells (h3.push { cls := .type "dict", data := .dict #[] }) scope.names } := by
    refine sc2_loop0 (plain1 _) (fun n s' => ∃ i H', Inv Y [] (wipe σ (own.map (·.2))) H' s' ∧ tn i s'.heap ∧ (∀ b ∈ fp, H' b = none) ∧ W i n H') ?_ m0 ⟨0, H3, B0, here4, fun b m => (far3 b m).1, w0⟩
    rintro n s5 ⟨i, H5, I5, here5, free5, w5⟩
    rcases turns i n H5 w5 with ⟨at_end, q⟩ | ⟨more, Nx, back, step⟩
    · exact clause_turn T yc quiet PG0 (R := fun _ _ => False) I5 (apart I5 free5) here5 (.inl ⟨at_end, fun s6 I6 => leave I6 q⟩) fun _ _ _ _ _ _ z => z.elim
    refine clause_turn T yc quiet PG0 I5 (apart I5 free5) here5 (.inr ⟨more, step⟩) ?_
    rintro h7 σ8 H8 s8 I8 here7 ⟨same, inner⟩
    have long : (wipe σ (own.map (·.2))).length = (wipe σ8 vs1).length := by rw [← same, wipe_length, wipe_length]
    -- the second clause's iterator
    refine wpAny_mono (PI1.run _ s8 σ8 H8 _ I8 inner) ?_ (fun e s' z => quiet e s' z)
    intro xv1 s9 z9
    refine wpAny_mono z9 ?_ (fun e s' z => quiet e s' z)
    rintro _ s10 ⟨it1, fp1, tn1, J1, H10, rfl, I10, T1, here10, far10, W1, ⟨m1, w1⟩, turns1⟩
    have loop1 : codeAny (model Y.prog Y.w) Y.A (.compLoop (sc2 elt t0 i0 t1 i1 scope pos) 1 (.ref it1) (.ref D) Y.env) (fun r s' => (∃ f, r = .ok f) ∧ ∃ m, m < n ∧ ∃ i H', Inv Y [] (wipe σ (own.map (·.2))) H' s' ∧ tn i s'.heap ∧ (∀ b ∈ fp, H' b = none) ∧ W i m H') s10 := by
      refine sc2_loop1 (fun k s' => ∃ j H', Inv Y ([] ++ pinsAt fp h7) (wipe σ8 vs1) H' s' ∧ tn1 j s'.heap ∧ (∀ b ∈ fp1, H' b = none) ∧ W1 j k H') ?_ m1
        ⟨0, H10, I10.weak (wipe_length _ _) (fun j v e => (wipe_some e).1), here10, fun b m => (far10 b m).1, w1⟩
      rintro k s11 ⟨j, H11, I11, here11, free11, w11⟩
      have apart1 : ∀ b ∈ fp1, FpOk Y ([] ++ pinsAt fp h7) H11 b := fun b m => ⟨free11 b m, (far10 b m).2⟩
      rcases turns1 j k H11 w11 with ⟨at_end, nx⟩ | ⟨more1, Ny, back1, step1⟩
      · refine clause_turn T1 yc quiet PG1 (R := fun _ _ => False) I11 apart1 here11 (.inl ⟨at_end, fun s12 I12 => ⟨⟨_, rfl⟩, ?_⟩⟩) fun _ _ _ _ _ _ z => z.elim
        obtain ⟨m', less, w'⟩ := back H11 nx
        refine ⟨m', less, i + 1, H11, (I12.unpinned (pins := [])).weak long fun x v e => ?_, T.keep _ _ _ here7 fun b m o e => (pins_keep I12 m e).1, fun b m => ?_, w'⟩
        · rw [← same] at e
          obtain ⟨e1, out⟩ := wipe_some e
          rw [wipe_out fun m => out (sub x m)]; exact e1
        · obtain ⟨o, e, _⟩ := T.obj _ _ here7 b m
          exact (pins_keep I12 m e).2
      · refine clause_turn T1 yc quiet PG1 I11 apart1 here11 (.inr ⟨more1, step1⟩) ?_
        rintro h13 σ13 H13 s13 I13 here13 ⟨same1, elem⟩
        refine wpAny_mono (PE1.run _ s13 σ13 H13 _ I13 elem) ?_ (fun e s' z => quiet e s' z)
        rintro u s14 ⟨_, H14, I14, rel, c, S, n', rfl, hD, room, ny⟩
        have add := mt_sadd _ s14 σ13 H14 (.ref D) [.int c] (.ref D) [u] (fun _ H' => Ny H') I14 rfl (Paired.cons rel .nil) ⟨D, c, S, n', rfl, rfl, by rw [yw]; exact hD, room, by rw [yw]; exact ny⟩
        refine wpAny_mono add ?_ (fun e s' z => quiet e s' z)
        rintro _ s15 ⟨_, H15, I15, _, ny'⟩
        obtain ⟨k', less, w'⟩ := back1 H15 ny'
        refine ⟨k', less, j + 1, H15, I15.unpinned.weak (by rw [← same1, wipe_length]) fun x v e => ?_, T1.keep _ _ _ here13 fun b m o e => (pins_keep I15 m e).1, fun b m => ?_, w'⟩
        · rw [← same1] at e
          exact (wipe_some e).1
        · obtain ⟨o, e, _⟩ := T1.obj _ _ here13 b m
          exact (pins_keep I15 m e).2
    exact sc2_start loop1 (T1.self Y.A 0 _ _ _ here10 loop1)
  exact PpSet.codeAny_compStart_set loop0 (T.self Y.A 0 _ _ _ here4 loop0)
end
/-- the second clause's loop in such a reading -/
def Inner (w : World) (D : Addr) (J1 : It) (H4 : Hp) (Nx : Hp → Prop) (g1 : TG) (te : TE) (σ2 : L2.St) (vs1 : List Nat) : Prop := ∃ W1 : Nat → Nat → Hp → Prop, (∃ m, W1 0 m H4) ∧ ∀ j k H, W1 j k H →
  (J1.stop j H ∧ Nx H) ∨ (J1.go j H ∧ ∃ Ny : Hp → Prop, (∀ H', Ny H' → ∃ k', k' < k ∧ W1 (j + 1) k' H') ∧ ∀ x H', J1.yld j H x H' → g1 x (wipe σ2 vs1) H' fun σ3 H5 => wipe σ3 vs1 = wipe σ2 vs1 ∧
    te σ3 H5 fun y H7 => ∃ (c : Int) (S : Int → Bool) (n : Nat), y = .int c ∧ H7 D = some (SetO w D S n) ∧ n + 1 < scanBound ∧ Ny (upd H7 D (SetO w D (fun j => S j || decide (j = c)) (if S c = true then n else n + 1))))
theorem inner_of {w : World} {D : Addr} {J1 : It} {H4 B1 : Hp} {Nx : Hp → Prop} {g1 : TG} {te : TE} {σ2 : L2.St} {vs1 : List Nat} {n1 : Nat} {item1 : Nat → V} (S : ItS J1 B1 n1 item1) (Pw : Nat → Hp → Prop) (h0 : Pw 0 H4) (he : ∀ j H', Pw j H' → Ex B1 H') (fin : ∀ H', Pw n1 H' → Nx H')
    (turn : ∀ j H', j < n1 → Pw j H' → g1 (item1 j) (wipe σ2 vs1) H' fun σ3 H5 => wipe σ3 vs1 = wipe σ2 vs1 ∧ te σ3 H5 fun y H7 => ∃ (c : Int) (S : Int → Bool) (k : Nat), y = .int c ∧ H7 D = some (SetO w D S k) ∧ k + 1 < scanBound ∧ Pw (j + 1) (upd H7 D (SetO w D (fun j => S j || decide (j = c)) (if S c = true then k else k + 1)))) : Inner w D J1 H4 Nx g1 te σ2 vs1 := by
  refine ⟨fun i m H' => m = n1 - i ∧ i ≤ n1 ∧ Pw i H', ⟨n1, by omega, Nat.zero_le _, h0⟩, ?_⟩
  rintro i m H' ⟨rfl, hi, p⟩
  by_cases c : i = n1
  · subst c
    exact .inl ⟨S.st H' (he _ _ p), fin H' p⟩
  · have hi' : i < n1 := by omega
    refine .inr ⟨S.go i H' (he _ _ p) hi', Pw (i + 1), fun H2 h => ⟨n1 - (i + 1), by omega, rfl, hi', h⟩, fun x H'' hy => ?_⟩
    obtain ⟨rfl, rfl⟩ := S.yl i x H' H'' (he _ _ p) hi' hy
    exact turn i H'' hi' p
theorem sc2_inv {w : World} {wi : TI} {H B : Hp} {n : Nat} {item : Nat → V} {g : TG} {wi1 : TI} {g1 : TG} {te : TE} {vs vs1 : List Nat} {σ : L2.St} {Q : VK} (hw : ∀ P : It → Hp → Prop, (∀ J H1, Ex H H1 → ItS J B n item → P J H1) → wi σ H P)
    (Pv : Addr → Nat → Hp → Prop) (h0 : ∀ D H1, Ex H H1 → H1 D = none → Pv D 0 (upd H1 D (SetO w D (fun _ => false) 0))) (he : ∀ D i H', Pv D i H' → Ex B H')
    (turn : ∀ D i H', i < n → Pv D i H' → g (item i) (wipe σ vs) H' fun σ2 H2 => wipe σ2 vs = wipe σ vs ∧ wi1 σ2 H2 fun J1 H4 => Inner w D J1 H4 (Pv D (i + 1)) g1 te σ2 vs1)
    (fin : ∀ D H', Pv D n H' → Q (.ref D) H') : tSc2 w wi g wi1 g1 te vs vs1 σ H Q := by
  refine hw _ fun J H1 e1 S D hD => ?_
  refine ⟨fun i m H' => m = n - i ∧ i ≤ n ∧ Pv D i H', ⟨n, by omega, Nat.zero_le _, h0 D H1 e1 hD⟩, ?_⟩
  rintro i m H' ⟨rfl, hi, p⟩
  by_cases c : i = n
  · subst c
    exact .inl ⟨S.st H' (he _ _ _ p), fin D H' p⟩
  · have hi' : i < n := by omega
    refine .inr ⟨S.go i H' (he _ _ _ p) hi', Pv D (i + 1), fun H2 h => ⟨n - (i + 1), by omega, rfl, hi', h⟩, fun x H'' hy => ?_⟩
    obtain ⟨rfl, rfl⟩ := S.yl i x H' H'' (he _ _ _ p) hi' hy
    exact turn D i H'' hi' p
theorem pi_tupK {X : Cx} {K : PySem.W.Frag} {tg l : Expr} {tl : TE} (h : PE X l tl) (e : X.K = K := by rfl) : PI X tg l (iTup K tl) := e ▸ pi_tup h
/-- ints in ascending order, told by what they hold -/
theorem sorted_is {n : Nat} {ns : List Int} {p : Nat → Bool} (h1 : ns.Pairwise (· < ·)) (h2 : ∀ k : Int, k ∈ ns ↔ ∃ x : Nat, k = (x : Int) ∧ x < n ∧ p x = true) : ns = ((List.range n).filter p).map fun x : Nat => (x : Int) := by
  have asc : (((List.range n).filter p).map fun x : Nat => (x : Int)).Pairwise (· < ·) := by
    rw [List.pairwise_map]
    exact (List.pairwise_lt_range.filter _).imp fun h => by omega
  have mem : ∀ k, k ∈ (((List.range n).filter p).map fun x : Nat => (x : Int)) ↔ k ∈ ns := fun k => by
    rw [h2]; simp only [List.mem_map, List.mem_filter, List.mem_range]
    constructor
    · rintro ⟨x, ⟨a, b⟩, rfl⟩; exact ⟨x, rfl, a, b⟩
    · rintro ⟨x, rfl, a, b⟩; exact ⟨x, ⟨a, b⟩, rfl⟩
  have nd : ∀ {l : List Int}, l.Pairwise (· < ·) → l.Nodup := fun h => h.imp fun z => by omega
  have pm := (List.perm_ext_iff_of_nodup (nd h1) (nd asc)).mpr fun k => (mem k).symm
  exact pm.eq_of_pairwise (fun a b _ _ h h' => by omega) h1 asc
end G

namespace G
open L2 PyProof.Rows PySem PySem.Spec
open Evl (Ex)
/-- the list of a range from nought -/
theorem rgV_nat (n : Nat) : rgV 0 (n : Int) = (List.range n).map fun k : Nat => V.int (k : Int) := by
  unfold rgV
  rw [show ((n : Int) - 0).toNat = n by omega]
  exact List.map_congr_left fun k _ => by rw [Int.zero_add]
theorem asg_split {te : TE} {g : TG} {D : Ends} {σ : L2.St} {H : Hp} (S : V → Hp → Prop) (hr : ∀ v H1, S v H1 → g v σ H1 D.nx) (h : ∀ R : VK, (∀ v H1, S v H1 → R v H1) → te σ H R) : tAsg te g D σ H := h _ hr
end G

namespace G
open L2 PyProof.Rows PySem PySem.Spec
open Evl (Ex)
/-! ### try with several named clauses (one name), nothing let out -/
abbrev Hd : Type := Value × (Addr → Value → Option Addr → TS)
/-- behind a clause its name is gone -/
def Ends.gone (D : Ends) (i : Nat) : Ends := { nx := fun σ H => D.nx (σ.set i none) H, rt := D.rt, bk := fun σ H => D.bk (σ.set i none) H, ct := fun σ H => D.ct (σ.set i none) H }
def wNamed (K : PySem.W.Frag) (i : Nat) (D : Ends) : List Hd → WX
  | [] => fun _ _ _ _ => False
  | h :: r => fun cls d σ H => ∃ b, PySem.W.exmOne K cls h.1 = some b ∧ (b = true → ∀ a, H a = none → h.2 a cls d (Ends.gone D i) (σ.set i (some (.ref a))) H) ∧ (b = false → wNamed K i D r cls d σ H)
inductive HdsAs (X : Cx) (n : Str) : List ExceptHandler → List Hd → Prop
  | nil : HdsAs X n [] []
  | cons {x : Str} {c : Value} {ts : Addr → Value → Option Addr → TS} {b₀ : Stmt} {suite : List Stmt} {np pos' : Pos} {hds : List ExceptHandler} {l : List Hd} (hc : Names X x c)
      (hsu : ∀ (a : Addr) (oe : Obj) (cls : Value) (d : Option Addr) (pn : List (Addr × Obj)), Zc cls d oe → (∃ vs, oe.data = .fields vs) → PSs (X.suite a ((a, oe) :: pn)) (b₀ :: suite) (ts a cls d)) (r : HdsAs X n hds l) :
      HdsAs X n (.ExceptHandler (some (.Name x np)) (some n) (b₀ :: suite) pos' :: hds) ((c, ts) :: l)
/-- an error has come down at the try: the state h, in which it still flies -/
structure Caught (X : Cx) (pins : List (Addr × Obj)) (σ : L2.St) (H : Hp) (B : Heap) (a : Addr) (cls : Value) (d : Option Addr) (s : Shared) (h : Heap) : Prop where
  fl : HandSPX.FlyingZ B (X.env :: X.outer) a (Zc cls d) h
  inv : Inv X pins σ H { s with heap := h }
section
variable {X : Cx} {n : Str} {i : Nat} {pins : List (Addr × Obj)} {σ : L2.St} {H : Hp} {B h : Heap} {a : Addr} {cls : Value} {d : Option Addr} {s : Shared}
/-- the suite's context holds there -/
theorem Caught.suite (C : Caught X pins σ H B a cls d s h) (hf : X.env.frame = some X.env.locals) (na : H a = none) :
    ∃ oe, h.get? a = some oe ∧ Zc cls d oe ∧ (∃ vs, oe.data = .fields vs) ∧ Inv (X.suite a ((a, oe) :: (X.pn ++ pins))) [] σ H { s with heap := h } := by
  obtain ⟨oe, vs, at_a, z, rec_⟩ := C.fl.there
  have out : ∀ e ∈ X.env :: X.outer, e.frame ≠ some a := fun e m q => by
    obtain ⟨_, o, g, no⟩ := C.fl.2.2.1.mem (List.mem_filterMap.mpr ⟨e, m, q⟩)
    rw [at_a] at g
    cases g
    exact no vs rec_
  have away : a ∉ X.fs := fun m => by
    obtain ⟨e, m', q⟩ := List.mem_filterMap.mp m
    exact out e (List.mem_cons_of_mem _ m') q
  have mine : a ≠ X.env.locals := by
    rintro rfl
    exact out X.env List.mem_cons_self hf
  exact ⟨oe, at_a, z, ⟨vs, rec_⟩, C.inv.suite at_a rec_ na mine away⟩
/-- behind a suite its name is unbound -/
theorem suite_end {q : Addr × Obj} {D : Ends} {pos : Pos} {fl : Flow} {s' : Shared} (good : X.Ok) (nd : X.N.Nodup) (slot : X.N[i]? = some n) (loc : X.env.kindOf n = some .local)
    (z : SP (X.suite a (q :: (X.pn ++ pins))) [] (Ends.gone D i) fl s') : wpAny (model X.prog X.w) X.A (do bindName X.env n .none; unbindBehindTheSuite X.env n pos) (fun _ s7 => SP X pins D fl s7) X.xe s' := by
  cases fl with
  | ret u => obtain ⟨v, _, _, J, r, t⟩ := z; exact gone_ok (J.unsuite good) nd slot loc fun _ J' => ⟨v, _, _, J', r, t⟩
  | next => obtain ⟨_, _, J, t⟩ := z; exact gone_ok (J.unsuite good) nd slot loc fun _ J' => ⟨_, _, J', t⟩
  | brk => obtain ⟨_, _, J, t⟩ := z; exact gone_ok (J.unsuite good) nd slot loc fun _ J' => ⟨_, _, J', t⟩
  | cont => obtain ⟨_, _, J, t⟩ := z; exact gone_ok (J.unsuite good) nd slot loc fun _ J' => ⟨_, _, J', t⟩
/-- the clauses, one after the other -/
theorem clauses_run {hds : List ExceptHandler} {l : List Hd} {D : Ends} (hf : X.env.frame = some X.env.locals) (nd : X.N.Nodup) (slot : X.N[i]? = some n) (loc : X.env.kindOf n = some .local) (na : H a = none) (C : Caught X pins σ H B a cls d s h)
    (again : ∀ h', HandSPX.FlyingZ B (X.env :: X.outer) a (Zc cls d) h' → h.UpToSlots h' → Caught X pins σ H B a cls d s h') (hh : HdsAs X n hds l) :
    wNamed X.K i D l cls d σ H → wpAny (model X.prog X.w) X.A (handleBy (.ref a) X.env hds) (SP X pins D) X.xe { s with heap := h } := by
  induction hh with
  | nil => exact fun w => w.elim
  | @cons x c ts b₀ suite np pos' hds l names body rest ih =>
    rintro ⟨b, match_, yes, no⟩
    obtain ⟨oe, at_a, z, _, S⟩ := C.suite hf na
    refine wpAny_handleBy_cons (codeAny_handlers_test ?_) nofun
    have type_ : PySem.W.Looks (model X.prog X.w) h (typeOf (.ref a)) cls := fun _ _ _ _ k q => wpAny_typeOf_ref (k _ _ at_a) (by rw [z.1]; exact q)
    have asks := PySem.W.exm_one (M := model X.prog X.w) C.inv.kIn type_ match_
    have cls_ : ∀ {Q : Value → Shared → Prop} {E : Value → Shared → Prop}, Q c { s with heap := h } → wpAny (model X.prog X.w) (X.A.mark (some (.ref a))) (eval (.Name x np) X.env) Q E { s with heap := h } := fun {Q E} q => by
      obtain ⟨gl, dbg, own | ⟨none_, boot, nm⟩⟩ := names
      · exact ld_glob S gl own q dbg
      · exact ld_blt S gl none_ boot q nm dbg
    refine cls_ (asks.here ?_)
    cases b with
    | false => exact ih (no rfl)
    | true =>
      refine codeAny_handlers_suite_as (HandSPX.lands_againZ C.fl fun h' fl' up' => ?_)
      obtain ⟨oe', _, z', rec', S'⟩ := (again h' fl' up').suite hf na
      refine store_ok (X := X.suite a ((a, oe') :: (X.pn ++ pins))) (v := .ref a) S' nd slot (Or.inl loc) rfl (fun s5 S5 => ?_) (.inr loc)
      exact wpAny_mono ((body a oe' cls d (X.pn ++ pins) z' rec').run [] s5 _ H _ S5 (yes rfl a na)) (fun fl s6 t => suite_end C.inv.ok nd slot loc t) fun _ _ t => False.elim t
end
section
variable {X : Cx} {n : Str} {i : Nat} {body : List Stmt} {h₀ : ExceptHandler} {hds : List ExceptHandler} {l : List Hd} {pos : Pos} {tb : WX → TS}
theorem ps_tryAs (hs : X.stack = X.env :: X.outer) (hf : X.env.frame = some X.env.locals) (nd : X.N.Nodup) (slot : X.N[i]? = some n) (loc : X.env.kindOf n = some .local)
    (run : ∀ (W : WX) (pn : List (Addr × Obj)) (xe : Value → Shared → Prop), Takes (X.tr pn xe) W → PassesOwn (model X.prog X.w) X.A X.env xe → PSs (X.tr pn xe) body (tb W))
    (hh : HdsAs X n (h₀ :: hds) l) : PS X (.Try body (h₀ :: hds) [] [] pos) (fun D σ H => tb (wNamed X.K i D l) D σ H) := by
  constructor
  intro pins s σ H D I want
  have good := I.ok
  have frames : X.A.frames = some (X.env :: X.outer) := good.frames.trans (congrArg some hs)
  have catches : Takes (X.tr (X.pn ++ pins) fun e s1 => wpAny (model X.prog X.w) X.A (noteFrame e X.env) (fun _ s2 => wpAny (model X.prog X.w) X.A (setFlight e none) (fun _ s3 =>
      wpAny (model X.prog X.w) X.A (handleBy e X.env (h₀ :: hds)) (SP X pins D) X.xe s3) X.xe s2) X.xe s1) (wNamed X.K i D l) := by
    rintro _ s' ⟨a, B, s0, pins', σ', H', cls, d, rfl, J, ground, up, sky, na, os, bare, w⟩
    have J' : Inv X pins σ' H' s0 := J.ofTry good
    have sky' : Sky B (X.env :: X.outer) a (Zc cls d) X.env.locals s'.heap := hs ▸ sky
    refine Sky.land Zc.steady frames hf sky' fun h3 fl3 up3 => ?_
    have made : ∀ h, HandSPX.FlyingZ B (X.env :: X.outer) a (Zc cls d) h → s'.heap.UpToSlots h → Caught X pins σ' H' B a cls d s' h := fun h fl up' => ⟨fl, J'.landed ground fl.1 (up.trans up') os bare⟩
    exact clauses_run hf nd slot loc na (made h3 fl3 up3) (fun h fl up' => made h fl (up3.trans up')) hh w
  refine wpAny_Try_except (wpAny_mono ((run _ _ _ catches PassesOwn.looking).run [] s σ H D (I.toTry _) want) (fun fl s1 z => ?_) fun _ _ z => z)
  cases fl with
  | ret u => obtain ⟨v, _, _, J, r⟩ := z; exact ⟨v, _, _, J.ofTry good, r⟩
  | next => obtain ⟨_, _, J, r⟩ := z; exact wpAny_execs_nil ⟨_, _, J.ofTry good, r⟩
  | brk => obtain ⟨_, _, J, r⟩ := z; exact ⟨_, _, J.ofTry good, r⟩
  | cont => obtain ⟨_, _, J, r⟩ := z; exact ⟨_, _, J.ofTry good, r⟩
end
/-! ### calls in a try's body: what is let out is told where the call stands -/
section
variable {X : Cx} {W : WX} {k : Nat} {f C : Addr} {fd : FuncData} {ps ks : List Str} {sp : Sp} {x : Str} {p pos : Pos} {e : Expr} {es : List Expr} {kws : List Keyword} {t tk : TA}
/-- what W wishes, at the slots σ -/
def atS (W : WX) (σ : L2.St) : XK := fun cls d H => W cls d σ H
theorem run_gS {pins : List (Addr × Obj)} {σ : L2.St} {H : Hp} {s : Shared} {Q : VK} {us : List Value} {vs : List V} (F : FG X.prog X.w X.K X.mg X.base (L2.CX X.prog X.w) k f fd ps sp) (hr : RG k X.A) (hb : Binds X.K fd ps []) (hx : Takes X W)
    (I : Inv X pins σ H s) (r : Vals vs us) (h : sp vs H Q (atS W σ)) : wpAny (model X.prog X.w) X.A (call (.ref f) us) (EP X pins σ Q) X.xe s := by
  have nl : us.length = ps.length := r.length.symm.trans (F.few _ _ _ _ h)
  have bt : BindsTo s fd ⟨us, []⟩ (ps.zip us) := by
    have z := hb s us I.kIn (by rw [List.append_nil]; exact nl)
    rwa [List.append_nil] at z
  refine wpAny_call (codeAny_mono (F.run X.A X.stack s H _ us vs Q _ hr I.env0 bt r h) fun q s' hq => ?_)
  cases q with
  | error e => exact hx e s' (XE.of_call I (fun cls d H' h => h) hq)
  | ok fl => cases fl with
    | ret u => exact I.after hq
    | next => exact hq
    | brk => exact hq
    | cont => exact hq
theorem run_gkS {n : Nat} {g : List Value → List Value → List Value} {gV : List V → List V → List V} {pins : List (Addr × Obj)} {σ : L2.St} {H : Hp} {s : Shared} {Q : VK} {us ws : List Value} {vs zs : List V} (F : FG X.prog X.w X.K X.mg X.base (L2.CX X.prog X.w) k f fd ps sp) (hr : RG k X.A)
    (hb : KBn X.K fd ps n ks g gV) (hx : Takes X W) (I : Inv X pins σ H s) (r : Vals vs us) (rz : Vals zs ws) (l1 : vs.length = n) (l2 : zs.length = ks.length) (h : sp (gV vs zs) H Q (atS W σ)) :
    wpAny (model X.prog X.w) X.A (call (.ref f) us (ks.zip ws)) (EP X pins σ Q) X.xe s := by
  refine wpAny_call (codeAny_mono (F.run X.A X.stack s H _ (g us ws) _ Q _ hr I.env0 (hb.to s us ws I.kIn (r.length.symm.trans l1) (rz.length.symm.trans l2)) (hb.rel r rz) h) fun q s' hq => ?_)
  cases q with
  | error e => exact hx e s' (XE.of_call I (fun cls d H' h => h) hq)
  | ok fl => cases fl with
    | ret u => exact I.after hq
    | next => exact hq
    | brk => exact hq
    | cont => exact hq
theorem run_gmkS {n : Nat} {g : List Value → List Value → List Value} {gV : List V → List V → List V} {pins : List (Addr × Obj)} {σ : L2.St} {H : Hp} {s : Shared} {Q : VK} {us ws : List Value} {vs zs : List V} (M : Mk X.K C f) (F : FG X.prog X.w X.K X.mg X.base (L2.CX X.prog X.w) k f fd ps sp) (hr : RG (k + 1) X.A)
    (hb : KBn X.K fd ps (n + 1) ks g gV) (hx : Takes X W) (I : Inv X pins σ H s) (r : Vals vs us) (rz : Vals zs ws) (l1 : vs.length = n) (l2 : zs.length = ks.length)
    (want : ∀ a d : Addr, H a = none → H d = none → d ≠ a → sp (gV (.ref a :: vs) zs) (upd (upd H d (.own a)) a (.ins C d [])) (fun v H' => v = .non ∧ Q (.ref a) H') (atS W σ)) :
    wpAny (model X.prog X.w) X.A (call (.ref C) us (ks.zip ws)) (EP X pins σ Q) X.xe s :=
  run_new M F hr hb (fun _ _ s2 e J z => hx e s2 (XE.of_call J (fun _ _ _ w => w) z)) I r rz l1 l2 want
def tCallW (sp : Sp) (W : WX) (t : TA) : TE := fun σ H Q => t σ H fun vs H1 => sp vs H1 Q (atS W σ)
def tGKW (n m : Nat) (sp : Sp) (gV : List V → List V → List V) (W : WX) (t tk : TA) : TE := fun σ H Q => t σ H fun vs H1 => tk σ H1 fun zs H2 => vs.length = n ∧ zs.length = m ∧ sp (gV vs zs) H2 Q (atS W σ)
def tGMW (C : Addr) (n m : Nat) (sp : Sp) (gV : List V → List V → List V) (W : WX) (t tk : TA) : TE := fun σ H Q => t σ H fun vs H1 => tk σ H1 fun zs H2 => vs.length = n ∧ zs.length = m ∧ ∀ x dx, H2 x = none → H2 dx = none → dx ≠ x →
  sp (gV (.ref x :: vs) zs) (upd (upd H2 dx (.own x)) x (.ins C dx [])) (fun v H3 => v = .non ∧ Q (.ref x) H3) (atS W σ)
theorem pe_cW (F : Cal X.prog X.w X.K X.mg X.base (L2.CX X.prog X.w) k x ps sp) (hr : RG k X.A) (hg : Gl X x) (hx : Takes X W) (ha : PA X (e :: es) t) (hdb : (x == ("__debug__" : Str)) = false := by decide)
    (one : OneByOne X e es pos := by exact ⟨rfl, rfl⟩) : PE X (.Call (.Name x p) (e :: es) [] pos) (tCallW sp W t) := by
  obtain ⟨fd, G, b, _⟩ := F.ex
  exact ⟨fun pins s σ H Q I h => wpAny_Call_Name_kw (ld_glob I hg F.g (PySem.W.callWith_K (h₀ := X.base) I.ok.mod.kin F.kp (thn (ha.run pos pins s σ H _ I h) fun us s1 ⟨vs, H1, I1, r, q⟩ => ⟨I1.kIn, run_gS G hr b hx I1 r q⟩) one.next one.none) hdb)⟩
theorem pe_gkW {g : List Value → List Value → List Value} {gV : List V → List V → List V} (F : FG X.prog X.w X.K X.mg X.base (L2.CX X.prog X.w) k f fd ps sp) (hr : RG k X.A) (hg : Gl X x) (hm : X.mg x = some (.ref f)) (hk : PySem.W.keepIn X.K (.ref f) = true) (hb : KBn X.K fd ps 0 ks g gV) (hx : Takes X W)
    (hkw : PK X kws tk) (nk : NamedOnly X kws pos ks := by exact ⟨rfl, rfl, rfl⟩)
    (hdb : (x == ("__debug__" : Str)) = false := by decide) :
    PE X (.Call (.Name x p) [] kws pos) (tGKW 0 ks.length sp gV W tNil tk) := by
  refine ⟨fun pins s σ H Q I h => wpAny_Call_Name_kw (ld_glob I hg hm (PySem.W.callWith_KW0 (h₀ := X.base) I.ok.mod.kin hk nk.each (thn (hkw.run pos pins s σ H _ I h) ?_) nk.flat) hdb)⟩
  rintro ws s2 ⟨zs, H2, I2, rz, l1, l2, q2⟩
  refine ⟨I2.kIn, ?_⟩
  rw [nk.keys]
  exact run_gkS (us := []) (vs := []) F hr hb hx I2 .nil rz rfl l2 q2
theorem pe_gmk0W {g : List Value → List Value → List Value} {gV : List V → List V → List V} (M : Mk X.K C f) (F : FG X.prog X.w X.K X.mg X.base (L2.CX X.prog X.w) k f fd ps sp) (hr : RG (k + 1) X.A) (hg : Gl X x) (hm : X.mg x = some (.ref C)) (hb : KBn X.K fd ps 1 ks g gV) (hx : Takes X W) (hkw : PK X kws tk)
    (nk : NamedOnly X kws pos ks := by exact ⟨rfl, rfl, rfl⟩) (hdb : (x == ("__debug__" : Str)) = false := by decide) :
    PE X (.Call (.Name x p) [] kws pos) (tGMW C 0 ks.length sp gV W tNil tk) := by
  refine ⟨fun pins s σ H Q I h => wpAny_Call_Name_kw (ld_glob I hg hm (PySem.W.callWith_KW0 (h₀ := X.base) I.ok.mod.kin M.kp nk.each (thn (hkw.run pos pins s σ H _ I h) ?_) nk.flat) hdb)⟩
  rintro ws s2 ⟨zs, H2, I2, rz, l1, l2, q2⟩
  refine ⟨I2.kIn, ?_⟩
  rw [nk.keys]
  exact run_gmkS (us := []) (vs := []) M F hr hb hx I2 .nil rz rfl l2 q2
theorem pe_gmkW (M : Mk X.K C f) (F : FG X.prog X.w X.K X.mg X.base (L2.CX X.prog X.w) k f fd ps sp) (hr : RG (k + 1) X.A) (hg : Gl X x) (hm : X.mg x = some (.ref C)) {n : Nat} {g : List Value → List Value → List Value} {gV : List V → List V → List V} (hb : KBn X.K fd ps (n + 1) [] g gV) (hx : Takes X W) (ha : PA X (e :: es) t)
    (hdb : (x == ("__debug__" : Str)) = false := by decide) (one : OneByOne X e es pos := by exact ⟨rfl, rfl⟩) :
    PE X (.Call (.Name x p) (e :: es) [] pos) (tGMW C n 0 sp gV W t tNil) := by
  refine ⟨fun pins s σ H Q I h => wpAny_Call_Name_kw (ld_glob I hg hm (PySem.W.callWith_K (h₀ := X.base) I.ok.mod.kin M.kp (thn (ha.run pos pins s σ H _ I h) ?_) one.next one.none) hdb)⟩
  rintro us s1 ⟨vs, H1, I1, r, l1, l2, q⟩
  refine ⟨I1.kIn, ?_⟩
  exact run_gmkS (ks := []) (ws := []) (zs := []) M F hr hb hx I1 r .nil l1 rfl q
/-- the items at given places -/
def sel {α : Type} (is : List Nat) (ws : List α) : List α := is.filterMap fun i => ws[i]?
theorem vals_sel {zs : List V} {ws : List Value} (r : Vals zs ws) : ∀ is : List Nat, Vals (sel is zs) (sel is ws)
  | [] => .nil
  | i :: is => by
    have ih := vals_sel r is
    unfold sel at ih ⊢
    rw [List.filterMap_cons, List.filterMap_cons]
    cases e : zs[i]? with
    | none =>
      have l := r.length
      have : ws[i]? = none := by
        rw [List.getElem?_eq_none_iff] at e ⊢; omega
      rw [this]; exact ih
    | some z =>
      obtain ⟨u, hu, rv⟩ := r.get e
      rw [hu]; exact .cons rv ih
theorem vals_nil_app {us : List Value} {vs zs : List V} {ws : List Value} (r : Vals vs us) (r2 : Vals zs ws) : Vals (vs ++ zs) (us ++ ws) := by
  induction r with
  | nil => exact r2
  | cons h _ ih => exact .cons h ih
theorem kb_sel {K : PySem.W.Frag} {x : Str} {params : Arguments} {body : List Stmt} {scope : Scope} {f : Addr} {fd : FuncData} {ps : List Str} (F : FunD K x x params body scope [] [] f fd) (ks : List Str) (is : List Nat)
    (hb : ∀ (kV doc pm : Value) (an : Option Addr) (cdv ct : Value) (us ws : List Value), us.length = 0 → ws.length = ks.length → bindArgs (PySem.W.fnOf x x params body scope .none kV doc pm an cdv ct) ⟨us, ks.zip ws⟩ = pure (ps.zip (us ++ sel is ws))) :
    KBn K fd ps 0 ks (fun us ws => us ++ sel is ws) (fun vs zs => vs ++ sel is zs) := kb_of F 0 ks (fun us ws => us ++ sel is ws) (fun r r' => vals_nil_app r (vals_sel r' is)) hb
/-- f(k = v, ..) of a named def, in a try's body -/
theorem pe_ckW {params : Arguments} {body : List Stmt} {scope : Scope} (is : List Nat) (F : Cal X.prog X.w X.K X.mg X.base (L2.CX X.prog X.w) k x ps sp) (D : ∃ fd, FunD X.K x x params body scope [] [] (He.ga X.K x) fd)
    (hb : ∀ (kV doc pm : Value) (an : Option Addr) (cdv ct : Value) (us ws : List Value), us.length = 0 → ws.length = ks.length → bindArgs (PySem.W.fnOf x x params body scope .none kV doc pm an cdv ct) ⟨us, ks.zip ws⟩ = pure (ps.zip (us ++ sel is ws))) (hr : RG k X.A) (hg : Gl X x) (hx : Takes X W) (hkw : PK X kws tk)
    (nk : NamedOnly X kws pos ks := by exact ⟨rfl, rfl, rfl⟩)
    (hdb : (x == ("__debug__" : Str)) = false := by decide) :
    PE X (.Call (.Name x p) [] kws pos) (tGKW 0 ks.length sp (fun us ws => us ++ sel is ws) W tNil tk) := by
  obtain ⟨fd, D, G⟩ := cal_fg F D
  exact pe_gkW G hr hg F.g F.kp (kb_sel D ks is hb) hx hkw nk hdb
/-- the same, of a def that lets nothing out -/
theorem pe_ck {CX : CXT} {E : XK} {params : Arguments} {body : List Stmt} {scope : Scope} (is : List Nat) (F : Cal X.prog X.w X.K X.mg X.base CX k x ps sp) (D : ∃ fd, FunD X.K x x params body scope [] [] (He.ga X.K x) fd)
    (hb : ∀ (kV doc pm : Value) (an : Option Addr) (cdv ct : Value) (us ws : List Value), us.length = 0 → ws.length = ks.length → bindArgs (PySem.W.fnOf x x params body scope .none kV doc pm an cdv ct) ⟨us, ks.zip ws⟩ = pure (ps.zip (us ++ sel is ws))) (hr : RG k X.A) (hg : Gl X x) (hx : Passes CX X E) (hkw : PK X kws tk)
    (nk : NamedOnly X kws pos ks := by exact ⟨rfl, rfl, rfl⟩)
    (hdb : (x == ("__debug__" : Str)) = false := by decide) :
    PE X (.Call (.Name x p) [] kws pos) (tGK 0 ks.length sp (fun us ws => us ++ sel is ws) E tNil tk) := by
  obtain ⟨fd, D, G⟩ := cal_fg F D
  exact pe_gk0 G hr hg F.g F.kp (kb_sel D ks is hb) hx hkw nk hdb
end
end G

namespace G
open L2 PyProof.Rows PySem PySem.Spec

/-! ### (x,) * 0 -/
theorem tuple_mul0 (l : Addr) (items : Array Value) (n : Nat) (dd : Option Addr) (sl : Array (Option Value)) (u : Tok) (c1 : items.isEmpty = false) :
    Meets (Builtin.«tuple.__mul__» ⟨[.ref l, .int 0 u], []⟩) (fun _ R s => s.heap.get? l = some { cls := .type "tuple", dict := dd, data := .seq items n, slots := sl } ∧
      R (.ok (.ret (Value.ref s.heap.objs.size))) { s with heap := s.heap.push { cls := Value.type "tuple", data := Data.seq #[] }, toks := s.toks }) :=
  .of_wp fun _ _ _ R ⟨heap, glob, held, toks, out⟩ ⟨lies, done⟩ => by
    have f1 := AutoSeq1.idx_int
    wp_walk using AutoSeq1.wpAny_loadPart' lies
    exact ⟨_, rfl, done⟩
def rRep0 (K : PySem.W.Frag) : R2 := fun x y H Q => ∃ l xs, x = .ref l ∧ y = .int 0 ∧ SqT K H l xs ∧ xs ≠ [] ∧ ∀ p, H p = none → Q (.ref p) (upd H p (.tup []))
theorem op_rep0 {X : Cx} {K : PySem.W.Frag} (h : X.K = K := by rfl) : OpR X (binaryOp .Mult) (rRep0 K) := by
  subst h
  rintro pins s σ H x y v u Q I rx ry ⟨l, xs, rfl, rfl, hT, ne, q⟩
  cases rx
  obtain ⟨t, rfl⟩ := ry
  obtain ⟨its, r, ⟨⟨cls, dd, dt, sl⟩, ho, hc, n, hd⟩, hs⟩ := I.tuple hT
  simp only at hc hd
  subst hc hd
  have some_ : its.toArray.isEmpty = false := by
    cases its with
    | nil => exact absurd (List.eq_nil_of_length_eq_zero r.length) ne
    | cons a b => rfl
  refine wpAny_binaryOp_repeat_ref (T := "tuple") (U := "int") (by decide) ⟨_, ho, rfl⟩ (fun s' => typeIs_int s' 0 t) noFill_tuple_mul F.fills_int_mul F.slot_int_rmul repeat_tuple F.slot_int_index.lookup
    (call_meets F.slot_int_rmul (typeIs_int s 0 t) F.entry_int_rmul (F.args_int_rmul_2 _ _) (int_rmul_tuple 0 t l its.toArray n dd sl) ⟨ho, rfl, ⟨_, ho, rfl⟩, call_meets F.slot_tuple_mul ⟨_, ho, rfl⟩ F.entry_tuple_mul (F.args_tuple_mul_2 _ _) (tuple_mul0 l its.toArray n dd sl t some_) ⟨ho, ?_⟩⟩)
  exact ⟨.ref s.heap.objs.size, _, I.laid (t' := s.toks) (o := .tup []) (fun b ob q => Heap.get?_push_of_some _ q) (Nat.le_refl _) ⟨Nat.zero_le _, [], .nil, IsTup.new _ _⟩, rfl, q _ (I.hok.fresh (Nat.le_refl _))⟩
end G

namespace G
open L2 PyProof.Rows PySem PySem.Spec
open Evl (Ex)
/-! ### data that has a short text -/
/-- d's leaves are short, its weight is w at most, its depth p at most -/
structure Small (w p : Nat) (d : PyData) : Prop where
  lf : d.leavesShort 32 = true
  sh : d.showable = true
  dp : d.depth ≤ p
  wt : d.weight ≤ w
theorem Small.mono {w p w' p' : Nat} {d : PyData} (h : Small w p d) (hw : w ≤ w') (hp : p ≤ p') : Small w' p' d := ⟨h.lf, h.sh, Nat.le_trans h.dp hp, Nat.le_trans h.wt hw⟩
theorem Small.shown {w p : Nat} {d : PyData} (h : Small w p d) (hw : w ≤ 400000) : d.shown.length ≤ sizeLine := by
  have z := PyData.shown_le 32 (by decide) d h.lf
  have := h.wt
  rw [sizeLine_eq]; omega
def SmallAll (w p : Nat) (ds : List PyData) : Prop := ∀ d ∈ ds, Small w p d
theorem small_all {w p : Nat} : ∀ {ds : List PyData}, SmallAll w p ds → PyData.leavesShortAll 32 ds = true ∧ PyData.showableAll ds = true ∧ PyData.depthAll ds ≤ p ∧ PyData.weightAll ds ≤ ds.length * (w + 1)
  | [], _ => ⟨rfl, rfl, by simp [PyData.depthAll], by simp [PyData.weightAll]⟩
  | d :: ds, h => by
    obtain ⟨h1, h2, h3, h4⟩ := small_all (ds := ds) fun x m => h x (List.mem_cons_of_mem _ m)
    have s := h d List.mem_cons_self
    refine ⟨?_, ?_, ?_, ?_⟩
    · simp only [PyData.leavesShortAll, s.lf, h1, Bool.and_self]
    · simp only [PyData.showableAll, s.sh, h2, Bool.and_self]
    · have := s.dp; simp only [PyData.depthAll]; omega
    · have := s.wt
      simp only [PyData.weightAll, List.length_cons, Nat.add_mul]; omega
theorem Small.list {w p : Nat} {ds : List PyData} (h : SmallAll w p ds) : Small (ds.length * (w + 1)) (p + 1) (.list ds) := by
  obtain ⟨h1, h2, h3, h4⟩ := small_all h
  exact ⟨by simpa [PyData.leavesShort] using h1, by simpa [PyData.showable] using h2, by simp only [PyData.depth]; omega, by simpa [PyData.weight] using h4⟩
theorem Small.tuple {w p : Nat} {ds : List PyData} (h : SmallAll w p ds) : Small (ds.length * (w + 1)) (p + 1) (.tuple ds) := by
  obtain ⟨h1, h2, h3, h4⟩ := small_all h
  exact ⟨by simpa [PyData.leavesShort] using h1, by simpa [PyData.showable] using h2, by simp only [PyData.depth]; omega, by simpa [PyData.weight] using h4⟩
def smallB (w p : Nat) (d : PyData) : Bool := d.leavesShort 32 && (d.showable && (decide (d.depth ≤ p) && decide (d.weight ≤ w)))
theorem smallB_ok {w p : Nat} {d : PyData} (h : smallB w p d = true) : Small w p d := by
  unfold smallB at h
  simp only [decide_eq_true_eq, Bool.and_eq_true] at h
  exact ⟨h.1, h.2.1, h.2.2.1, h.2.2.2⟩
theorem small_nats : (List.range 128).all (fun k => smallB 8 1 (.int (k : Int))) = true := by decide +kernel
theorem Small.nat {k : Nat} (h : k < 128) : Small 8 1 (.int (k : Int)) := smallB_ok (List.all_eq_true.mp small_nats k (List.mem_range.mpr h))
theorem rRepr_of {K : PySem.W.Frag} {H : Hp} {x : V} {d : PyData} {Q : VK} {w p : Nat} (h : Dq K H x d) (s : Small w p d) (hw : w ≤ 400000) (hp : p ≤ 60) (q : Q (.str d.shown) H) : rRepr K [x] H Q :=
  ⟨x, d, rfl, h, s.sh, s.shown hw, Nat.le_trans s.dp hp, q⟩
end G

namespace G
open L2 PyProof.Rows PySem PySem.Spec
open Evl (Ex)
/-! ### lists of anything: == [], != [], a list against itself -/
section
variable {X : Cx} {K : PySem.W.Frag}
def rNil (K : PySem.W.Frag) (f : Bool → Bool) : R2 := fun x y H Q => ∃ a xs b, x = .ref a ∧ y = .ref b ∧ SqL K H a xs ∧ SqL K H b [] ∧ Q (.bl (f xs.isEmpty)) H
theorem nil_parts {pins : List (Addr × Obj)} {σ : L2.St} {H : Hp} {s : Shared} {a b : Addr} {xs : List V} (I : Inv X pins σ H s) (h1 : SqL X.K H a xs) (h2 : SqL X.K H b []) :
    ∃ us, s.heap.IsList a us ∧ s.heap.IsList b #[] ∧ us.size = xs.length := by
  obtain ⟨us, r, p, _⟩ := I.list h1
  obtain ⟨ws, r2, p2, _⟩ := I.list h2
  cases r2
  exact ⟨us.toArray, p.isList, p2.isList, by rw [List.size_toArray, ← r.length]⟩
theorem op_eqNil (room : X.A.units < cLine) (h : X.K = K := by rfl) : OpR X (compareOp .Eq) (rNil K fun z => z) := by
  subst h
  rintro pins s σ H _ _ v u Q I rx ry ⟨a, xs, b, rfl, rfl, h1, h2, q⟩
  cases rx
  cases ry
  obtain ⟨us, p1, p2, sz⟩ := nil_parts I h1 h2
  cases xs with
  | nil =>
    refine SeqAt.eq_listAt (e := fun _ => true) p1 p2 (by rw [sz]; rfl) room (fun j z1 z2 => absurd z2 (Nat.not_lt_zero _)) ⟨.bl true, H, I, ?_, q⟩
    rw [sz]; rfl
  | cons x xs => exact SeqAt.eq_list_lengthsAt p1 p2 (by rw [bne_iff_ne, sz]; exact Nat.succ_ne_zero _) room ⟨.bl false, H, I, rfl, q⟩
theorem op_neNil (room : X.A.units < cLine) (h : X.K = K := by rfl) : OpR X (compareOp .NotEq) (rNil K fun z => !z) := by
  subst h
  rintro pins s σ H _ _ v u Q I rx ry ⟨a, xs, b, rfl, rfl, h1, h2, q⟩
  cases rx
  cases ry
  obtain ⟨us, p1, p2, sz⟩ := nil_parts I h1 h2
  cases xs with
  | nil =>
    refine SeqAt.RcNeAt.lists (e := fun _ => true) p1 p2 (by rw [sz]; rfl) room (fun j z1 z2 => absurd z2 (Nat.not_lt_zero _)) _ _ _ _ ⟨.bl false, H, I, ?_, q⟩
    rw [sz]; rfl
  | cons x xs => exact SeqAt.RcNeAt.lists_lengths p1 p2 (by rw [bne_iff_ne, sz]; exact Nat.succ_ne_zero _) room _ _ _ _ ⟨.bl true, H, I, rfl, q⟩
def rSelf (K : PySem.W.Frag) : R2 := fun x y H Q => ∃ a xs, x = .ref a ∧ y = .ref a ∧ SqL K H a xs ∧ Q (.bl false) H
theorem op_neSelf (room : X.A.units < cLine) (h : X.K = K := by rfl) : OpR X (compareOp .NotEq) (rSelf K) := by
  subst h
  rintro pins s σ H _ _ v u Q I rx ry ⟨a, xs, rfl, rfl, h1, q⟩
  cases rx
  cases ry
  obtain ⟨us, _, p, _⟩ := I.list h1
  refine SeqAt.RcNeAt.lists (e := fun _ => true) p.isList p.isList rfl room (fun j z1 z2 => SeqAt.EqAt.same _) _ _ _ _ ⟨.bl false, H, I, ?_, q⟩
  have z : (List.range us.toArray.size).all (fun _ => true) = true := by simp
  rw [z]; rfl
end
theorem f2_get {α β : Type} {R : α → β → Prop} : ∀ {as : List α} {bs : List β} {i : Nat} {a : α}, F2 R as bs → as[i]? = some a → ∃ b, bs[i]? = some b ∧ R a b
  | _, _, _, _, .nil, seen => by simp at seen
  | _, _, 0, _, .cons h _, e => by simp at e; subst e; exact ⟨_, rfl, h⟩
  | _, _, i + 1, _, .cons _ hs, e => by
    obtain ⟨b, h1, h2⟩ := f2_get (i := i) hs (by simpa using e)
    exact ⟨b, by simpa using h1, h2⟩
end G

namespace HT
open PyProof.Rows PySem.Spec PySem
section
variable {s : Shared} {w : World} {prog : Program} {E : Value → Shared → Prop} {A : Around}
/-- t[lo:hi] that is all of t: t itself -/
theorem slice_whole {t sl : Addr} {items : Array Value} {vl vu : Value} {lo hi : Option Int} {Q : Value → Shared → Prop} (tup : IsTup s.heap t items) (cut : s.heap.IsSliceOf sl vl vu .none) (pl : IsPart vl lo) (pu : IsPart vu hi) (from_ : sIx items.size 0 lo = 0) (to_ : sIx items.size items.size hi = items.size)
    (q : Q (.ref t) s) : wpAny (model prog w) A (getItem (.ref t) (.ref sl)) Q E s := by
  have kind : s.TypeIs (.ref sl) "slice" := by
    obtain ⟨o, ho, hc, _⟩ := cut
    exact ⟨o, ho, hc⟩
  unfold getItem
  have kind_t := tup.typeIs
  refine wpAny_holding (wpAny_bind (wpAny_sequenceKey kind_t (by decide) (wpAny_bind (wpAny_callSpecial?_slot (name := Str.ofString "__getitem__") kind_t slot_tuple_getitem (wpAny_call_entry slot_tuple_getitem kind_t entry_tuple_getitem ?_ (args_tuple_getitem _ _))))))
  show wpAny (model prog w) _ (Builtin.Tuple.tupleItemsOf (.ref t) >>= _) _ _ s
  refine wpAny_bind (tupleItemsOf_ tup (wpAny_bind (wpAny_typeOf kind ?_)))
  rw [if_pos (show (Value.type "slice" == Value.type "slice") = true by decide)]
  refine wpAny_bind (sliceApplied_gen cut pl pu ?_)
  rw [from_, to_]
  have yes : ((((0 : Nat) : Int) == 0 && (1 : Int) == 1 && (items.size - 0) == items.size) = true) := by simp
  show wpAny _ _ (if ((((0 : Nat) : Int) == 0 && (1 : Int) == 1 && (items.size - 0) == items.size) = true) then _ else _) _ _ s
  rw [if_pos yes]
  unfold Builtin.Tuple.tupleIsExact
  refine wpAny_bind (wpAny_bind (wpAny_typeOf tup.typeIs (wpAny_pure ?_)))
  rw [if_pos (show (Value.type "tuple" == Value.type "tuple") = true by decide)]
  exact wpAny_bind (wpAny_rule (by
    first
    | exact wpAny_pure ⟨_, rfl, wpAny_pure q⟩
    | exact wpAny_bind (wpAny_pure (wpAny_pure ⟨_, rfl, wpAny_pure q⟩))
    | exact wpAny_pure (wpAny_pure ⟨_, rfl, wpAny_pure q⟩)))
end
end HT
namespace G
open L2 PyProof.Rows PySem PySem.Spec
open Evl (Ex)
section
variable {X : Cx} {K : PySem.W.Frag}
/-- a[lo:hi] of a list or a tuple: its items from then on -/
def rSlAny (K : PySem.W.Frag) : V → Option Int → Option Int → Hp → VK → Prop := fun x lo hi H Q => ∃ a xs, x = .ref a ∧ ((SqL K H a xs ∧ ∀ p H', Ex H H' → SqL K H' p (cutV xs lo hi) → Q (.ref p) H') ∨ (SqT K H a xs ∧ ∀ p H', Ex H H' → SqT K H' p (cutV xs lo hi) → Q (.ref p) H'))
theorem sl_any (h : X.K = K := by rfl) : SlR X (rSlAny K) := by
  subst h
  rintro pins s σ H _ v vl vu lo hi sl Q I rx hs pl pu ⟨a, xs, rfl, ⟨sq, q⟩ | ⟨sq, q⟩⟩
  · exact sl_list pins s σ H _ v vl vu lo hi sl Q I rx hs pl pu ⟨a, xs, rfl, sq, fun p hp => q p _ (Evl.Ex.new hp) (SqL.of upd_same)⟩
  by_cases c : HT.sIx xs.length 0 lo = 0 ∧ HT.sIx xs.length xs.length hi = xs.length
  · cases rx
    obtain ⟨its, r, tup, _⟩ := I.tuple sq
    have len : its.toArray.size = xs.length := by rw [List.size_toArray, r.length]
    have all : cutV xs lo hi = xs := by
      unfold cutV
      rw [c.1, c.2, List.drop_zero, Nat.sub_zero, List.take_length]
    refine ⟨"tuple", _, PyProof.Rows.slot_tuple_getitem.lookup, tup.typeIs, HT.slice_whole tup hs pl pu (by rw [len]; exact c.1) (by rw [len]; exact c.2) ⟨.ref a, H, I, rfl, q a H (Evl.Ex.refl _) (by rw [all]; exact sq)⟩⟩
  · exact sl_tup pins s σ H _ v vl vu lo hi sl Q I rx hs pl pu ⟨a, xs, rfl, sq, c, fun p hp => q p _ (Evl.Ex.new hp) (SqT.of upd_same)⟩
theorem pi_listK {tg l : Expr} {tl : TE} (h : PE X l tl) (e : X.K = K := by rfl) : PI X tg l (iList K tl) := e ▸ pi_list h
end
end G

namespace G
open L2 PyProof.Rows PySem PySem.Spec
open Evl (Ex)
/-! ### the signs of a text, walked -/
def sgn (z : Str) (i : Nat) : V := .str ⟨#[(z.cps[i]?).getD 0]⟩
theorem its_s (z : Str) (H : Hp) : ItS (Its z) H z.cps.size (sgn z) where
  go := fun _ _ _ hi => hi
  yl := fun i x H' H'' _ _ ⟨same, c, at_i, is⟩ => ⟨by rw [is, sgn, at_i]; rfl, same⟩
  st := fun _ _ => Nat.le_refl _
/-! ### a tuple's display, pinned as it lies -/
def tTupF (t : TA) : TE := fun σ H Q => t σ H fun xs H1 => xs.length ≤ sizeLine ∧ ∀ p o, H1 p = none → o.dict = none → o.cls = .type "tuple" → Q (.ref p) (upd H1 p (.frz o (.tup xs)))
section
variable {X : Cx} {K : PySem.W.Frag}
theorem pe_tupF {es : List Expr} {t : TA} {x1 : Nat} {pos : Pos} (parts : PA X es t) : PE X (.Tuple es x1 pos) (tTupF t) := by
  constructor
  intro pins s σ H Q I want
  refine wpAny_Tuple_spliced (thn (parts.run pos pins s σ H _ I want) ?_)
  rintro us s1 ⟨xs, H1, I1, r, few, q⟩
  refine ⟨r.length ▸ few, ?_⟩
  have fresh := I1.hok.fresh (Nat.le_refl s1.heap.objs.size)
  have lies := IsTup.new s1.heap us.toArray
  refine ⟨.ref s1.heap.objs.size, upd H1 s1.heap.objs.size (.frz { cls := .type "tuple", data := .seq us.toArray } (.tup xs)), I1.laid (t' := s1.toks) (fun b o e => Heap.get?_push_of_some _ e) (Nat.le_refl _) ?_, rfl, q _ _ fresh rfl rfl⟩
  exact ⟨Heap.get?_push_size _ rfl, few, us, r, lies⟩
/-! ### t.count(k), t a tuple of ints -/
def rCntT (K : PySem.W.Frag) : V → List V → Hp → VK → Prop := fun x xs H Q => ∃ (p : Addr) (ns : List Int) (k : Int), x = .ref p ∧ xs = [.int k] ∧ SqT K H p (ns.map V.int) ∧ Q (.int (ns.count k : Nat)) H
theorem mt_tcount (h : X.K = K := by rfl) : MtR X "tuple.count" (rCntT K) := by
  subst h
  rintro pins s σ H _ _ v us Q I rx rxs ⟨p, ns, k, rfl, rfl, sq, q⟩
  cases rx
  obtain ⟨u, one, t, is⟩ := vals1 rxs
  subst one
  subst is
  have ⟨its, rv, ⟨o, at_p, cls, n, data⟩, _⟩ := I.tuple sq
  obtain ⟨cl, dd, dt, sl⟩ := o
  subst cls
  subst data
  have nums := ints_of_vals rv
  refine call_meets PySem.F.slot_tuple_count ⟨_, at_p, rfl⟩ PySem.F.entry_tuple_count (PySem.F.args_tuple_count_2 _ _) (SeqAt.tuple_countAt p its.toArray n dd sl (.int k t) (eqk k)) ⟨at_p, fun y hy => (eqk_gives nums y (by simpa using hy)).at _ _, ?_⟩
  have many : its.countP (eqk k) = ns.count k := eqk_count nums
  exact ⟨.int (ns.count k : Nat), H, I.tok _, ⟨s.toks, by rw [← many]⟩, q⟩
end
/-! ### first, *words = a list -/
def gStar (K : PySem.W.Frag) (t : TGs) : TG := fun v σ H Q => ∃ a x xs, v = .ref a ∧ SqL K H a (x :: xs) ∧ xs.length < 16000 ∧ ∀ l, H l = none → t [x, .ref l] σ (upd H l (.lst xs)) Q
section
variable {X : Cx} {e : Expr} {es : List Expr} {t : TG} {u : TGs} {k : Nat} {pos sp : Pos}
theorem pgs_starLast (h : PG X e t) (hs : (assignEach [.Starred e sp] X.env).map (·.2) = [assign e X.env] := by rfl) : PGs X [.Starred e sp] (gCons t gNil) := by
  constructor
  rintro pins s σ H vs us Q I r ⟨v, vr, rfl, want⟩
  cases r with
  | cons r rr =>
    rw [hs]
    exact assignInOrder_cons (thn (h.run pins s σ H _ _ _ I r want) fun _ s1 ⟨σ1, H1, I1, q1⟩ => pgs_nil.run pins s1 σ1 H1 _ _ Q I1 rr q1)
theorem pg_star {u : TGs} (calm : X.calm = true) (h : PGs X es u) (two : (assignEach es X.env).length = 2 := by rfl) (second : (assignEach es X.env).findIdx? (·.1) = some 1 := by rfl) : PG X (.Tuple es k pos) (gStar X.K u) := by
  constructor
  rintro pins s σ H _ v Q I r ⟨a, x, xs, rfl, sq, few, want⟩
  cases r
  obtain ⟨its, rv, lies, short⟩ := I.list sq
  cases rv with
  | @cons _ v0 _ vr rx rs =>
  have free := I.ok.hd calm
  have isl := lies.isList
  have below : a < s.heap.objs.size := let ⟨o, at_a, _⟩ := isl; Heap.lt_size at_a
  have apart := Nat.ne_of_lt below
  rw [assign_Tuple]
  apply wpAny_bind
  apply wpAny_standAt
  unfold unpack
  rw [two, second]
  apply wpAny_bind
  apply wpAny_holding
  unfold unpackItems notIterableAtAll
  refine wpAny_bind (wpAny_bind (wpAny_specialOf isl.typeIs slot_list_iter.lookup (wpAny_pure ?_)))
  rw [by_no]
  refine wpAny_bind (wpAny_holding (wpAny_pyIter_list isl (wpAny_bind (wpAny_holding (PySem.W.kun_draw apart 1 0 _ _ ⟨_, Heap.get?_push_size _ rfl, rfl, rfl⟩ (isl.push _) (by simp) fun h1 it1 same1 => ?_)))))
  have isl1 := (isl.push _).extBut same1.extBut apart
  obtain ⟨_, at_it, _⟩ := id it1
  obtain ⟨_, at_l, _⟩ := id isl1
  have len : vr.length = xs.length := rs.length.symm
  show wpAny _ _ (if [v0].length < 1 then _ else _) _ _ _
  rw [if_neg (show ¬ [v0].length < 1 from Nat.lt_irrefl 1)]
  refine wpAny_bind (wpAny_holding (PySem.W.kun_collect (s := { s with heap := h1 }) (T := "list_iterator") (.inr (.inr (.inl rfl))) (Walks.list (A := X.A.in1) free _ a apart (v0 :: vr).toArray) (fun _ _ st => st.1.typeIs) (k := 1) (by simp) ⟨it1, isl1⟩ (Heap.lt_size at_it) (Heap.lt_size at_l)
    (fun h2 tk keep => ?_) (by rw [List.size_toArray, List.length_cons, sizeLine_eq]; omega)))
  show wpAny _ _ (if vr.length < 0 then _ else _) _ _ _
  rw [if_neg (Nat.not_lt_zero _)]
  show wpAny _ _ (newList (vr.take vr.length) >>= fun d => pure ([v0] ++ [d] ++ vr.drop vr.length)) _ _ _
  rw [List.take_length, List.drop_length]
  have kept : ∀ b o, s.heap.get? b = some o → h2.get? b = some o := fun b o z =>
    have nb : b ≠ s.heap.objs.size := Nat.ne_of_lt (Heap.lt_size z)
    keep b o nb (same1.extBut b o nb (Heap.get?_push_of_some _ z))
  have J : Inv X pins σ H { s with heap := h2, toks := tk } := I.kept kept
  refine wpAny_bind (wpAny_newList (wpAny_pure ?_))
  refine h.run pins _ σ _ [x, .ref h2.objs.size] _ Q (J.laid (a := h2.objs.size) (o := .lst xs) (t' := tk) (fun b o z => Heap.get?_push_of_some _ z) (Nat.le_refl _) ?_) (.cons rx (.cons rfl .nil)) (want _ (J.hok.fresh (Nat.le_refl _)))
  exact ⟨by rw [sizeLine_eq]; omega, vr, 0, rs, Heap.get?_push_size _ rfl⟩
end
end G

namespace G
open L2 PyProof.Rows PySem PySem.Spec
open Evl (Ex)
section
variable {X : Cx} {K : PySem.W.Frag}
/-- sep.join(a list or a tuple of texts), the written part told by a letter -/
def rJoin (K : PySem.W.Frag) : V → List V → Hp → VK → Prop := fun x xs H Q => ∃ a p, ∃ ys : List Str, x = .str a ∧ xs = [.ref p] ∧ (SqL K H p (ys.map V.str) ∨ SqT K H p (ys.map V.str)) ∧ (ys.map (·.length)).sum + ys.length * a.length ≤ 16777216 ∧ Q (.str (Txt.join a ys)) H
theorem mt_joinK (h : X.K = K := by rfl) : MtR X "str.join" (rJoin K) := by subst h; exact mt_join
theorem pe_joinK {o e : Expr} {to te : TE} {apos pos : Pos} (ho : PE X o to) (he : PE X e te) (h : X.K = K := by rfl) (hs : starEach [e] X.env = [(false, eval e X.env)] := by rfl) (hbase : attributeBase o "join" X.env (eval o X.env) = eval o X.env := by rfl) (hline : (apos.endLine == pos.line) = true := by rfl) :
    PE X (.Call (.Attribute o "join" apos) [e] [] pos) (tM1 (rJoin K) to te) := pe_m1 PySem.F.slot_str_join PySem.F.type_str_join (mt_joinK h) ho he hs hbase hline
theorem pg_starK {es : List Expr} {u : TGs} {k : Nat} {pos : Pos} (calm : X.calm = true) (g : PGs X es u) (h : X.K = K := by rfl) (two : (assignEach es X.env).length = 2 := by rfl) (second : (assignEach es X.env).findIdx? (·.1) = some 1 := by rfl) : PG X (.Tuple es k pos) (gStar K u) := h ▸ pg_star calm g two second
end
/-! ### walks of a text -/
section
variable {H B : Hp} {σ : L2.St} {i : Nat} {P : It → Hp → Prop} {z : Str}
theorem l_str (hs : σ[i]? = some (some (.str z))) (q : ∀ J H1, Ex H H1 → ItS J H1 z.cps.size (sgn z) → P J H1) : iStr (tVar i) σ H P := ⟨_, hs, z, rfl, q _ _ (Evl.Ex.refl _) (its_s z H)⟩
end
end G

namespace G
open L2 PyProof.Rows PySem PySem.Spec
/-- a short text, some times over -/
def rMulS : R2 := fun x y H Q => ∃ (z : Str) (n : Int), x = .str z ∧ y = .int n ∧ 2 ≤ n ∧ n ≤ 1000 ∧ 1 ≤ z.length ∧ z.length ≤ 1000 ∧ Q (.str ⟨(List.replicate n.toNat z.cps).foldl (· ++ ·) #[]⟩) H
theorem op_mul_str {X : Cx} : OpR X (binaryOp .Mult) rMulS := by
  rintro pins s σ H _ _ v u Q I rx ry ⟨z, n, rfl, rfl, n2, n3, z1, z2, q⟩
  obtain ⟨t, is⟩ := rx
  subst is
  obtain ⟨t', is⟩ := ry
  subst is
  have many : (1000 : Int) ≤ (2 ^ 63 - 1) / n := (Int.le_ediv_iff_mul_le (by omega)).mpr (by omega)
  have one : (n == 1 || z.length == 0) = false := by
    rw [Bool.or_eq_false_iff, beq_eq_false_iff_ne, beq_eq_false_iff_ne]; omega
  have size : z.length * n.toNat ≤ 1000 * 1000 := Nat.mul_le_mul z2 (by omega)
  refine P.mul_str (by rw [Bool.or_eq_false_iff, decide_eq_false_iff_not, decide_eq_false_iff_not]; omega) (fun _ _ => by omega) (fun _ _ => ?_) ?_
  · exact decide_eq_false (by rw [sizeLine_eq]; omega)
  · rw [if_neg (show ¬ n < 1 by omega), if_neg (by rw [one]; exact Bool.false_ne_true)]
    refine ⟨?_, ⟨.str _, H, I.tok _, ⟨_, rfl⟩, q⟩⟩
    show ((List.replicate n.toNat z.cps).foldl (· ++ ·) #[]).size ≤ sizeLine
    rw [size_reps]
    have len : z.cps.size = z.length := rfl
    have turn : n.toNat * z.cps.size = z.length * n.toNat := by rw [len, Nat.mul_comm]
    rw [turn, sizeLine_eq, Array.size_empty]
    omega
end G

/-! Searching a graph of neighbours: plain Lean. -/
namespace M
abbrev Rows := List (List Nat)
def at_ (F : Rows) (v : Nat) : List Nat := F[v]?.getD []
theorem at_set (F : Rows) (v w : Nat) (p : List Nat) : at_ (F.set v p) w = if v = w ∧ v < F.length then p else at_ F w := by
  unfold at_
  rw [List.getElem?_set]
  by_cases h : v = w
  · subst h
    by_cases h2 : v < F.length
    · simp [h2]
    · rw [if_pos rfl, if_neg h2, if_neg (by omega), List.getElem?_eq_none (by omega)]
  · rw [if_neg h]
    exact (if_neg (by omega)).symm
/-- a way from h to v: no house twice, neighbours in a row -/
structure Path (ls : Rows) (h v : Nat) (p : List Nat) : Prop where
  hd : p.head? = some h
  la : p.getLast? = some v
  nd : p.Nodup
  ch : ∀ i a b, p[i]? = some a → p[i + 1]? = some b → b ∈ at_ ls a
theorem Path.one (ls : Rows) (h : Nat) : Path ls h h [h] := ⟨rfl, rfl, by simp, fun i a b h1 h2 => by simp at h2⟩
theorem Path.ne {ls : Rows} {h v : Nat} {p : List Nat} (P : Path ls h v p) : p ≠ [] := fun e => by have := P.hd; rw [e] at this; cases this
theorem Path.last_mem {ls : Rows} {h v : Nat} {p : List Nat} (P : Path ls h v p) : v ∈ p := List.mem_of_getLast? P.la
theorem Path.snoc {ls : Rows} {h v w : Nat} {p : List Nat} (P : Path ls h v p) (hw : w ∈ at_ ls v) (hn : w ∉ p) : Path ls h w (p ++ [w]) := by
  have ne := P.ne
  refine ⟨?_, by simp, ?_, fun i a b h1 h2 => ?_⟩
  · rw [List.head?_append, P.hd]; rfl
  · rw [List.nodup_append]; exact ⟨P.nd, by simp, fun a ha b hb e => hn (by rw [← List.mem_singleton.mp hb, ← e]; exact ha)⟩
  · by_cases c : i + 1 < p.length
    · rw [List.getElem?_append_left c] at h2
      rw [List.getElem?_append_left (by omega)] at h1
      exact P.ch i a b h1 h2
    · have hl : i + 1 < (p ++ [w]).length := (List.getElem?_eq_some_iff.mp h2).1
      have e : i + 1 = p.length := by simp at hl; omega
      rw [List.getElem?_append_right (by omega), e] at h2
      simp at h2; subst h2
      rw [List.getElem?_append_left (by omega)] at h1
      have z := P.la
      rw [List.getLast?_eq_getElem?] at z
      rw [show p.length - 1 = i by omega, h1] at z
      cases z; exact hw
/-- all ways from h, [] where there is none -/
structure Ways (ls : Rows) (h : Nat) (F : Rows) : Prop where
  len : F.length = ls.length
  st : at_ F h = [h]
  pa : ∀ v, at_ F v ≠ [] → Path ls h v (at_ F v)
  cl : ∀ v, at_ F v ≠ [] → ∀ w ∈ at_ ls v, at_ F w ≠ []
/-- while it is searched: S the houses from which it goes on -/
structure PI (ls : Rows) (h : Nat) (F : Rows) (S : List Nat) : Prop where
  len : F.length = ls.length
  st : at_ F h = [h]
  pa : ∀ v, at_ F v ≠ [] → Path ls h v (at_ F v)
  on : ∀ v, ∀ x ∈ at_ F v, at_ F x ≠ []
  sf : ∀ x ∈ S, x < ls.length ∧ at_ F x ≠ []
  sn : S.Nodup
  cl : ∀ v, at_ F v ≠ [] → v ∉ S → ∀ w ∈ at_ ls v, at_ F w ≠ []
/-- .. at the house a, whose first k neighbours are found -/
structure PJ (ls : Rows) (h a k : Nat) (F : Rows) (S : List Nat) : Prop where
  len : F.length = ls.length
  st : at_ F h = [h]
  pa : ∀ v, at_ F v ≠ [] → Path ls h v (at_ F v)
  on : ∀ v, ∀ x ∈ at_ F v, at_ F x ≠ []
  sf : ∀ x ∈ S, x < ls.length ∧ at_ F x ≠ []
  sn : S.Nodup
  al : a < ls.length
  af : at_ F a ≠ []
  cl : ∀ v, at_ F v ≠ [] → v ∉ S → v ≠ a → ∀ w ∈ at_ ls v, at_ F w ≠ []
  ak : ∀ w ∈ (at_ ls a).take k, at_ F w ≠ []
def un (F : Rows) : Nat := (F.filter (·.isEmpty)).length
theorem un_set : ∀ (F : Rows) (v : Nat) (p : List Nat), v < F.length → at_ F v = [] → p ≠ [] → un (F.set v p) + 1 = un F
  | [], v, p, h, _, _ => by simp at h
  | q :: F, 0, p, _, e, hp => by
    have e' : q = [] := by simpa [at_] using e
    subst e'
    have : p.isEmpty = false := by simpa using hp
    simp [un, this]
  | q :: F, v + 1, p, h, e, hp => by
    have ih := un_set F v p (by simpa using h) (by simpa [at_] using e) hp
    unfold un at ih ⊢
    rw [List.set_cons_succ, List.filter_cons, List.filter_cons]
    split
    · rw [List.length_cons, List.length_cons]; omega
    · omega
section
variable {ls : Rows} {h : Nat} {F : Rows} {S : List Nat}
theorem pi_start (hh : h < ls.length) : PI ls h ((List.replicate ls.length []).set h [h]) [h] := by
  have e : ∀ v, at_ ((List.replicate ls.length []).set h [h]) v = if h = v then [h] else [] := fun v => by
    rw [at_set]
    by_cases c : h = v
    · rw [if_pos ⟨c, by simpa using hh⟩, if_pos c]
    · rw [if_neg (by omega), if_neg c]
      unfold at_
      rw [List.getElem?_replicate]; split <;> rfl
  refine ⟨by simp, by rw [e, if_pos rfl], fun v hv => ?_, fun v x hx => ?_, fun x hx => ?_, by simp, fun v hv hs => ?_⟩
  · rw [e] at hv ⊢
    by_cases c : h = v
    · subst c; rw [if_pos rfl]; exact .one ls h
    · rw [if_neg c] at hv; exact absurd rfl hv
  · rw [e] at hx
    by_cases c : h = v
    · rw [if_pos c] at hx; rw [List.mem_singleton.mp hx, e, if_pos rfl]; simp
    · rw [if_neg c] at hx; cases hx
  · rw [List.mem_singleton.mp hx, e, if_pos rfl]; exact ⟨hh, by simp⟩
  · rw [e] at hv
    by_cases c : h = v
    · exact absurd (by simp [c]) hs
    · rw [if_neg c] at hv; exact absurd rfl hv
theorem pj_start {a : Nat} (p : PI ls h F (S ++ [a])) : PJ ls h a 0 F S := by
  have hn := p.sn
  rw [List.nodup_append] at hn
  obtain ⟨h1, h2⟩ := p.sf a (by simp)
  exact ⟨p.len, p.st, p.pa, p.on, fun x hx => p.sf x (by simp [hx]), hn.1, h1, h2, fun v hv hs ha => p.cl v hv (by simp [hs, ha]), by simp⟩
theorem pj_skip {a k w : Nat} (p : PJ ls h a k F S) (hw : (at_ ls a)[k]? = some w) (hf : at_ F w ≠ []) : PJ ls h a (k + 1) F S :=
  ⟨p.len, p.st, p.pa, p.on, p.sf, p.sn, p.al, p.af, p.cl, fun x hx => by
    rw [G.take_snoc' hw] at hx
    rcases List.mem_append.mp hx with z | z
    · exact p.ak x z
    · rw [List.mem_singleton.mp z]; exact hf⟩
theorem pj_add {a k w : Nat} (p : PJ ls h a k F S) (hw : (at_ ls a)[k]? = some w) (hl : w < ls.length) (hf : at_ F w = []) :
    PJ ls h a (k + 1) (F.set w (at_ F a ++ [w])) (S ++ [w]) ∧ un (F.set w (at_ F a ++ [w])) + (S ++ [w]).length = un F + S.length := by
  have wl : w < F.length := by rw [p.len]; exact hl
  have e : ∀ v, at_ (F.set w (at_ F a ++ [w])) v = if w = v then at_ F a ++ [w] else at_ F v := fun v => by
    rw [at_set]
    by_cases c : w = v
    · rw [if_pos ⟨c, wl⟩, if_pos c]
    · rw [if_neg (by omega), if_neg c]
  have old : ∀ {v}, at_ F v ≠ [] → w ≠ v := fun {v} hv c => hv (c ▸ hf)
  have up : ∀ {v}, at_ F v ≠ [] → at_ (F.set w (at_ F a ++ [w])) v ≠ [] := fun {v} hv => by rw [e, if_neg (old hv)]; exact hv
  have wn : at_ (F.set w (at_ F a ++ [w])) w ≠ [] := by rw [e, if_pos rfl]; simp
  have wp : w ∉ at_ F a := fun z => p.on a w z hf
  have wS : w ∉ S := fun z => (p.sf w z).2 hf
  have mem_a : w ∈ at_ ls a := List.mem_of_getElem? hw
  refine ⟨⟨by rw [List.length_set]; exact p.len, ?_, fun v hv => ?_, fun v x hx => ?_, fun x hx => ?_, ?_, p.al, up p.af, fun v hv hs ha => ?_, fun x hx => ?_⟩, ?_⟩
  · have : at_ F h ≠ [] := by rw [p.st]; simp
    rw [e, if_neg (old this)]; exact p.st
  · by_cases c : w = v
    · subst c; rw [e, if_pos rfl]; exact (p.pa a p.af).snoc mem_a wp
    · rw [e, if_neg c] at hv ⊢; exact p.pa v hv
  · by_cases c : w = v
    · rw [e, if_pos c] at hx
      rcases List.mem_append.mp hx with z | z
      · exact up (p.on a x z)
      · rw [List.mem_singleton.mp z]; exact wn
    · rw [e, if_neg c] at hx; exact up (p.on v x hx)
  · rcases List.mem_append.mp hx with z | z
    · exact ⟨(p.sf x z).1, up (p.sf x z).2⟩
    · rw [List.mem_singleton.mp z]; exact ⟨hl, wn⟩
  · rw [List.nodup_append]
    exact ⟨p.sn, by simp, fun a ha b hb z => wS (by rw [← List.mem_singleton.mp hb, ← z]; exact ha)⟩
  · have c : w ≠ v := fun c => hs (by simp [c])
    rw [e, if_neg c] at hv
    intro x hx
    exact up (p.cl v hv (fun z => hs (by simp [z])) ha x hx)
  · rw [G.take_snoc' hw] at hx
    rcases List.mem_append.mp hx with z | z
    · exact up (p.ak x z)
    · rw [List.mem_singleton.mp z]; exact wn
  · have := un_set F w (at_ F a ++ [w]) wl hf (by simp)
    simp only [List.length_append, List.length_cons, List.length_nil]; omega
theorem pj_end {a : Nat} (p : PJ ls h a (at_ ls a).length F S) : PI ls h F S :=
  ⟨p.len, p.st, p.pa, p.on, p.sf, p.sn, fun v hv hs => by
    by_cases c : v = a
    · subst c; intro w hw; exact p.ak w (by rw [List.take_length]; exact hw)
    · exact p.cl v hv hs c⟩
theorem pi_end (p : PI ls h F []) : Ways ls h F := ⟨p.len, p.st, p.pa, fun v hv => p.cl v hv (by simp)⟩
end
end M

/-! Ways of a graph: plain Lean. -/
namespace M
theorem Ways.along {ls F : Rows} {h v : Nat} {p : List Nat} (W : Ways ls h F) (P : Path ls h v p) : ∀ (i x : Nat), p[i]? = some x → at_ F x ≠ []
  | 0, x, e => by
    have z := P.hd
    rw [List.head?_eq_getElem?, e] at z
    cases z
    rw [W.st]; simp
  | i + 1, x, e => by
    have hi : i < p.length := by have := (List.getElem?_eq_some_iff.mp e).1; omega
    have ea : p[i]? = some p[i] := List.getElem?_eq_getElem hi
    exact W.cl _ (W.along P i _ ea) x (P.ch i _ x ea e)
/-- a way is found exactly where a path leads -/
theorem Ways.reach {ls F : Rows} {h v : Nat} {p : List Nat} (W : Ways ls h F) (P : Path ls h v p) : at_ F v ≠ [] := by
  obtain ⟨i, hi, e⟩ := List.getElem_of_mem P.last_mem
  exact W.along P i v (by rw [List.getElem?_eq_getElem hi, e])
theorem Ways.same {ls F G : Rows} {h : Nat} (W : Ways ls h F) (W' : Ways ls h G) (v : Nat) : at_ F v = [] ↔ at_ G v = [] := by
  constructor
  · intro e
    by_cases c : at_ G v = []
    · exact c
    · exact absurd e (W.reach (W'.pa v c))
  · intro e
    by_cases c : at_ F v = []
    · exact c
    · exact absurd e (W'.reach (W.pa v c))
/-- one simple path between two houses at most -/
def OneWay (ls : Rows) : Prop := ∀ h v p q, Path ls h v p → Path ls h v q → p = q
theorem Ways.eq {ls F G : Rows} {h : Nat} (u : OneWay ls) (W : Ways ls h F) (W' : Ways ls h G) : F = G := by
  refine List.ext_getElem (by rw [W.len, W'.len]) fun v h1 h2 => ?_
  have eF : at_ F v = F[v] := by unfold at_; rw [List.getElem?_eq_getElem h1]; rfl
  have eG : at_ G v = G[v] := by unfold at_; rw [List.getElem?_eq_getElem h2]; rfl
  rw [← eF, ← eG]
  by_cases c : at_ F v = []
  · rw [c, (W.same W' v).mp c]
  · exact u h v _ _ (W.pa v c) (W'.pa v fun e => c ((W.same W' v).mpr e))
end M

/-! Trees grown house by house: one way between two houses, what lies on it. Plain Lean. -/
namespace M
theorem Path.uncons {ls : Rows} {h v : Nat} {p : List Nat} (P : Path ls h v p) : (p = [h] ∧ h = v) ∨ ∃ b q, p = h :: q ∧ Path ls b v q ∧ b ∈ at_ ls h ∧ h ∉ q := by
  obtain ⟨hd, la, nd, ch⟩ := P
  match p, hd with
  | [x], e =>
    cases e
    cases la
    exact .inl ⟨rfl, rfl⟩
  | x :: b :: q, e =>
    cases e
    refine .inr ⟨b, b :: q, rfl, ⟨rfl, by simpa using la, (List.nodup_cons.mp nd).2, fun i a c h1 h2 => ?_⟩, ch 0 _ _ rfl rfl, (List.nodup_cons.mp nd).1⟩
    exact ch (i + 1) a c (by simpa using h1) (by simpa using h2)
theorem Path.cons {ls : Rows} {h b v : Nat} {q : List Nat} (P : Path ls b v q) (e : b ∈ at_ ls h) (n : h ∉ q) : Path ls h v (h :: q) := by
  have ne := P.ne
  have qd := P.hd
  match q, ne, qd with
  | x :: q, _, qd =>
    cases qd
    refine ⟨rfl, by simpa using P.la, List.nodup_cons.mpr ⟨n, P.nd⟩, fun i a c h1 h2 => ?_⟩
    cases i with
    | zero => cases h1; cases h2; exact e
    | succ i => exact P.ch i a c (by simpa using h1) (by simpa using h2)
/-- the way back -/
theorem Path.rev {ls : Rows} (sym : ∀ a b, b ∈ at_ ls a → a ∈ at_ ls b) {h v : Nat} {p : List Nat} (P : Path ls h v p) : Path ls v h p.reverse := by
  refine ⟨by rw [List.head?_reverse, P.la], by rw [List.getLast?_reverse, P.hd], List.pairwise_reverse.mpr (P.nd.imp fun z => z.symm), fun i a b h1 h2 => ?_⟩
  have l2 := (List.getElem?_eq_some_iff.mp h2).1
  rw [List.length_reverse] at l2
  rw [List.getElem?_reverse (by omega)] at h1 h2
  refine sym _ _ (P.ch (p.length - 1 - (i + 1)) b a h2 ?_)
  rw [← h1]; congr 1; omega
/-- each house but the first hangs at one of lower rank -/
structure Ranked (ls : Rows) (r : Nat → Nat) : Prop where
  sym : ∀ a b, b ∈ at_ ls a → a ∈ at_ ls b
  ne : ∀ a b, b ∈ at_ ls a → r a ≠ r b
  one : ∀ a b c, b ∈ at_ ls a → c ∈ at_ ls a → r b < r a → r c < r a → b = c
theorem Ranked.rise {ls : Rows} {r : Nat → Nat} (R : Ranked ls r) : ∀ (q : List Nat) (h b v : Nat), Path ls b v q → b ∈ at_ ls h → h ∉ q → r h < r b → r b ≤ r v
  | [], _, _, _, P, _, _, _ => absurd rfl P.ne
  | x :: q, h, b, v, P, e, n, lt => by
    rcases P.uncons with ⟨_, rfl⟩ | ⟨c, q', eq, P', e', n'⟩
    · exact Nat.le_refl _
    · cases eq
      have hc : h ≠ c := by
        rintro rfl
        exact n (List.mem_cons_of_mem _ (List.mem_of_mem_head? P'.hd))
      have up : r x < r c := by
        rcases Nat.lt_trichotomy (r x) (r c) with z | z | z
        · exact z
        · exact absurd z (R.ne _ _ e')
        · exact absurd (R.one x h c (R.sym _ _ e) e' lt z) hc
      exact Nat.le_of_lt (Nat.lt_of_lt_of_le up (R.rise q x c v P' e' n' up))
theorem Ranked.down {ls : Rows} {r : Nat → Nat} (R : Ranked ls r) {q : List Nat} {h b v : Nat} (P : Path ls b v q) (e : b ∈ at_ ls h) (n : h ∉ q) (le : r v ≤ r h) : r b < r h := by
  rcases Nat.lt_trichotomy (r b) (r h) with z | z | z
  · exact z
  · exact absurd z.symm (R.ne _ _ e)
  · have := R.rise q h b v P e n z
    omega
theorem Ranked.oneWay {ls : Rows} {r : Nat → Nat} (R : Ranked ls r) : OneWay ls := by
  have main : ∀ (N h v : Nat) (p q : List Nat), r h + r v ≤ N → r v ≤ r h → Path ls h v p → Path ls h v q → p = q := by
    intro N
    induction N with
    | zero =>
      intro h v p q hN le P Q
      rcases P.uncons with ⟨rfl, rfl⟩ | ⟨b, p', rfl, P', e, n⟩
      · rcases Q.uncons with ⟨rfl, _⟩ | ⟨c, q', rfl, Q', e', n'⟩
        · rfl
        · exact absurd Q'.last_mem n'
      · have := R.down P' e n le; omega
    | succ N ih =>
      intro h v p q hN le P Q
      rcases P.uncons with ⟨rfl, rfl⟩ | ⟨b, p', rfl, P', e, n⟩
      · rcases Q.uncons with ⟨rfl, _⟩ | ⟨c, q', rfl, Q', e', n'⟩
        · rfl
        · exact absurd Q'.last_mem n'
      rcases Q.uncons with ⟨rfl, rfl⟩ | ⟨c, q', rfl, Q', e', n'⟩
      · exact absurd P'.last_mem n
      have d1 := R.down P' e n le
      have d2 := R.down Q' e' n' le
      obtain rfl := R.one h b c e e' d1 d2
      congr 1
      by_cases c2 : r v ≤ r b
      · exact ih b v p' q' (by omega) c2 P' Q'
      · have z := ih v b p'.reverse q'.reverse (by omega) (by omega) (P'.rev R.sym) (Q'.rev R.sym)
        simpa using congrArg List.reverse z
  intro h v p q P Q
  by_cases c : r v ≤ r h
  · exact main _ h v p q (Nat.le_refl _) c P Q
  · have z := main _ v h p.reverse q.reverse (Nat.le_refl _) (by omega) (P.rev R.sym) (Q.rev R.sym)
    simpa using congrArg List.reverse z
/-! ### walks -/
inductive Walk (ls : Rows) : Nat → Nat → List Nat → Prop
  | one (h : Nat) : Walk ls h h [h]
  | cons {h b v : Nat} {q : List Nat} (e : b ∈ at_ ls h) (w : Walk ls b v q) : Walk ls h v (h :: q)
theorem Path.walk {ls : Rows} : ∀ {p : List Nat} {h v : Nat}, Path ls h v p → Walk ls h v p
  | [], _, _, P => absurd rfl P.ne
  | x :: p, h, v, P => by
    rcases P.uncons with ⟨e, rfl⟩ | ⟨b, q, e, P', e', _⟩
    · rw [e]; exact .one h
    · cases e; exact .cons e' P'.walk
/-- the rest of a path from a house on it -/
theorem Path.from_ {ls : Rows} : ∀ {p : List Nat} {h v x : Nat}, Path ls h v p → x ∈ p → ∃ p1 p2, p = p1 ++ x :: p2 ∧ Path ls x v (x :: p2)
  | [], _, _, _, P, _ => absurd rfl P.ne
  | y :: p, h, v, x, P, hx => by
    have ey : y = h := by have z := P.hd; cases z; rfl
    subst ey
    by_cases c : x = y
    · subst c; exact ⟨[], p, rfl, P⟩
    · rcases P.uncons with ⟨e, _⟩ | ⟨b, q, e, P', _, _⟩
      · cases e; simp [c] at hx
      · cases e
        obtain ⟨p1, p2, e2, P2⟩ := P'.from_ (x := x) (by simpa [c] using hx)
        exact ⟨y :: p1, p2, by rw [e2]; rfl, P2⟩
theorem Walk.path {ls : Rows} {h v : Nat} {q : List Nat} (w : Walk ls h v q) : ∃ p, Path ls h v p ∧ ∀ x ∈ p, x ∈ q := by
  induction w with
  | one h => exact ⟨[h], Path.one ls h, fun _ m => m⟩
  | @cons h b v q e w ih =>
    obtain ⟨p, P, sub⟩ := ih
    by_cases c : h ∈ p
    · obtain ⟨p1, p2, e2, P2⟩ := P.from_ c
      refine ⟨_, P2, fun x m => ?_⟩
      rcases List.mem_cons.mp m with rfl | m
      · exact List.mem_cons_self
      · exact List.mem_cons_of_mem _ (sub x (by rw [e2]; simp [m]))
    · refine ⟨_, P.cons e c, fun x m => ?_⟩
      rcases List.mem_cons.mp m with rfl | m
      · exact List.mem_cons_self
      · exact List.mem_cons_of_mem _ (sub x m)
theorem Walk.join {ls : Rows} {h v u : Nat} {p q : List Nat} (w : Walk ls h v p) (w' : Walk ls v u q) : ∃ z, Walk ls h u z ∧ ∀ x ∈ z, x ∈ p ∨ x ∈ q := by
  induction w with
  | one h => exact ⟨q, w', fun x m => .inr m⟩
  | @cons h b v p e w ih =>
    obtain ⟨z, wz, sub⟩ := ih w'
    refine ⟨h :: z, .cons e wz, fun x m => ?_⟩
    rcases List.mem_cons.mp m with rfl | m
    · exact .inl List.mem_cons_self
    · exact (sub x m).imp (List.mem_cons_of_mem _) id
/-- a house on the way from i to j lies on the way from h to i or on that from h to j -/
theorem OneWay.between {ls : Rows} (u : OneWay ls) (sym : ∀ a b, b ∈ at_ ls a → a ∈ at_ ls b) {h i j : Nat} {p q r : List Nat} (P : Path ls h i p) (Q : Path ls h j q) (R : Path ls i j r) : ∀ x ∈ r, x ∈ p ∨ x ∈ q := by
  obtain ⟨z, wz, sub⟩ := (P.rev sym).walk.join Q.walk
  obtain ⟨r', R', sub'⟩ := wz.path
  obtain rfl := u _ _ _ _ R R'
  intro x m
  exact (sub x (sub' x m)).imp List.mem_reverse.mp id
/-- the last item with a property -/
theorem last_with (f : Nat → Prop) [DecidablePred f] : ∀ (l : List Nat), (∃ x ∈ l, f x) → ∃ l1 x l2, l = l1 ++ x :: l2 ∧ f x ∧ ∀ y ∈ l2, ¬ f y
  | [], ⟨_, m, _⟩ => absurd m List.not_mem_nil
  | a :: l, h => by
    by_cases c : ∃ x ∈ l, f x
    · obtain ⟨l1, x, l2, e, fx, n⟩ := last_with f l c
      exact ⟨a :: l1, x, l2, by rw [e]; rfl, fx, n⟩
    · obtain ⟨x, m, fx⟩ := h
      rcases List.mem_cons.mp m with rfl | m
      · exact ⟨[], x, l, rfl, fx, fun y m fy => c ⟨y, m, fy⟩⟩
      · exact absurd ⟨x, m, fx⟩ c
theorem Path.glue {ls : Rows} {x k : Nat} {r : List Nat} (R : Path ls x k (x :: r)) : ∀ {s : List Nat} {j : Nat}, Path ls j x (s ++ [x]) → (∀ y ∈ s, y ∉ x :: r) → Path ls j k (s ++ x :: r)
  | [], j, P, _ => by
    have z := P.hd
    cases z
    exact R
  | y :: s, j, P, n => by
    have z := P.hd
    cases z
    rcases P.uncons with ⟨e, _⟩ | ⟨b, q, e, P', e', n'⟩
    · have := congrArg List.length e
      simp at this
    · have eq : s ++ [x] = q := (List.cons.inj e).2
      subst eq
      refine (Path.glue R P' fun w m => n w (List.mem_cons_of_mem _ m)).cons e' fun m => ?_
      rcases List.mem_append.mp m with m | m
      · exact n' (List.mem_append_left _ m)
      · exact n y List.mem_cons_self m
/-- three ways between three houses have a house in common -/
theorem OneWay.median {ls : Rows} (u : OneWay ls) (sym : ∀ a b, b ∈ at_ ls a → a ∈ at_ ls b) {i j k : Nat} {p q r : List Nat} (P : Path ls i j p) (Q : Path ls j k q) (R : Path ls i k r) : ∃ x ∈ p, x ∈ q ∧ x ∈ r := by
  have hi : i ∈ p := List.mem_of_mem_head? P.hd
  have hr : i ∈ r := List.mem_of_mem_head? R.hd
  obtain ⟨p1, x, p2, ep, hx, no⟩ := last_with (· ∈ r) p ⟨i, hi, hr⟩
  have mx : x ∈ p := by rw [ep]; simp
  obtain ⟨a1, a2, ea, A⟩ := P.from_ mx
  obtain ⟨b1, b2, eb, B⟩ := R.from_ hx
  -- the rest of p behind x
  have e2 : a2 = p2 := by
    have nd := P.nd
    have h : a1 ++ x :: a2 = p1 ++ x :: p2 := ea.symm.trans ep
    have n1 : x ∉ a1 := by
      rw [ea, List.nodup_append] at nd
      exact fun m => nd.2.2 x m x List.mem_cons_self rfl
    have nd' := P.nd
    have n2 : x ∉ p1 := by
      rw [ep, List.nodup_append] at nd'
      exact fun m => nd'.2.2 x m x List.mem_cons_self rfl
    have cut : ∀ (l m : List Nat), x ∉ l → (l ++ x :: m).dropWhile (fun y => y != x) = x :: m := by
      intro l m nl
      induction l with
      | nil => simp
      | cons c l ih =>
        have : c ≠ x := fun e => nl (by simp [e])
        simp only [List.cons_append, List.dropWhile_cons, bne_iff_ne, ne_eq, this, not_false_eq_true, if_true]
        exact ih fun m => nl (List.mem_cons_of_mem _ m)
    have z := congrArg (List.dropWhile (fun y => y != x)) h
    rw [cut _ _ n1, cut _ _ n2] at z
    exact (List.cons.inj z).2
  subst e2
  have A' : Path ls j x (a2.reverse ++ [x]) := by simpa using A.rev sym
  have G := Path.glue B A' fun y m m' => by
    refine no y (List.mem_reverse.mp m) ?_
    rw [eb]; exact List.mem_append_right _ m'
  refine ⟨x, mx, ?_, hx⟩
  rw [u _ _ _ _ Q G]
  simp
end M

/-! What words and lines write: plain Lean. -/
namespace TT
open PySem TL
/-- a digit -/
def dig (c : Nat) : Bool := decide (48 ≤ c) && decide (c ≤ 57)
/-- the number of signs: no sign ahead, no needless 0 -/
def numS : List Nat → Option Nat
  | [] => none
  | c :: r => if ((c :: r).all dig && (r.isEmpty || c != 48)) = true then some (NumText.digitsVal (c :: r)) else none
theorem numS_cons (c : Nat) (r : List Nat) : numS (c :: r) = if ((c :: r).all dig && (r.isEmpty || c != 48)) = true then some (NumText.digitsVal (c :: r)) else none := rfl
def num (w : Str) : Option Nat := numS (tl w)
theorem val_snoc (l : List Nat) (d : Nat) : NumText.digitsVal (l ++ [d]) = NumText.digitsVal l * 10 + (d - 48) := by
  unfold NumText.digitsVal; rw [List.foldl_append]; rfl
theorem dig_iff {c : Nat} : dig c = true ↔ 48 ≤ c ∧ c ≤ 57 := by unfold dig; simp
/-- a number's signs, told back -/
theorem back_L : ∀ (k : Nat) (l : List Nat), l.length = k + 1 → l.all dig = true → (l.head? ≠ some 48 ∨ k = 0) → numL (NumText.digitsVal l) = l ∧ (l.head? ≠ some 48 → 1 ≤ NumText.digitsVal l)
  | 0, [c], _, h, _ => by
    have z := dig_iff.mp (List.all_eq_true.mp h c (by simp))
    have e : NumText.digitsVal [c] = c - 48 := by unfold NumText.digitsVal; simp
    rw [e, numL_lt (by omega)]
    refine ⟨by rw [show 48 + (c - 48) = c by omega], fun n => ?_⟩
    have : c ≠ 48 := fun q => n (by rw [q]; rfl)
    omega
  | k + 1, l, len, h, hh => by
    have ne : l ≠ [] := by intro z; rw [z] at len; simp at len
    obtain ⟨l', d, rfl⟩ : ∃ l' d, l = l' ++ [d] := ⟨l.dropLast, l.getLast ne, (List.dropLast_concat_getLast ne).symm⟩
    have ln : l'.length = k + 1 := by simpa using len
    rw [List.all_append, Bool.and_eq_true] at h
    have hd : l'.head? = (l' ++ [d]).head? := by cases l' with
      | nil => simp at ln
      | cons => rfl
    have nz : l'.head? ≠ some 48 := by rw [hd]; exact hh.elim id (fun z => by omega)
    obtain ⟨b1, b2⟩ := back_L k l' ln h.1 (.inl nz)
    have z := dig_iff.mp (List.all_eq_true.mp h.2 d (by simp))
    have v := b2 nz
    rw [val_snoc, numL_step (by omega), show (NumText.digitsVal l' * 10 + (d - 48)) / 10 = NumText.digitsVal l' by omega, show 48 + (NumText.digitsVal l' * 10 + (d - 48)) % 10 = d by omega, b1]
    exact ⟨rfl, fun _ => by omega⟩
theorem numS_back {l : List Nat} {n : Nat} (h : numS l = some n) : l = numL n := by
  cases l with
  | nil => cases h
  | cons c r =>
    rw [numS_cons] at h
    split at h
    · rename_i q
      rw [Bool.and_eq_true] at q
      cases h
      refine (back_L r.length (c :: r) rfl q.1 ?_).1.symm
      rcases Bool.or_eq_true_iff.mp q.2 with z | z
      · exact .inr (by rw [List.isEmpty_iff.mp z]; rfl)
      · exact .inl (by simpa using z)
    · cases h
theorem head_numL (n : Nat) : 1 ≤ n → (numL n).head? ≠ some 48 := by
  induction n using Nat.strongRecOn with | _ n ih =>
    intro h
    by_cases c : n < 10
    · rw [numL_lt c]; simp; omega
    · rw [numL_step (by omega)]
      have z := ih (n / 10) (by omega) (by omega)
      have ne := numL_ne (n / 10)
      cases e : numL (n / 10) with
      | nil => exact absurd e ne
      | cons a l => rw [e] at z; exact z
theorem numS_of (n : Nat) : numS (numL n) = some n := by
  have d := numL_digits n
  have v := numL_val n
  have ne := numL_ne n
  have hd := head_numL n
  by_cases c : n < 10
  · rw [numL_lt c] at v ⊢
    rw [numS_cons, if_pos (by simp [dig]; omega), v]
  · have hd' := hd (by omega)
    cases e : numL n with
    | nil => exact absurd e ne
    | cons a l =>
      rw [e] at d v hd'
      rw [numS_cons, if_pos, v]
      rw [Bool.and_eq_true, Bool.or_eq_true]
      refine ⟨List.all_eq_true.mpr fun x hx => dig_iff.mpr (d x hx), .inr ?_⟩
      simpa using hd'
/-- what str() writes of a natural number -/
def str (n : Nat) : Str := toString ((n : Nat) : Int)
theorem tl_str (n : Nat) : tl (str n) = numL n := tl_num n
theorem num_back {w : Str} {n : Nat} (h : num w = some n) : w = str n := ext_tl (by rw [tl_str]; exact numS_back h)
theorem num_str (n : Nat) : num (str n) = some n := by unfold num; rw [tl_str]; exact numS_of n
theorem str_free {n s : Nat} (h : s < 48 ∨ 57 < s) : s ∉ tl (str n) := by rw [tl_str]; exact numL_free h
/-! ### cut and joined again -/
theorem spl_ne (S : List Nat) : ∀ (l : List Nat) (k : Nat) (acc : List Nat), spl S k acc l ≠ []
  | [], k, acc => by rw [spl_nil]; simp
  | c :: r, 0, acc => by
    unfold spl
    split
    · simp
    · exact spl_ne S r 0 _
  | c :: r, k + 1, acc => by unfold spl; exact spl_ne S r k acc
theorem pre_one (s c : Nat) (r : List Nat) : pre [s] (c :: r) = decide (c = s) := by
  unfold pre
  rw [Bool.eq_iff_iff]; simp
theorem join_cons {S p : List Nat} {ps : List (List Nat)} (h : ps ≠ []) : joinL S (p :: ps) = p ++ (S ++ joinL S ps) := by
  cases ps with
  | nil => exact absurd rfl h
  | cons q r => rfl
/-- one sign as the separator -/
theorem join_spl (s : Nat) : ∀ (l acc : List Nat), joinL [s] (spl [s] 0 acc l) = acc ++ l
  | [], acc => by rw [spl_nil, List.append_nil]; rfl
  | c :: r, acc => by
    cases e : decide (c = s) with
    | true =>
      rw [spl_hit (by rw [pre_one, e])]
      show joinL [s] (acc :: spl [s] 0 [] r) = _
      rw [join_cons (spl_ne _ _ _ _), join_spl s r [], of_decide_eq_true e]; rfl
    | false =>
      rw [spl_miss (by rw [pre_one, e]), join_spl s r (acc ++ [c]), List.append_assoc]; rfl
theorem spl_free (s : Nat) : ∀ (l acc : List Nat), s ∉ acc → ∀ p ∈ spl [s] 0 acc l, s ∉ p
  | [], acc, h, p, hp => by rw [spl_nil] at hp; rw [List.mem_singleton.mp hp]; exact h
  | c :: r, acc, h, p, hp => by
    cases e : decide (c = s) with
    | true =>
      rw [spl_hit (by rw [pre_one, e])] at hp
      obtain rfl | hp := List.mem_cons.mp hp
      · exact h
      · exact spl_free s r [] (by simp) p hp
    | false =>
      rw [spl_miss (by rw [pre_one, e])] at hp
      refine spl_free s r (acc ++ [c]) (fun z => ?_) p hp
      obtain z | z := List.mem_append.mp z
      · exact h z
      · exact of_decide_eq_false e (List.mem_singleton.mp z).symm
theorem spl_len (s : Nat) : ∀ (l acc : List Nat), (spl [s] 0 acc l).length ≤ l.length + 1
  | [], acc => by rw [spl_nil]; simp
  | c :: r, acc => by
    cases e : decide (c = s) with
    | true =>
      rw [spl_hit (by rw [pre_one, e])]
      have := spl_len s r []
      simp only [List.length_cons, List.length_nil, Nat.sub_self]
      simp at this ⊢; omega
    | false =>
      rw [spl_miss (by rw [pre_one, e])]
      have := spl_len s r (acc ++ [c])
      simp at this ⊢; omega
theorem spl_part_len (s : Nat) : ∀ (l acc : List Nat), ∀ p ∈ spl [s] 0 acc l, p.length ≤ acc.length + l.length
  | [], acc, p, hp => by rw [spl_nil] at hp; rw [List.mem_singleton.mp hp]; simp
  | c :: r, acc, p, hp => by
    cases e : decide (c = s) with
    | true =>
      rw [spl_hit (by rw [pre_one, e])] at hp
      obtain rfl | hp := List.mem_cons.mp hp
      · simp
      · have := spl_part_len s r [] p hp
        simp at this ⊢; omega
    | false =>
      rw [spl_miss (by rw [pre_one, e])] at hp
      have := spl_part_len s r (acc ++ [c]) p hp
      simp at this ⊢; omega
section
variable {y : Str} {s : Nat}
theorem split_tl (ey : tl y = [s]) (hs : s < 256) (x : Str) : (Txt.split x y).map tl = spl [s] 0 [] (tl x) := by
  have hk : y.cps.all (· < 256) = true := by
    rw [← Array.all_toList]
    show (tl y).all (· < 256) = true
    rw [ey]; simpa using hs
  rw [split_spl x y (by rw [ey]; simp) (kind_ok hk), ey]
theorem split_ne (ey : tl y = [s]) (hs : s < 256) (x : Str) : Txt.split x y ≠ [] := fun z => by
  have e := split_tl ey hs x
  rw [z] at e
  exact spl_ne _ _ _ _ e.symm
theorem join_split (ey : tl y = [s]) (hs : s < 256) (x : Str) : Txt.join y (Txt.split x y) = x := by
  refine ext_tl ?_
  rw [join_eq, tl_join, ey, split_tl ey hs x, join_spl]; rfl
theorem split_free (ey : tl y = [s]) (hs : s < 256) (x : Str) : ∀ p ∈ Txt.split x y, s ∉ tl p := fun p hp => by
  refine spl_free s (tl x) [] (by simp) (tl p) ?_
  rw [← split_tl ey hs x]
  exact List.mem_map.mpr ⟨p, hp, rfl⟩
theorem split_len (ey : tl y = [s]) (hs : s < 256) (x : Str) : (Txt.split x y).length ≤ x.length + 1 := by
  have e := congrArg List.length (split_tl ey hs x)
  rw [List.length_map] at e
  rw [e, len_tl x]
  exact spl_len s (tl x) []
theorem split_part (ey : tl y = [s]) (hs : s < 256) (x : Str) : ∀ p ∈ Txt.split x y, p.length ≤ x.length := fun p hp => by
  have z := spl_part_len s (tl x) [] (tl p) (by rw [← split_tl ey hs x]; exact List.mem_map.mpr ⟨p, hp, rfl⟩)
  rw [len_tl p, len_tl x]; simpa using z
theorem split_joined (ey : tl y = [s]) (hs : s < 256) {ps : List Str} (ne : ps ≠ []) (h : ∀ p ∈ ps, s ∉ tl p) : Txt.split (Txt.join y ps) y = ps :=
  TL.split_join ey (by rw [← Array.all_toList]; show (tl y).all (· < 256) = true; rw [ey]; simpa using hs) ne h
end
theorem tl_dash : tl "-" = [45] := by decide +kernel
theorem tl_blank : tl " " = [32] := by decide +kernel
theorem tl_colon : tl ":" = [58] := by decide +kernel
/-- the road that a word writes -/
def road (w : Str) : Option (Nat × Nat) := match (Txt.split w "-").map num with
  | [some a, some b] => some (a, b)
  | _ => none
theorem road_back {w : Str} {a b : Nat} (h : road w = some (a, b)) : Txt.split w "-" = [str a, str b] ∧ w = str a ++ "-" ++ str b := by
  have e : (Txt.split w "-").map num = [some a, some b] := by
    unfold road at h
    split at h
    · rename_i e; cases h; exact e
    · cases h
  have f : Txt.split w "-" = [str a, str b] := by
    generalize Txt.split w "-" = ps at e
    obtain ⟨p, q, is⟩ : ∃ p q, ps = [p, q] := by
      have len := congrArg List.length e
      rw [List.length_map] at len
      cases ps with
      | nil => simp at len
      | cons p ps => cases ps with
        | nil => simp at len
        | cons q ps => cases ps with
          | nil => exact ⟨p, q, rfl⟩
          | cons r ps => simp at len
    subst is
    simp only [List.map_cons, List.map_nil, List.cons.injEq, and_true] at e
    rw [num_back e.1, num_back e.2]
  refine ⟨f, ?_⟩
  have z := join_split tl_dash (by decide) w
  rw [f, join_eq] at z
  exact z.symm
theorem road_of (a b : Nat) : road (str a ++ "-" ++ str b) = some (a, b) := by
  have e : Txt.split (str a ++ "-" ++ str b) "-" = [str a, str b] := by
    have z := split_joined tl_dash (by decide) (ps := [str a, str b]) (by simp) (fun p hp => by
      obtain rfl | hp := List.mem_cons.mp hp
      · exact str_free (.inl (by decide))
      · rw [List.mem_singleton.mp hp]; exact str_free (.inl (by decide)))
    rw [join_eq] at z
    exact z
  unfold road
  rw [e]
  show (match [num (str a), num (str b)] with | [some a, some b] => some (a, b) | _ => none) = _
  rw [num_str, num_str]
/-- the number of houses that a line's first word writes -/
def first (w : Str) : Option Nat := if (tl w).getLast? = some 58 then num ⟨(tl w).dropLast.toArray⟩ else none
theorem first_back {w : Str} {n : Nat} (h : first w = some n) : w = str n ++ ":" := by
  unfold first at h
  split at h
  · rename_i c
    have z := num_back h
    refine ext_tl ?_
    rw [tl_append, ← z, tl_mk, tl_colon]
    have ne : tl w ≠ [] := by intro q; rw [q] at c; cases c
    rw [List.getLast?_eq_some_getLast ne] at c
    have := List.dropLast_concat_getLast ne
    rw [Option.some.inj c] at this
    exact this.symm
  · cases h
theorem first_of (n : Nat) : first (str n ++ ":") = some n := by
  have e : tl (str n ++ ":") = tl (str n) ++ [58] := by rw [tl_append, tl_colon]
  unfold first
  rw [e, if_pos (by simp), List.dropLast_concat, mk_tl, num_str]
def ltP (p q : Nat × Nat) : Bool := decide (p.1 < q.1) || (decide (p.1 = q.1) && decide (p.2 < q.2))
/-- the roads that words write: right ones, ascending -/
structure Roads (n : Nat) (ws : List Str) (rs : List (Nat × Nat)) : Prop where
  eq : ws.map road = rs.map some
  lt : ∀ p ∈ rs, p.1 < p.2 ∧ p.2 < n
  up : rs.Pairwise fun p q => ltP p q = true
theorem map_some_inj {α : Type} : ∀ {l m : List α}, l.map some = m.map some → l = m
  | [], [], _ => rfl
  | [], _ :: _, no => absurd no (by simp)
  | _ :: _, [], no => absurd no (by simp)
  | a :: l, b :: m, h => by
    simp only [List.map_cons, List.cons.injEq, Option.some.injEq] at h
    rw [h.1, map_some_inj h.2]
theorem Roads.one {n : Nat} {ws rs qs} (h : Roads n ws rs) (g : Roads n ws qs) : rs = qs := map_some_inj (h.eq.symm.trans g.eq)
/-- a line's text -/
def line (n : Nat) (rs : List (Nat × Nat)) : Str := Txt.join " " ((str n ++ ":") :: rs.map fun p => str p.1 ++ "-" ++ str p.2)
theorem roads_words {n : Nat} : ∀ {ws : List Str} {rs : List (Nat × Nat)}, ws.map road = rs.map some → ws = rs.map fun p => str p.1 ++ "-" ++ str p.2
  | [], [], _ => rfl
  | [], _ :: _, no => absurd no (by simp)
  | _ :: _, [], no => absurd no (by simp)
  | w :: ws, (a, b) :: rs, h => by
    simp only [List.cons.injEq, List.map_cons] at h
    rw [List.map_cons, ← roads_words (n := n) h.2, (road_back h.1).2]
theorem line_back {z : Str} {f : Str} {ws : List Str} {n : Nat} {rs : List (Nat × Nat)} (h : Txt.split z " " = f :: ws) (hf : first f = some n) (hr : ws.map road = rs.map some) : z = line n rs := by
  have e := join_split tl_blank (by decide) z
  rw [h, first_back hf, roads_words (n := n) hr] at e
  exact e.symm
theorem line_split (n : Nat) (rs : List (Nat × Nat)) : Txt.split (line n rs) " " = (str n ++ ":") :: rs.map fun p => str p.1 ++ "-" ++ str p.2 := by
  refine split_joined tl_blank (by decide) (by simp) fun p hp => ?_
  obtain rfl | hp := List.mem_cons.mp hp
  · rw [tl_append, tl_colon]
    intro z
    obtain z | z := List.mem_append.mp z
    · exact str_free (.inl (by decide)) z
    · simp at z
  · obtain ⟨⟨a, b⟩, _, rfl⟩ := List.mem_map.mp hp
    rw [tl_append, tl_append, tl_dash]
    intro z
    obtain z | z := List.mem_append.mp z
    · obtain z | z := List.mem_append.mp z
      · exact str_free (.inl (by decide)) z
      · simp at z
    · exact str_free (.inl (by decide)) z
theorem line_roads (rs : List (Nat × Nat)) : (rs.map fun p => str p.1 ++ "-" ++ str p.2).map road = rs.map some := by
  rw [List.map_map]
  exact List.map_congr_left fun p _ => road_of p.1 p.2
end TT

/-! Ends and cuts of words. -/
namespace TT
open PySem TL L2
theorem ends_one {y : Str} {s : Nat} (ey : tl y = [s]) (z : Str) : Txt.endswith z y = decide ((tl z).getLast? = some s) := by
  have ly : y.length = 1 := by rw [len_tl, ey]; rfl
  unfold Txt.endswith
  rw [PySem.StrLaws.subAt_eq, ly]
  show (decide (0 + 1 ≤ z.length) && (((tl z).drop (z.length - 1)).take 1 == tl y)) = _
  rw [len_tl z, ey]
  cases h : tl z with
  | nil => rfl
  | cons c r =>
    have ne : c :: r ≠ [] := by simp
    rw [List.getLast?_eq_some_getLast ne]
    have e : (c :: r).drop ((c :: r).length - 1) = [(c :: r).getLast ne] := by
      conv => lhs; rw [← List.dropLast_concat_getLast ne]
      rw [List.length_append, List.length_dropLast, List.length_singleton]
      rw [show (c :: r).length - 1 + 1 - 1 = (c :: r).dropLast.length by rw [List.length_dropLast]; omega]
      exact List.drop_left
    rw [e, Bool.eq_iff_iff]
    simp
theorem cut_last (z : Str) : tl (cutS z none (some (-1))) = (tl z).dropLast := by
  show ((tl z).drop (HT.sIx z.length 0 none)).take (HT.sIx z.length z.length (some (-1)) - HT.sIx z.length 0 none) = _
  have a : HT.sIx z.length 0 none = 0 := rfl
  have b : HT.sIx z.length z.length (some (-1)) = (tl z).length - 1 := by rw [len_tl z]; unfold HT.sIx; simp; omega
  rw [a, b, List.drop_zero, List.dropLast_eq_take]; rfl
theorem first_eq (w : Str) : first w = if Txt.endswith w ":" = true then num (cutS w none (some (-1))) else none := by
  unfold first
  rw [ends_one tl_colon]
  by_cases c : (tl w).getLast? = some 58
  · rw [if_pos c, if_pos (decide_eq_true c)]
    unfold num
    rw [cut_last]
  · rw [if_neg c, if_neg (by rw [decide_eq_false c]; exact Bool.false_ne_true)]
/-- the last sign, as a text -/
theorem cut_end (z : Str) : tl (cutS z (some (-1)) none) = ((tl z).getLast?).toList := by
  show ((tl z).drop (HT.sIx z.length 0 (some (-1)))).take (HT.sIx z.length z.length none - HT.sIx z.length 0 (some (-1))) = _
  have a : HT.sIx z.length 0 (some (-1)) = (tl z).length - 1 := by rw [len_tl z]; unfold HT.sIx; simp; omega
  have b : HT.sIx z.length z.length none = (tl z).length := by rw [len_tl z]; rfl
  rw [a, b]
  cases h : tl z with
  | nil => rfl
  | cons c r =>
    have ne : c :: r ≠ [] := by simp
    rw [List.getLast?_eq_some_getLast ne]
    have e : (c :: r).drop ((c :: r).length - 1) = [(c :: r).getLast ne] := by
      conv => lhs; rw [← List.dropLast_concat_getLast ne]
      rw [List.length_append, List.length_dropLast, List.length_singleton]
      rw [show (c :: r).length - 1 + 1 - 1 = (c :: r).dropLast.length by rw [List.length_dropLast]; omega]
      exact List.drop_left
    rw [e]
    simp
end TT

/-! Texts of plain signs, their lengths. -/
namespace TT
open PySem TL L2
def Asc (z : Str) : Prop := ∀ c ∈ tl z, c < 128
theorem asc_app {x y : Str} (h : Asc x) (g : Asc y) : Asc (x ++ y) := fun c hc => by
  rw [tl_append] at hc
  exact (List.mem_append.mp hc).elim (h c) (g c)
theorem tl_cut (z : Str) (lo hi : Option Int) : tl (cutS z lo hi) = ((tl z).drop (HT.sIx z.length 0 lo)).take (HT.sIx z.length z.length hi - HT.sIx z.length 0 lo) := rfl
theorem asc_cut {z : Str} (lo hi : Option Int) (h : Asc z) : Asc (cutS z lo hi) := fun c hc => by
  rw [tl_cut] at hc
  exact h c (List.mem_of_mem_drop (List.mem_of_mem_take hc))
theorem asc_str (n : Nat) : Asc (str n) := fun c hc => by
  rw [tl_str] at hc
  have := numL_digits n c hc
  omega
theorem asc_of {y : Str} (h : (tl y).all (· < 128) = true) : Asc y := fun c hc => by simpa using List.all_eq_true.mp h c hc
theorem spl_sub (s : Nat) : ∀ (l acc : List Nat), ∀ p ∈ spl [s] 0 acc l, ∀ c ∈ p, c ∈ acc ∨ c ∈ l
  | [], acc, p, hp, c, hc => by rw [spl_nil] at hp; rw [List.mem_singleton.mp hp] at hc; exact .inl hc
  | d :: r, acc, p, hp, c, hc => by
    cases e : decide (d = s) with
    | true =>
      rw [spl_hit (by rw [pre_one, e])] at hp
      obtain rfl | hp := List.mem_cons.mp hp
      · exact .inl hc
      · exact (spl_sub s r [] p hp c hc).elim (fun z => by simp at z) fun z => .inr (List.mem_cons_of_mem _ z)
    | false =>
      rw [spl_miss (by rw [pre_one, e])] at hp
      rcases spl_sub s r (acc ++ [d]) p hp c hc with z | z
      · obtain z | z := List.mem_append.mp z
        · exact .inl z
        · rw [List.mem_singleton.mp z]; exact .inr List.mem_cons_self
      · exact .inr (List.mem_cons_of_mem _ z)
theorem spl_sum (s : Nat) : ∀ (l acc : List Nat), ((spl [s] 0 acc l).map List.length).sum + (spl [s] 0 acc l).length ≤ acc.length + l.length + 1
  | [], acc => by rw [spl_nil]; simp
  | d :: r, acc => by
    cases e : decide (d = s) with
    | true =>
      rw [spl_hit (by rw [pre_one, e])]
      have := spl_sum s r []
      simp only [List.map_cons, List.sum_cons, List.length_cons, List.length_nil, Nat.sub_self] at this ⊢
      simp at this ⊢; omega
    | false =>
      rw [spl_miss (by rw [pre_one, e])]
      have := spl_sum s r (acc ++ [d])
      simp at this ⊢; omega
section
variable {y : Str} {s : Nat}
theorem asc_split (ey : tl y = [s]) (hs : s < 256) {x : Str} (h : Asc x) : ∀ p ∈ Txt.split x y, Asc p := fun p hp c hc => by
  have z := spl_sub s (tl x) [] (tl p) (by rw [← split_tl ey hs x]; exact List.mem_map.mpr ⟨p, hp, rfl⟩) c hc
  exact z.elim (fun z => by simp at z) (h c)
theorem split_sum (ey : tl y = [s]) (hs : s < 256) (x : Str) : ((Txt.split x y).map (·.length)).sum + (Txt.split x y).length ≤ x.length + 1 := by
  have z := spl_sum s (tl x) []
  rw [← split_tl ey hs x, List.map_map, List.length_map] at z
  have e : (Txt.split x y).map (·.length) = (Txt.split x y).map (List.length ∘ tl) := List.map_congr_left fun p _ => len_tl p
  rw [e, len_tl x]
  simpa using z
end
theorem joinL_len (S : List Nat) : ∀ ps : List (List Nat), (joinL S ps).length ≤ (ps.map List.length).sum + ps.length * S.length
  | [] => by simp [joinL]
  | [p] => by simp [joinL]
  | p :: q :: r => by
    have z := joinL_len S (q :: r)
    rw [join_cons (by simp)]
    simp only [List.length_append, List.map_cons, List.sum_cons, List.length_cons, Nat.add_mul, Nat.one_mul] at z ⊢
    omega
theorem joinL_mem (S : List Nat) : ∀ (ps : List (List Nat)) (c : Nat), c ∈ joinL S ps → c ∈ S ∨ ∃ p ∈ ps, c ∈ p
  | [], c, h => by simp [joinL] at h
  | [p], c, h => .inr ⟨p, by simp, h⟩
  | p :: q :: r, c, h => by
    rw [join_cons (by simp)] at h
    obtain h | h := List.mem_append.mp h
    · exact .inr ⟨p, by simp, h⟩
    · obtain h | h := List.mem_append.mp h
      · exact .inl h
      · rcases joinL_mem S (q :: r) c h with z | ⟨u, hu, hc⟩
        · exact .inl z
        · exact .inr ⟨u, List.mem_cons_of_mem _ hu, hc⟩
theorem join_len {y : Str} (ps : List Str) : (Txt.join y ps).length ≤ (ps.map (·.length)).sum + ps.length * y.length := by
  have z := joinL_len (tl y) (ps.map tl)
  rw [← tl_join, ← join_eq, List.map_map, List.length_map] at z
  have e : ps.map (·.length) = ps.map (List.length ∘ tl) := List.map_congr_left fun p _ => len_tl p
  rw [e, len_tl, len_tl y]
  exact z
theorem asc_join {y : Str} {ps : List Str} (hy : Asc y) (h : ∀ p ∈ ps, Asc p) : Asc (Txt.join y ps) := fun c hc => by
  rw [join_eq, tl_join] at hc
  rcases joinL_mem _ _ c hc with z | ⟨q, hq, z⟩
  · exact hy c z
  · obtain ⟨p, hp, rfl⟩ := List.mem_map.mp hq
    exact h p hp c z
theorem asc_blank : Asc " " := asc_of (by decide +kernel)
theorem asc_dash : Asc "-" := asc_of (by decide +kernel)
theorem asc_colon : Asc ":" := asc_of (by decide +kernel)
theorem asc_line (n : Nat) (rs : List (Nat × Nat)) : Asc (line n rs) := asc_join asc_blank fun p hp => by
  obtain rfl | hp := List.mem_cons.mp hp
  · exact asc_app (asc_str n) asc_colon
  · obtain ⟨q, _, rfl⟩ := List.mem_map.mp hp
    exact asc_app (asc_app (asc_str _) asc_dash) (asc_str _)
theorem len_app (x y : Str) : (x ++ y).length = x.length + y.length := by rw [len_tl, tl_append, List.length_append, ← len_tl, ← len_tl]
theorem str2 {n : Nat} (h : n < 100) : (str n).length ≤ 2 := by
  rw [len_tl, tl_str]
  exact numL_len (by decide) (by omega)
theorem line_len {n : Nat} {rs : List (Nat × Nat)} (hn : n < 100) (h : ∀ p ∈ rs, p.1 < 100 ∧ p.2 < 100) : (line n rs).length ≤ 4 + rs.length * 6 := by
  have z := join_len (y := " ") ((str n ++ ":") :: rs.map fun p => str p.1 ++ "-" ++ str p.2)
  have hs : ((rs.map fun p => str p.1 ++ "-" ++ str p.2).map (·.length)).sum ≤ rs.length * 5 := by
    clear z
    induction rs with
    | nil => simp
    | cons p rs ih =>
      have b := h p List.mem_cons_self
      have l1 := str2 b.1
      have l2 := str2 b.2
      have d : ("-" : Str).length = 1 := rfl
      have l0 : (str p.1 ++ "-" ++ str p.2).length ≤ 5 := by rw [len_app, len_app, d]; omega
      have := ih fun q hq => h q (List.mem_cons_of_mem _ hq)
      simp only [List.sum_cons, List.map_cons, List.length_cons]
      omega
  have c : (":" : Str).length = 1 := rfl
  have b : (" " : Str).length = 1 := rfl
  have l0 := str2 hn
  rw [List.map_cons, List.sum_cons, List.length_cons, List.length_map, len_app, b, c] at z
  show (Txt.join " " _).length ≤ _
  omega
end TT

namespace T1
open PySem PySem.Spec PyProof.Rows L2 G
def top (i : Nat) : Stmt := PySem.Challenge.pw_looksleft_k02_tree_lines.main.body.getD i (.Pass ⟨0, 0, 0, 0⟩)
abbrev st_InvalidHouses___init__ : Stmt := inClass (top 2) 0
abbrev st_InvalidRoads___init__ : Stmt := inClass (top 3) 0
abbrev st_InvalidHouse___init__ : Stmt := inClass (top 4) 0
abbrev st_InvalidLine___init__ : Stmt := inClass (top 5) 0
abbrev st_NotJoined___init__ : Stmt := inClass (top 6) 0
abbrev st_is_integer : Stmt := top 9
abbrev st_is_index : Stmt := top 10
abbrev st_is_list : Stmt := top 11
abbrev st_count_in : Stmt := top 12
abbrev st_is_road : Stmt := top 15
abbrev st_are_roads : Stmt := top 16
abbrev st_joined_by : Stmt := top 17
abbrev st_ways_from : Stmt := top 18
abbrev st_Tree___init__ : Stmt := inClass (top 19) 0
abbrev st_Tree___eq__ : Stmt := inClass (top 19) 1
abbrev st_Tree___len__ : Stmt := inClass (top 19) 2
abbrev st_Tree___contains__ : Stmt := inClass (top 19) 3
abbrev st_Tree_line : Stmt := inClass (top 19) 4
abbrev st_check_house : Stmt := top 20
abbrev st_neighbours : Stmt := top 21
abbrev st_way : Stmt := top 22
abbrev st_numbers_in : Stmt := top 23
abbrev st_read_tree : Stmt := top 24
abbrev st__law_cell : Stmt := top 26
abbrev st__law_box : Stmt := top 27
abbrev st__law_take : Stmt := top 28
abbrev st__law_mixed : Stmt := top 29
abbrev st__law_world : Stmt := top 30
abbrev st__law_written : Stmt := top 31
abbrev st__law_joined : Stmt := top 32
abbrev st__law_number : Stmt := top 33
abbrev st__law_tree_of : Stmt := top 34
abbrev st__law_sign : Stmt := top 35
abbrev st__law_moved : Stmt := top 36
abbrev st__law_loose : Stmt := top 37
abbrev st__law_changed : Stmt := top 38
abbrev st__law_read : Stmt := top 39
abbrev st__law_used_right : Stmt := top 40
abbrev st__law_read_right : Stmt := top 41
abbrev st__law_none_right : Stmt := top 42
abbrev st_law : Stmt := top 43
def dfn_0 : List He.DefD := [
  ⟨("InvalidHouses", some "__init__"), "__init__", "InvalidHouses.__init__", defArgs st_InvalidHouses___init__, defBody st_InvalidHouses___init__, defScope st_InvalidHouses___init__, [], []⟩,
  ⟨("InvalidRoads", some "__init__"), "__init__", "InvalidRoads.__init__", defArgs st_InvalidRoads___init__, defBody st_InvalidRoads___init__, defScope st_InvalidRoads___init__, [], []⟩,
  ⟨("InvalidHouse", some "__init__"), "__init__", "InvalidHouse.__init__", defArgs st_InvalidHouse___init__, defBody st_InvalidHouse___init__, defScope st_InvalidHouse___init__, [], []⟩,
  ⟨("InvalidLine", some "__init__"), "__init__", "InvalidLine.__init__", defArgs st_InvalidLine___init__, defBody st_InvalidLine___init__, defScope st_InvalidLine___init__, [], []⟩,
  ⟨("NotJoined", some "__init__"), "__init__", "NotJoined.__init__", defArgs st_NotJoined___init__, defBody st_NotJoined___init__, defScope st_NotJoined___init__, [], []⟩,
  ⟨("is_integer", none), "is_integer", "is_integer", defArgs st_is_integer, defBody st_is_integer, defScope st_is_integer, [], []⟩,
  ⟨("is_index", none), "is_index", "is_index", defArgs st_is_index, defBody st_is_index, defScope st_is_index, [], []⟩,
  ⟨("is_list", none), "is_list", "is_list", defArgs st_is_list, defBody st_is_list, defScope st_is_list, [], []⟩,
  ⟨("count_in", none), "count_in", "count_in", defArgs st_count_in, defBody st_count_in, defScope st_count_in, [], []⟩,
  ⟨("is_road", none), "is_road", "is_road", defArgs st_is_road, defBody st_is_road, defScope st_is_road, [], []⟩,
  ⟨("are_roads", none), "are_roads", "are_roads", defArgs st_are_roads, defBody st_are_roads, defScope st_are_roads, [], []⟩,
  ⟨("joined_by", none), "joined_by", "joined_by", defArgs st_joined_by, defBody st_joined_by, defScope st_joined_by, [], []⟩,
  ⟨("ways_from", none), "ways_from", "ways_from", defArgs st_ways_from, defBody st_ways_from, defScope st_ways_from, [], []⟩,
  ⟨("Tree", some "__init__"), "__init__", "Tree.__init__", defArgs st_Tree___init__, defBody st_Tree___init__, defScope st_Tree___init__, [], []⟩,
  ⟨("Tree", some "__eq__"), "__eq__", "Tree.__eq__", defArgs st_Tree___eq__, defBody st_Tree___eq__, defScope st_Tree___eq__, [], []⟩,
  ⟨("Tree", some "__len__"), "__len__", "Tree.__len__", defArgs st_Tree___len__, defBody st_Tree___len__, defScope st_Tree___len__, [], []⟩,
  ⟨("Tree", some "__contains__"), "__contains__", "Tree.__contains__", defArgs st_Tree___contains__, defBody st_Tree___contains__, defScope st_Tree___contains__, [], []⟩,
  ⟨("Tree", some "line"), "line", "Tree.line", defArgs st_Tree_line, defBody st_Tree_line, defScope st_Tree_line, [], []⟩,
  ⟨("check_house", none), "check_house", "check_house", defArgs st_check_house, defBody st_check_house, defScope st_check_house, [], []⟩,
  ⟨("neighbours", none), "neighbours", "neighbours", defArgs st_neighbours, defBody st_neighbours, defScope st_neighbours, [], []⟩,
  ⟨("way", none), "way", "way", defArgs st_way, defBody st_way, defScope st_way, [], []⟩,
  ⟨("numbers_in", none), "numbers_in", "numbers_in", defArgs st_numbers_in, defBody st_numbers_in, defScope st_numbers_in, [], []⟩,
  ⟨("read_tree", none), "read_tree", "read_tree", defArgs st_read_tree, defBody st_read_tree, defScope st_read_tree, [], []⟩,
  ⟨("_law_cell", none), "_law_cell", "_law_cell", defArgs st__law_cell, defBody st__law_cell, defScope st__law_cell, [], []⟩,
  ⟨("_law_box", none), "_law_box", "_law_box", defArgs st__law_box, defBody st__law_box, defScope st__law_box, [], []⟩]
def dfn_1 : List He.DefD := [
  ⟨("_law_take", none), "_law_take", "_law_take", defArgs st__law_take, defBody st__law_take, defScope st__law_take, [], []⟩,
  ⟨("_law_mixed", none), "_law_mixed", "_law_mixed", defArgs st__law_mixed, defBody st__law_mixed, defScope st__law_mixed, [], []⟩,
  ⟨("_law_world", none), "_law_world", "_law_world", defArgs st__law_world, defBody st__law_world, defScope st__law_world, [], []⟩,
  ⟨("_law_written", none), "_law_written", "_law_written", defArgs st__law_written, defBody st__law_written, defScope st__law_written, [], []⟩,
  ⟨("_law_joined", none), "_law_joined", "_law_joined", defArgs st__law_joined, defBody st__law_joined, defScope st__law_joined, [], []⟩,
  ⟨("_law_number", none), "_law_number", "_law_number", defArgs st__law_number, defBody st__law_number, defScope st__law_number, [], []⟩,
  ⟨("_law_tree_of", none), "_law_tree_of", "_law_tree_of", defArgs st__law_tree_of, defBody st__law_tree_of, defScope st__law_tree_of, [], []⟩,
  ⟨("_law_sign", none), "_law_sign", "_law_sign", defArgs st__law_sign, defBody st__law_sign, defScope st__law_sign, [], []⟩,
  ⟨("_law_moved", none), "_law_moved", "_law_moved", defArgs st__law_moved, defBody st__law_moved, defScope st__law_moved, [], []⟩,
  ⟨("_law_loose", none), "_law_loose", "_law_loose", defArgs st__law_loose, defBody st__law_loose, defScope st__law_loose, [], []⟩,
  ⟨("_law_changed", none), "_law_changed", "_law_changed", defArgs st__law_changed, defBody st__law_changed, defScope st__law_changed, [], []⟩,
  ⟨("_law_read", none), "_law_read", "_law_read", defArgs st__law_read, defBody st__law_read, defScope st__law_read, [], []⟩,
  ⟨("_law_used_right", none), "_law_used_right", "_law_used_right", defArgs st__law_used_right, defBody st__law_used_right, defScope st__law_used_right, [], []⟩,
  ⟨("_law_read_right", none), "_law_read_right", "_law_read_right", defArgs st__law_read_right, defBody st__law_read_right, defScope st__law_read_right, [], []⟩,
  ⟨("_law_none_right", none), "_law_none_right", "_law_none_right", defArgs st__law_none_right, defBody st__law_none_right, defScope st__law_none_right, [], []⟩,
  ⟨("law", none), "law", "law", defArgs st_law, defBody st_law, defScope st_law, [], []⟩]
def dfn : List He.DefD := dfn_0 ++ dfn_1
def dfa_0 : List He.Fa := [
  .glo "LeftError",
  .glo "InvalidHouses",
  .glo "InvalidRoads",
  .glo "InvalidHouse",
  .glo "InvalidLine",
  .glo "NotJoined",
  .glo "Tree",
  .glo "is_integer",
  .glo "is_index",
  .glo "is_list",
  .glo "count_in",
  .glo "is_road",
  .glo "are_roads",
  .glo "joined_by",
  .glo "ways_from",
  .glo "check_house",
  .glo "neighbours",
  .glo "way",
  .glo "numbers_in",
  .glo "read_tree",
  .glo "_law_cell",
  .glo "_law_box",
  .glo "_law_take",
  .glo "_law_mixed",
  .glo "_law_world",
  .glo "_law_written",
  .glo "_law_joined",
  .glo "_law_number",
  .glo "_law_tree_of",
  .glo "_law_sign"]
def dfa_1 : List He.Fa := [
  .glo "_law_moved",
  .glo "_law_loose",
  .glo "_law_changed",
  .glo "_law_read",
  .glo "_law_used_right",
  .glo "_law_read_right",
  .glo "_law_none_right",
  .glo "law",
  .free "ValueError",
  .free "abs",
  .free "all",
  .free "bool",
  .free "int",
  .free "isinstance",
  .free "len",
  .free "list",
  .free "max",
  .free "min",
  .free "range",
  .free "repr",
  .free "sorted",
  .free "str",
  .free "sum",
  .free "tuple",
  .str "DIGITS" "0123456789",
  .int "MOST_HOUSES" 16,
  .cls "Tree",
  .mkr "Tree",
  .meth "Tree" "__eq__",
  .meth "Tree" "__len__"]
def dfa_2 : List He.Fa := [
  .meth "Tree" "__contains__",
  .meth "Tree" "line",
  .noat "Tree" "houses",
  .noat "Tree" "near",
  .noat "Tree" "roads",
  .noat "Tree" "ways"]
def dfa : List He.Fa := dfa_0 ++ dfa_1 ++ dfa_2
def errs : List (Str × List Str) := [("InvalidHouses", ["given"]), ("InvalidRoads", ["given"]), ("InvalidHouse", ["given"]), ("InvalidLine", ["given"]), ("NotJoined", ["house"])]
def excs : List Str := ["InvalidHouses", "InvalidRoads", "InvalidHouse", "InvalidLine", "NotJoined", "LeftError"]
/-- which error an except clause takes -/
def exmB (K : PySem.W.Frag) : Bool := errs.all fun p => excs.all fun y => decide (PySem.W.exmOne K (.ref (He.ga K p.1)) (.ref (He.ga K y)) = some (decide (p.1 = y) || decide (y = "LeftError")))
def owns : List Str := ["Tree"]
def more (K : PySem.W.Frag) : Bool := smB K && (parB K && (errs.all (errB K) && (exmB K && owns.all (ownB owns K))))
abbrev Says (K : PySem.W.Frag) : Prop := SaysM dfa dfn more K
abbrev R : PySem.W.OpenRow := PySem.W.OpenLaw.row PySem.Challenge.rw_looksleft_k02_tree_lines
abbrev hk : PySem.W.Hook := hookM 6 dfa dfn more
def ob (s : PySem.W.SharedT) : AlM := obM 6 dfa dfn more s
theorem ob_eq (s : PySem.W.SharedT) : ob s = hk.obs s.abs := obM_eq 6 dfa dfn more s
def names0 : List Str := ["LeftError", "InvalidHouses", "InvalidRoads", "InvalidHouse", "InvalidLine", "NotJoined", "DIGITS", "is_integer", "is_index", "is_list", "count_in", "MOST_HOUSES", "is_road", "are_roads", "joined_by", "ways_from", "Tree", "check_house", "neighbours", "way", "numbers_in", "read_tree", "_law_cell", "_law_box", "_law_take", "_law_mixed", "_law_world", "_law_written", "_law_joined", "_law_number"]
def names1 : List Str := ["_law_tree_of", "_law_sign", "_law_moved", "_law_loose", "_law_changed", "_law_read", "_law_used_right", "_law_read_right", "_law_none_right"]
def names : List Str := names0 ++ names1
theorem run (w : World) : HandSHeadRun.RunEq R (PySem.W.view R.prog [43]) hk ob 30000 names w := by
  intro os
  kernel_rfl
def globs_0 : List Str := ["LeftError", "InvalidHouses", "InvalidRoads", "InvalidHouse", "InvalidLine", "NotJoined", "Tree", "is_integer", "is_index", "is_list", "count_in", "is_road", "are_roads", "joined_by", "ways_from", "check_house", "neighbours", "way", "numbers_in", "read_tree", "_law_cell", "_law_box", "_law_take", "_law_mixed", "_law_world", "_law_written", "_law_joined", "_law_number", "_law_tree_of", "_law_sign"]
def globs_1 : List Str := ["_law_moved", "_law_loose", "_law_changed", "_law_read", "_law_used_right", "_law_read_right", "_law_none_right", "law"]
def globs : List Str := globs_0 ++ globs_1
def frees_0 : List Str := ["ValueError", "abs", "all", "bool", "int", "isinstance", "len", "list", "max", "min", "range", "repr", "sorted", "str", "sum", "tuple"]
def frees : List Str := frees_0
structure Tx (K : PySem.W.Frag) (mg : Str → Option Value) : Prop where
  s : Says K
  glo : ∀ (i : Nat) {x : Str}, globs[i]? = some x → mg x = some (.ref (He.ga K x))
  free : ∀ (i : Nat) {x : Str}, frees[i]? = some x → mg x = none
  con_DIGITS : ∃ t, mg "DIGITS" = some (.str "0123456789" t)
  con_MOST_HOUSES : ∃ t, mg "MOST_HOUSES" = some (.int 16 t)
section
variable {h : Heap} {mg : Str → Option Value} {K : PySem.W.Frag}
theorem glo_at (X : K.In h) (G : h.Ns mainGlobals mg) : ∀ (l : List Str), (l.map He.Fa.glo).all (fun f => f.ok K) = true → ∀ (i : Nat) {x : Str}, l[i]? = some x → mg x = some (.ref (He.ga K x))
  | [], _, i, x, e => by simp at e
  | a :: l, c, 0, x, e => by
    simp at e; subst e
    simp only [List.map_cons, List.all_cons, Bool.and_eq_true] at c
    exact He.glo_ok X G c.1
  | a :: l, c, i + 1, x, e => by
    simp only [List.map_cons, List.all_cons, Bool.and_eq_true] at c
    exact glo_at X G l c.2 i (by simpa using e)
theorem free_at (X : K.In h) (G : h.Ns mainGlobals mg) : ∀ (l : List Str), (l.map He.Fa.free).all (fun f => f.ok K) = true → ∀ (i : Nat) {x : Str}, l[i]? = some x → mg x = none
  | [], _, i, x, e => by simp at e
  | a :: l, c, 0, x, e => by
    simp at e; subst e
    simp only [List.map_cons, List.all_cons, Bool.and_eq_true] at c
    exact He.free_ok X G c.1
  | a :: l, c, i + 1, x, e => by
    simp only [List.map_cons, List.all_cons, Bool.and_eq_true] at c
    exact free_at X G l c.2 i (by simpa using e)
theorem all_dfa (c : Says K) : dfa.all (fun f => f.ok K) = true := by
  have z := (Prod.mk.inj (SaysM.d c)).1
  exact (He.ba (show (dfa.all (fun f => f.ok K) && dfn.all (fun d => d.ok K)) = true from z)).1
theorem all_sub {l : List He.Fa} (c : Says K) (n m : Nat) (e : (dfa.drop n).take m = l) : l.all (fun f => f.ok K) = true := by
  have z := all_dfa c
  rw [List.all_eq_true] at z ⊢
  intro f hf
  rw [← e] at hf
  exact z f (List.mem_of_mem_drop (List.mem_of_mem_take hf))
theorem tx_of (X : K.In h) (G : h.Ns mainGlobals mg) (c : Says K) : Tx K mg :=
  ⟨c, glo_at X G globs (all_sub c 0 38 rfl), free_at X G frees (all_sub c 38 16 rfl), (let ⟨t, z⟩ := He.str_ok X G (SaysM.d c |>.fact 54 (f := .str "DIGITS" "0123456789") rfl); ⟨t, z⟩), (let ⟨t, z⟩ := He.int_ok X G (SaysM.d c |>.fact 55 (f := .int "MOST_HOUSES" 16) rfl); ⟨t, z⟩)⟩
variable (T : Tx K mg)
include T
theorem Tx.sm : Sm K := smB_ok (He.ba T.s.m).1
theorem Tx.par : ParC K mg (He.ga K "LeftError") := parB_ok (He.ba (He.ba T.s.m).2).1 (T.glo 0 rfl)
theorem Tx.err (i : Nat) {x : Str} {fs : List Str} (e : errs[i]? = some (x, fs)) : ErrF K x fs :=
  errB_ok (List.all_eq_true.mp (He.ba (He.ba (He.ba T.s.m).2).2).1 _ (List.mem_of_getElem? e))
theorem Tx.exm {x y : Str} {fs : List Str} {b : Bool} (i j : Nat) (e : errs[i]? = some (x, fs)) (e' : excs[j]? = some y) (hb : (decide (x = y) || decide (y = "LeftError")) = b) : PySem.W.exmOne K (.ref (He.ga K x)) (.ref (He.ga K y)) = some b := by
  have z := List.all_eq_true.mp (List.all_eq_true.mp (He.ba (He.ba (He.ba (He.ba T.s.m).2).2).2).1 _ (List.mem_of_getElem? e)) _ (List.mem_of_getElem? e')
  rw [of_decide_eq_true z, hb]
theorem Tx.own (i : Nat) {x : Str} (e : owns[i]? = some x) : OwnF owns K x :=
  ownB_ok (List.all_eq_true.mp (He.ba (He.ba (He.ba (He.ba T.s.m).2).2).2).2 _ (List.mem_of_getElem? e))
theorem Tx.fd (i : Nat) {d : He.DefD} (e : dfn[i]? = some d) : ∃ fd, FunD K d.name d.qual d.params d.body d.scope (d.dvs K) (d.kws K) (He.fAd K d.at_) fd := (SaysM.d T.s).def_ i e
theorem Tx.fa (i : Nat) {f : He.Fa} (e : dfa[i]? = some f) : f.ok K = true := (SaysM.d T.s).fact i e
theorem fD_InvalidHouses___init__ : ∃ fd, FunD K "__init__" "InvalidHouses.__init__" (defArgs st_InvalidHouses___init__) (defBody st_InvalidHouses___init__) (defScope st_InvalidHouses___init__) [] [] (He.ma K (He.ga K "InvalidHouses") "__init__") fd := T.fd 0 rfl
theorem fD_InvalidRoads___init__ : ∃ fd, FunD K "__init__" "InvalidRoads.__init__" (defArgs st_InvalidRoads___init__) (defBody st_InvalidRoads___init__) (defScope st_InvalidRoads___init__) [] [] (He.ma K (He.ga K "InvalidRoads") "__init__") fd := T.fd 1 rfl
theorem fD_InvalidHouse___init__ : ∃ fd, FunD K "__init__" "InvalidHouse.__init__" (defArgs st_InvalidHouse___init__) (defBody st_InvalidHouse___init__) (defScope st_InvalidHouse___init__) [] [] (He.ma K (He.ga K "InvalidHouse") "__init__") fd := T.fd 2 rfl
theorem fD_InvalidLine___init__ : ∃ fd, FunD K "__init__" "InvalidLine.__init__" (defArgs st_InvalidLine___init__) (defBody st_InvalidLine___init__) (defScope st_InvalidLine___init__) [] [] (He.ma K (He.ga K "InvalidLine") "__init__") fd := T.fd 3 rfl
theorem fD_NotJoined___init__ : ∃ fd, FunD K "__init__" "NotJoined.__init__" (defArgs st_NotJoined___init__) (defBody st_NotJoined___init__) (defScope st_NotJoined___init__) [] [] (He.ma K (He.ga K "NotJoined") "__init__") fd := T.fd 4 rfl
theorem fD_is_integer : ∃ fd, FunD K "is_integer" "is_integer" (defArgs st_is_integer) (defBody st_is_integer) (defScope st_is_integer) [] [] (He.ga K "is_integer") fd := T.fd 5 rfl
theorem fD_is_index : ∃ fd, FunD K "is_index" "is_index" (defArgs st_is_index) (defBody st_is_index) (defScope st_is_index) [] [] (He.ga K "is_index") fd := T.fd 6 rfl
theorem fD_is_list : ∃ fd, FunD K "is_list" "is_list" (defArgs st_is_list) (defBody st_is_list) (defScope st_is_list) [] [] (He.ga K "is_list") fd := T.fd 7 rfl
theorem fD_count_in : ∃ fd, FunD K "count_in" "count_in" (defArgs st_count_in) (defBody st_count_in) (defScope st_count_in) [] [] (He.ga K "count_in") fd := T.fd 8 rfl
theorem fD_is_road : ∃ fd, FunD K "is_road" "is_road" (defArgs st_is_road) (defBody st_is_road) (defScope st_is_road) [] [] (He.ga K "is_road") fd := T.fd 9 rfl
theorem fD_are_roads : ∃ fd, FunD K "are_roads" "are_roads" (defArgs st_are_roads) (defBody st_are_roads) (defScope st_are_roads) [] [] (He.ga K "are_roads") fd := T.fd 10 rfl
theorem fD_joined_by : ∃ fd, FunD K "joined_by" "joined_by" (defArgs st_joined_by) (defBody st_joined_by) (defScope st_joined_by) [] [] (He.ga K "joined_by") fd := T.fd 11 rfl
theorem fD_ways_from : ∃ fd, FunD K "ways_from" "ways_from" (defArgs st_ways_from) (defBody st_ways_from) (defScope st_ways_from) [] [] (He.ga K "ways_from") fd := T.fd 12 rfl
theorem fD_Tree___init__ : ∃ fd, FunD K "__init__" "Tree.__init__" (defArgs st_Tree___init__) (defBody st_Tree___init__) (defScope st_Tree___init__) [] [] (He.ma K (He.ga K "Tree") "__init__") fd := T.fd 13 rfl
theorem fD_Tree___eq__ : ∃ fd, FunD K "__eq__" "Tree.__eq__" (defArgs st_Tree___eq__) (defBody st_Tree___eq__) (defScope st_Tree___eq__) [] [] (He.ma K (He.ga K "Tree") "__eq__") fd := T.fd 14 rfl
theorem fD_Tree___len__ : ∃ fd, FunD K "__len__" "Tree.__len__" (defArgs st_Tree___len__) (defBody st_Tree___len__) (defScope st_Tree___len__) [] [] (He.ma K (He.ga K "Tree") "__len__") fd := T.fd 15 rfl
theorem fD_Tree___contains__ : ∃ fd, FunD K "__contains__" "Tree.__contains__" (defArgs st_Tree___contains__) (defBody st_Tree___contains__) (defScope st_Tree___contains__) [] [] (He.ma K (He.ga K "Tree") "__contains__") fd := T.fd 16 rfl
theorem fD_Tree_line : ∃ fd, FunD K "line" "Tree.line" (defArgs st_Tree_line) (defBody st_Tree_line) (defScope st_Tree_line) [] [] (He.ma K (He.ga K "Tree") "line") fd := T.fd 17 rfl
theorem fD_check_house : ∃ fd, FunD K "check_house" "check_house" (defArgs st_check_house) (defBody st_check_house) (defScope st_check_house) [] [] (He.ga K "check_house") fd := T.fd 18 rfl
theorem fD_neighbours : ∃ fd, FunD K "neighbours" "neighbours" (defArgs st_neighbours) (defBody st_neighbours) (defScope st_neighbours) [] [] (He.ga K "neighbours") fd := T.fd 19 rfl
theorem fD_way : ∃ fd, FunD K "way" "way" (defArgs st_way) (defBody st_way) (defScope st_way) [] [] (He.ga K "way") fd := T.fd 20 rfl
theorem fD_numbers_in : ∃ fd, FunD K "numbers_in" "numbers_in" (defArgs st_numbers_in) (defBody st_numbers_in) (defScope st_numbers_in) [] [] (He.ga K "numbers_in") fd := T.fd 21 rfl
theorem fD_read_tree : ∃ fd, FunD K "read_tree" "read_tree" (defArgs st_read_tree) (defBody st_read_tree) (defScope st_read_tree) [] [] (He.ga K "read_tree") fd := T.fd 22 rfl
theorem fD__law_cell : ∃ fd, FunD K "_law_cell" "_law_cell" (defArgs st__law_cell) (defBody st__law_cell) (defScope st__law_cell) [] [] (He.ga K "_law_cell") fd := T.fd 23 rfl
theorem fD__law_box : ∃ fd, FunD K "_law_box" "_law_box" (defArgs st__law_box) (defBody st__law_box) (defScope st__law_box) [] [] (He.ga K "_law_box") fd := T.fd 24 rfl
theorem fD__law_take : ∃ fd, FunD K "_law_take" "_law_take" (defArgs st__law_take) (defBody st__law_take) (defScope st__law_take) [] [] (He.ga K "_law_take") fd := T.fd 25 rfl
theorem fD__law_mixed : ∃ fd, FunD K "_law_mixed" "_law_mixed" (defArgs st__law_mixed) (defBody st__law_mixed) (defScope st__law_mixed) [] [] (He.ga K "_law_mixed") fd := T.fd 26 rfl
theorem fD__law_world : ∃ fd, FunD K "_law_world" "_law_world" (defArgs st__law_world) (defBody st__law_world) (defScope st__law_world) [] [] (He.ga K "_law_world") fd := T.fd 27 rfl
theorem fD__law_written : ∃ fd, FunD K "_law_written" "_law_written" (defArgs st__law_written) (defBody st__law_written) (defScope st__law_written) [] [] (He.ga K "_law_written") fd := T.fd 28 rfl
theorem fD__law_joined : ∃ fd, FunD K "_law_joined" "_law_joined" (defArgs st__law_joined) (defBody st__law_joined) (defScope st__law_joined) [] [] (He.ga K "_law_joined") fd := T.fd 29 rfl
theorem fD__law_number : ∃ fd, FunD K "_law_number" "_law_number" (defArgs st__law_number) (defBody st__law_number) (defScope st__law_number) [] [] (He.ga K "_law_number") fd := T.fd 30 rfl
theorem fD__law_tree_of : ∃ fd, FunD K "_law_tree_of" "_law_tree_of" (defArgs st__law_tree_of) (defBody st__law_tree_of) (defScope st__law_tree_of) [] [] (He.ga K "_law_tree_of") fd := T.fd 31 rfl
theorem fD__law_sign : ∃ fd, FunD K "_law_sign" "_law_sign" (defArgs st__law_sign) (defBody st__law_sign) (defScope st__law_sign) [] [] (He.ga K "_law_sign") fd := T.fd 32 rfl
theorem fD__law_moved : ∃ fd, FunD K "_law_moved" "_law_moved" (defArgs st__law_moved) (defBody st__law_moved) (defScope st__law_moved) [] [] (He.ga K "_law_moved") fd := T.fd 33 rfl
theorem fD__law_loose : ∃ fd, FunD K "_law_loose" "_law_loose" (defArgs st__law_loose) (defBody st__law_loose) (defScope st__law_loose) [] [] (He.ga K "_law_loose") fd := T.fd 34 rfl
theorem fD__law_changed : ∃ fd, FunD K "_law_changed" "_law_changed" (defArgs st__law_changed) (defBody st__law_changed) (defScope st__law_changed) [] [] (He.ga K "_law_changed") fd := T.fd 35 rfl
theorem fD__law_read : ∃ fd, FunD K "_law_read" "_law_read" (defArgs st__law_read) (defBody st__law_read) (defScope st__law_read) [] [] (He.ga K "_law_read") fd := T.fd 36 rfl
theorem fD__law_used_right : ∃ fd, FunD K "_law_used_right" "_law_used_right" (defArgs st__law_used_right) (defBody st__law_used_right) (defScope st__law_used_right) [] [] (He.ga K "_law_used_right") fd := T.fd 37 rfl
theorem fD__law_read_right : ∃ fd, FunD K "_law_read_right" "_law_read_right" (defArgs st__law_read_right) (defBody st__law_read_right) (defScope st__law_read_right) [] [] (He.ga K "_law_read_right") fd := T.fd 38 rfl
theorem fD__law_none_right : ∃ fd, FunD K "_law_none_right" "_law_none_right" (defArgs st__law_none_right) (defBody st__law_none_right) (defScope st__law_none_right) [] [] (He.ga K "_law_none_right") fd := T.fd 39 rfl
theorem fD_law : ∃ fd, FunD K "law" "law" (defArgs st_law) (defBody st_law) (defScope st_law) [] [] (He.ga K "law") fd := T.fd 40 rfl
theorem cl_Tree : Cls K (He.ga K "Tree") := He.cls_ok (T.fa 56 rfl)
theorem mk_Tree : Mk K (He.ga K "Tree") (He.ma K (He.ga K "Tree") "__init__") := He.mkr_ok (T.fa 57 rfl)
theorem me_Tree___eq__ : Meth K (He.ga K "Tree") "__eq__" (He.ma K (He.ga K "Tree") "__eq__") := He.meth_ok (T.fa 58 rfl)
theorem me_Tree___len__ : Meth K (He.ga K "Tree") "__len__" (He.ma K (He.ga K "Tree") "__len__") := He.meth_ok (T.fa 59 rfl)
theorem me_Tree___contains__ : Meth K (He.ga K "Tree") "__contains__" (He.ma K (He.ga K "Tree") "__contains__") := He.meth_ok (T.fa 60 rfl)
theorem me_Tree_line : Meth K (He.ga K "Tree") "line" (He.ma K (He.ga K "Tree") "line") := He.meth_ok (T.fa 61 rfl)
theorem no_Tree_houses : NoAttr K (He.ga K "Tree") "houses" := He.noat_ok (T.fa 62 rfl)
theorem no_Tree_near : NoAttr K (He.ga K "Tree") "near" := He.noat_ok (T.fa 63 rfl)
theorem no_Tree_roads : NoAttr K (He.ga K "Tree") "roads" := He.noat_ok (T.fa 64 rfl)
theorem no_Tree_ways : NoAttr K (He.ga K "Tree") "ways" := He.noat_ok (T.fa 65 rfl)
end
theorem sc_InvalidHouses___init__ : FnScope ["self", "given"] ["self", "given"] (defScope st_InvalidHouses___init__) := ⟨rfl, rfl, rfl, by decide +kernel, rfl, by decide +kernel, by decide +kernel⟩
theorem sc_InvalidRoads___init__ : FnScope ["self", "given"] ["self", "given"] (defScope st_InvalidRoads___init__) := ⟨rfl, rfl, rfl, by decide +kernel, rfl, by decide +kernel, by decide +kernel⟩
theorem sc_InvalidHouse___init__ : FnScope ["self", "given"] ["self", "given"] (defScope st_InvalidHouse___init__) := ⟨rfl, rfl, rfl, by decide +kernel, rfl, by decide +kernel, by decide +kernel⟩
theorem sc_InvalidLine___init__ : FnScope ["self", "given"] ["self", "given"] (defScope st_InvalidLine___init__) := ⟨rfl, rfl, rfl, by decide +kernel, rfl, by decide +kernel, by decide +kernel⟩
theorem sc_NotJoined___init__ : FnScope ["self", "house"] ["self", "house"] (defScope st_NotJoined___init__) := ⟨rfl, rfl, rfl, by decide +kernel, rfl, by decide +kernel, by decide +kernel⟩
theorem sc_is_integer : FnScope ["value"] ["value"] (defScope st_is_integer) := ⟨rfl, rfl, rfl, by decide +kernel, rfl, by decide +kernel, by decide +kernel⟩
theorem sc_is_index : FnScope ["value", "many"] ["value", "many"] (defScope st_is_index) := ⟨rfl, rfl, rfl, by decide +kernel, rfl, by decide +kernel, by decide +kernel⟩
theorem sc_is_list : FnScope ["value"] ["value"] (defScope st_is_list) := ⟨rfl, rfl, rfl, by decide +kernel, rfl, by decide +kernel, by decide +kernel⟩
theorem sc_count_in : FnScope ["word", "sign"] ["word"] (defScope st_count_in) := ⟨rfl, rfl, rfl, by decide +kernel, rfl, by decide +kernel, by decide +kernel⟩
theorem sc_is_road : FnScope ["value", "houses", "u", "v"] ["value", "houses"] (defScope st_is_road) := ⟨rfl, rfl, rfl, by decide +kernel, rfl, by decide +kernel, by decide +kernel⟩
theorem sc_are_roads : FnScope ["value", "houses", "at", "road"] ["value", "houses"] (defScope st_are_roads) := ⟨rfl, rfl, rfl, by decide +kernel, rfl, by decide +kernel, by decide +kernel⟩
theorem sc_joined_by : FnScope ["houses", "roads", "found", "u", "v", "_", "others"] ["houses", "roads"] (defScope st_joined_by) := ⟨rfl, rfl, rfl, by decide +kernel, rfl, by decide +kernel, by decide +kernel⟩
theorem sc_ways_from : FnScope ["near", "house", "found", "front", "at", "other", "_"] ["near", "house"] (defScope st_ways_from) := ⟨rfl, rfl, rfl, by decide +kernel, rfl, by decide +kernel, by decide +kernel⟩
theorem sc_Tree___init__ : FnScope ["self", "houses", "roads", "house"] ["self", "houses", "roads"] (defScope st_Tree___init__) := ⟨rfl, rfl, rfl, by decide +kernel, rfl, by decide +kernel, by decide +kernel⟩
theorem sc_Tree___eq__ : FnScope ["self", "other"] ["self", "other"] (defScope st_Tree___eq__) := ⟨rfl, rfl, rfl, by decide +kernel, rfl, by decide +kernel, by decide +kernel⟩
theorem sc_Tree___len__ : FnScope ["self"] ["self"] (defScope st_Tree___len__) := ⟨rfl, rfl, rfl, by decide +kernel, rfl, by decide +kernel, by decide +kernel⟩
theorem sc_Tree___contains__ : FnScope ["self", "value"] ["self", "value"] (defScope st_Tree___contains__) := ⟨rfl, rfl, rfl, by decide +kernel, rfl, by decide +kernel, by decide +kernel⟩
theorem sc_Tree_line : FnScope ["self", "u", "v"] ["self"] (defScope st_Tree_line) := ⟨rfl, rfl, rfl, by decide +kernel, rfl, by decide +kernel, by decide +kernel⟩
theorem sc_check_house : FnScope ["tree", "house"] ["tree", "house"] (defScope st_check_house) := ⟨rfl, rfl, rfl, by decide +kernel, rfl, by decide +kernel, by decide +kernel⟩
theorem sc_neighbours : FnScope ["tree", "house"] ["tree", "house"] (defScope st_neighbours) := ⟨rfl, rfl, rfl, by decide +kernel, rfl, by decide +kernel, by decide +kernel⟩
theorem sc_way : FnScope ["tree", "a", "b"] ["tree", "a", "b"] (defScope st_way) := ⟨rfl, rfl, rfl, by decide +kernel, rfl, by decide +kernel, by decide +kernel⟩
theorem sc_numbers_in : FnScope ["word", "part"] ["word"] (defScope st_numbers_in) := ⟨rfl, rfl, rfl, by decide +kernel, rfl, by decide +kernel, by decide +kernel⟩
theorem sc_read_tree : FnScope ["line", "first", "words", "houses", "roads", "word"] ["line"] (defScope st_read_tree) := ⟨rfl, rfl, rfl, by decide +kernel, rfl, by decide +kernel, by decide +kernel⟩
theorem sc__law_cell : FnScope ["_law_script", "_law_k"] ["_law_script", "_law_k"] (defScope st__law_cell) := ⟨rfl, rfl, rfl, by decide +kernel, rfl, by decide +kernel, by decide +kernel⟩
theorem sc__law_box : FnScope ["_law_great"] ["_law_great"] (defScope st__law_box) := ⟨rfl, rfl, rfl, by decide +kernel, rfl, by decide +kernel, by decide +kernel⟩
theorem sc__law_take : FnScope ["_law_box_here", "_law_many", "_law_digit", "_law_mixed_here"] ["_law_box_here", "_law_many"] (defScope st__law_take) := ⟨rfl, rfl, rfl, by decide +kernel, rfl, by decide +kernel, by decide +kernel⟩
theorem sc__law_mixed : FnScope ["_law_box_here", "_law_items", "_law_left", "_law_found"] ["_law_box_here", "_law_items"] (defScope st__law_mixed) := ⟨rfl, rfl, rfl, by decide +kernel, rfl, by decide +kernel, by decide +kernel⟩
theorem sc__law_world : FnScope ["_law_box_here", "_law_which", "_law_kind", "_law_many", "_law_names", "_law_pairs", "_law_k", "_law_back"] ["_law_box_here"] (defScope st__law_world) := ⟨rfl, rfl, rfl, by decide +kernel, rfl, by decide +kernel, by decide +kernel⟩
theorem sc__law_written : FnScope ["_law_many", "_law_pairs", "_law_one", "_law_other"] ["_law_many", "_law_pairs"] (defScope st__law_written) := ⟨rfl, rfl, rfl, by decide +kernel, rfl, by decide +kernel, by decide +kernel⟩
theorem sc__law_joined : FnScope ["_law_many", "_law_pairs", "_law_reached", "_law_front", "_law_turn", "_law_spot", "_law_pair", "_law_near", "_law_far"] ["_law_many", "_law_pairs"] (defScope st__law_joined) := ⟨rfl, rfl, rfl, by decide +kernel, rfl, by decide +kernel, by decide +kernel⟩
theorem sc__law_number : FnScope ["_law_word", "_law_sign_here"] ["_law_word"] (defScope st__law_number) := ⟨rfl, rfl, rfl, by decide +kernel, rfl, by decide +kernel, by decide +kernel⟩
theorem sc__law_tree_of : FnScope ["_law_text", "_law_words", "_law_pairs", "_law_many", "_law_word", "_law_parts", "_law_pair"] ["_law_text"] (defScope st__law_tree_of) := ⟨rfl, rfl, rfl, by decide +kernel, rfl, by decide +kernel, by decide +kernel⟩
theorem sc__law_sign : FnScope ["_law_box_here", "_law_signs"] ["_law_box_here"] (defScope st__law_sign) := ⟨rfl, rfl, rfl, by decide +kernel, rfl, by decide +kernel, by decide +kernel⟩
theorem sc__law_moved : FnScope ["_law_box_here", "_law_world_here", "_law_many", "_law_pairs", "_law_at", "_law_spot"] ["_law_box_here", "_law_world_here"] (defScope st__law_moved) := ⟨rfl, rfl, rfl, by decide +kernel, rfl, by decide +kernel, by decide +kernel⟩
theorem sc__law_loose : FnScope ["_law_box_here", "_law_many", "_law_pairs", "_law_turn", "_law_spots"] ["_law_box_here"] (defScope st__law_loose) := ⟨rfl, rfl, rfl, by decide +kernel, rfl, by decide +kernel, by decide +kernel⟩
theorem sc__law_changed : FnScope ["_law_box_here", "_law_world_here", "_law_text", "_law_which", "_law_at", "_law_words", "_law_one", "_law_other", "_law_kept"] ["_law_box_here", "_law_world_here", "_law_text"] (defScope st__law_changed) := ⟨rfl, rfl, rfl, by decide +kernel, rfl, by decide +kernel, by decide +kernel⟩
theorem sc__law_read : FnScope ["_law_text", "_law_kind", "e"] ["_law_text", "_law_kind"] (defScope st__law_read) := ⟨rfl, rfl, rfl, by decide +kernel, rfl, by decide +kernel, by decide +kernel⟩
theorem sc__law_used_right : FnScope ["_law_web", "_law_many", "_law_pairs", "_law_spot", "_law_near", "_law_row", "_law_steps", "_law_k", "_law_pair", "_law_one", "_law_other"] ["_law_web", "_law_many", "_law_pairs"] (defScope st__law_used_right) := ⟨rfl, rfl, rfl, by decide +kernel, rfl, by decide +kernel, by decide +kernel⟩
theorem sc__law_read_right : FnScope ["_law_text", "_law_kind", "_law_told", "_law_due", "_law_web"] ["_law_text", "_law_kind"] (defScope st__law_read_right) := ⟨rfl, rfl, rfl, by decide +kernel, rfl, by decide +kernel, by decide +kernel⟩
theorem sc__law_none_right : FnScope ["_law_kind", "_law_value", "_law_told", "_law_odd", "_law_text"] [] (defScope st__law_none_right) := ⟨rfl, rfl, rfl, by decide +kernel, rfl, by decide +kernel, by decide +kernel⟩
theorem sc_law : FnScope ["_law_script", "_law_k", "_law_box_here", "_law_worlds", "_law_webs", "_law_texts", "_law_kept", "_law_turn", "_law_again", "_law_odd", "_law_world_here", "_law_web"] ["_law_script"] (defScope st_law) := ⟨rfl, rfl, rfl, by decide +kernel, rfl, by decide +kernel, by decide +kernel⟩
section
variable {K : PySem.W.Frag} {mg : Str → Option Value} {P : Program} {w : World} {base : Heap}
theorem ok_InvalidHouses___init__ (T : Tx K mg) : ∃ fd, FunD K "__init__" "InvalidHouses.__init__" (defArgs st_InvalidHouses___init__) (defBody st_InvalidHouses___init__) (defScope st_InvalidHouses___init__) [] [] (He.ma K (He.ga K "InvalidHouses") "__init__") fd ∧ FnOk P w K mg base CX0 1 (He.ma K (He.ga K "InvalidHouses") "__init__") fd ["self", "given"] (spE1 (He.ga K "InvalidHouses") "given") := by
  obtain ⟨fd, F⟩ := fD_InvalidHouses___init__ T
  refine ⟨fd, F, F.ok sc_InvalidHouses___init__ (fun vs H Q E h => ?_) (fun cdv A outer s H vs Q E hr h => ?_)⟩
  · obtain ⟨a, v, rfl, _⟩ := h; rfl
  · obtain ⟨a, v, rfl, ha, q⟩ := h
    refine ⟨_, pss_cons (ps_expr (pe_parinit T.par rfl (pa_cons (pv 0) (pa_cons pe_str pa_nil)))) (pss_one (ps_ost (pv 0) (pv 1))), ?_⟩
    refine ⟨_, rfl, _, _, [.str _], rfl, by simp, (T.err 0 rfl).ox, ha, ?_⟩
    exact ⟨_, rfl, _, rfl, a, _, rfl, (T.err 0 rfl).ox, (T.err 0 rfl).no _ (by simp), .inl ⟨ha, fun d hd hne => q d hd hne⟩⟩
theorem pmk_InvalidHouses {X : Cx} {k : Nat} {e : Expr} {es : List Expr} {ta : TA} {p pos : Pos} (T : Tx X.K X.mg) (hr : RG (k + 2) X.A) (hg : Gl X "InvalidHouses") (ha : PA X (e :: es) ta) (one : OneByOne X e es pos := by exact ⟨rfl, rfl⟩) :
    PMk X (.Call (.Name "InvalidHouses" p) (e :: es) [] pos) (tErr1 (He.ga X.K "InvalidHouses") "given" ta) := by
  obtain ⟨fd, F, G⟩ := ok_InvalidHouses___init__ (P := X.prog) (w := X.w) (base := X.base) T
  exact pmk_err1 ⟨T.glo 1 rfl, (T.err 0 rfl).ox, (T.err 0 rfl).xf⟩ (T.err 0 rfl).iC (T.err 0 rfl).tI G (hr.mono (by omega)) (F.bindsN fun _ _ _ _ _ _ us hl => match us, hl with | [_, _], _ => rfl) hg ha (by decide) one
theorem ok_InvalidRoads___init__ (T : Tx K mg) : ∃ fd, FunD K "__init__" "InvalidRoads.__init__" (defArgs st_InvalidRoads___init__) (defBody st_InvalidRoads___init__) (defScope st_InvalidRoads___init__) [] [] (He.ma K (He.ga K "InvalidRoads") "__init__") fd ∧ FnOk P w K mg base CX0 1 (He.ma K (He.ga K "InvalidRoads") "__init__") fd ["self", "given"] (spE1 (He.ga K "InvalidRoads") "given") := by
  obtain ⟨fd, F⟩ := fD_InvalidRoads___init__ T
  refine ⟨fd, F, F.ok sc_InvalidRoads___init__ (fun vs H Q E h => ?_) (fun cdv A outer s H vs Q E hr h => ?_)⟩
  · obtain ⟨a, v, rfl, _⟩ := h; rfl
  · obtain ⟨a, v, rfl, ha, q⟩ := h
    refine ⟨_, pss_cons (ps_expr (pe_parinit T.par rfl (pa_cons (pv 0) (pa_cons pe_str pa_nil)))) (pss_one (ps_ost (pv 0) (pv 1))), ?_⟩
    refine ⟨_, rfl, _, _, [.str _], rfl, by simp, (T.err 1 rfl).ox, ha, ?_⟩
    exact ⟨_, rfl, _, rfl, a, _, rfl, (T.err 1 rfl).ox, (T.err 1 rfl).no _ (by simp), .inl ⟨ha, fun d hd hne => q d hd hne⟩⟩
theorem pmk_InvalidRoads {X : Cx} {k : Nat} {e : Expr} {es : List Expr} {ta : TA} {p pos : Pos} (T : Tx X.K X.mg) (hr : RG (k + 2) X.A) (hg : Gl X "InvalidRoads") (ha : PA X (e :: es) ta) (one : OneByOne X e es pos := by exact ⟨rfl, rfl⟩) :
    PMk X (.Call (.Name "InvalidRoads" p) (e :: es) [] pos) (tErr1 (He.ga X.K "InvalidRoads") "given" ta) := by
  obtain ⟨fd, F, G⟩ := ok_InvalidRoads___init__ (P := X.prog) (w := X.w) (base := X.base) T
  exact pmk_err1 ⟨T.glo 2 rfl, (T.err 1 rfl).ox, (T.err 1 rfl).xf⟩ (T.err 1 rfl).iC (T.err 1 rfl).tI G (hr.mono (by omega)) (F.bindsN fun _ _ _ _ _ _ us hl => match us, hl with | [_, _], _ => rfl) hg ha (by decide) one
theorem ok_InvalidHouse___init__ (T : Tx K mg) : ∃ fd, FunD K "__init__" "InvalidHouse.__init__" (defArgs st_InvalidHouse___init__) (defBody st_InvalidHouse___init__) (defScope st_InvalidHouse___init__) [] [] (He.ma K (He.ga K "InvalidHouse") "__init__") fd ∧ FnOk P w K mg base CX0 1 (He.ma K (He.ga K "InvalidHouse") "__init__") fd ["self", "given"] (spE1 (He.ga K "InvalidHouse") "given") := by
  obtain ⟨fd, F⟩ := fD_InvalidHouse___init__ T
  refine ⟨fd, F, F.ok sc_InvalidHouse___init__ (fun vs H Q E h => ?_) (fun cdv A outer s H vs Q E hr h => ?_)⟩
  · obtain ⟨a, v, rfl, _⟩ := h; rfl
  · obtain ⟨a, v, rfl, ha, q⟩ := h
    refine ⟨_, pss_cons (ps_expr (pe_parinit T.par rfl (pa_cons (pv 0) (pa_cons pe_str pa_nil)))) (pss_one (ps_ost (pv 0) (pv 1))), ?_⟩
    refine ⟨_, rfl, _, _, [.str _], rfl, by simp, (T.err 2 rfl).ox, ha, ?_⟩
    exact ⟨_, rfl, _, rfl, a, _, rfl, (T.err 2 rfl).ox, (T.err 2 rfl).no _ (by simp), .inl ⟨ha, fun d hd hne => q d hd hne⟩⟩
theorem pmk_InvalidHouse {X : Cx} {k : Nat} {e : Expr} {es : List Expr} {ta : TA} {p pos : Pos} (T : Tx X.K X.mg) (hr : RG (k + 2) X.A) (hg : Gl X "InvalidHouse") (ha : PA X (e :: es) ta) (one : OneByOne X e es pos := by exact ⟨rfl, rfl⟩) :
    PMk X (.Call (.Name "InvalidHouse" p) (e :: es) [] pos) (tErr1 (He.ga X.K "InvalidHouse") "given" ta) := by
  obtain ⟨fd, F, G⟩ := ok_InvalidHouse___init__ (P := X.prog) (w := X.w) (base := X.base) T
  exact pmk_err1 ⟨T.glo 3 rfl, (T.err 2 rfl).ox, (T.err 2 rfl).xf⟩ (T.err 2 rfl).iC (T.err 2 rfl).tI G (hr.mono (by omega)) (F.bindsN fun _ _ _ _ _ _ us hl => match us, hl with | [_, _], _ => rfl) hg ha (by decide) one
theorem ok_InvalidLine___init__ (T : Tx K mg) : ∃ fd, FunD K "__init__" "InvalidLine.__init__" (defArgs st_InvalidLine___init__) (defBody st_InvalidLine___init__) (defScope st_InvalidLine___init__) [] [] (He.ma K (He.ga K "InvalidLine") "__init__") fd ∧ FnOk P w K mg base CX0 1 (He.ma K (He.ga K "InvalidLine") "__init__") fd ["self", "given"] (spE1 (He.ga K "InvalidLine") "given") := by
  obtain ⟨fd, F⟩ := fD_InvalidLine___init__ T
  refine ⟨fd, F, F.ok sc_InvalidLine___init__ (fun vs H Q E h => ?_) (fun cdv A outer s H vs Q E hr h => ?_)⟩
  · obtain ⟨a, v, rfl, _⟩ := h; rfl
  · obtain ⟨a, v, rfl, ha, q⟩ := h
    refine ⟨_, pss_cons (ps_expr (pe_parinit T.par rfl (pa_cons (pv 0) (pa_cons pe_str pa_nil)))) (pss_one (ps_ost (pv 0) (pv 1))), ?_⟩
    refine ⟨_, rfl, _, _, [.str _], rfl, by simp, (T.err 3 rfl).ox, ha, ?_⟩
    exact ⟨_, rfl, _, rfl, a, _, rfl, (T.err 3 rfl).ox, (T.err 3 rfl).no _ (by simp), .inl ⟨ha, fun d hd hne => q d hd hne⟩⟩
theorem pmk_InvalidLine {X : Cx} {k : Nat} {e : Expr} {es : List Expr} {ta : TA} {p pos : Pos} (T : Tx X.K X.mg) (hr : RG (k + 2) X.A) (hg : Gl X "InvalidLine") (ha : PA X (e :: es) ta) (one : OneByOne X e es pos := by exact ⟨rfl, rfl⟩) :
    PMk X (.Call (.Name "InvalidLine" p) (e :: es) [] pos) (tErr1 (He.ga X.K "InvalidLine") "given" ta) := by
  obtain ⟨fd, F, G⟩ := ok_InvalidLine___init__ (P := X.prog) (w := X.w) (base := X.base) T
  exact pmk_err1 ⟨T.glo 4 rfl, (T.err 3 rfl).ox, (T.err 3 rfl).xf⟩ (T.err 3 rfl).iC (T.err 3 rfl).tI G (hr.mono (by omega)) (F.bindsN fun _ _ _ _ _ _ us hl => match us, hl with | [_, _], _ => rfl) hg ha (by decide) one
theorem ok_NotJoined___init__ (T : Tx K mg) : ∃ fd, FunD K "__init__" "NotJoined.__init__" (defArgs st_NotJoined___init__) (defBody st_NotJoined___init__) (defScope st_NotJoined___init__) [] [] (He.ma K (He.ga K "NotJoined") "__init__") fd ∧ FnOk P w K mg base CX0 1 (He.ma K (He.ga K "NotJoined") "__init__") fd ["self", "house"] (spE1 (He.ga K "NotJoined") "house") := by
  obtain ⟨fd, F⟩ := fD_NotJoined___init__ T
  refine ⟨fd, F, F.ok sc_NotJoined___init__ (fun vs H Q E h => ?_) (fun cdv A outer s H vs Q E hr h => ?_)⟩
  · obtain ⟨a, v, rfl, _⟩ := h; rfl
  · obtain ⟨a, v, rfl, ha, q⟩ := h
    refine ⟨_, pss_cons (ps_expr (pe_parinit T.par rfl (pa_cons (pv 0) (pa_cons pe_str pa_nil)))) (pss_one (ps_ost (pv 0) (pv 1))), ?_⟩
    refine ⟨_, rfl, _, _, [.str _], rfl, by simp, (T.err 4 rfl).ox, ha, ?_⟩
    exact ⟨_, rfl, _, rfl, a, _, rfl, (T.err 4 rfl).ox, (T.err 4 rfl).no _ (by simp), .inl ⟨ha, fun d hd hne => q d hd hne⟩⟩
theorem pmk_NotJoined {X : Cx} {k : Nat} {e : Expr} {es : List Expr} {ta : TA} {p pos : Pos} (T : Tx X.K X.mg) (hr : RG (k + 2) X.A) (hg : Gl X "NotJoined") (ha : PA X (e :: es) ta) (one : OneByOne X e es pos := by exact ⟨rfl, rfl⟩) :
    PMk X (.Call (.Name "NotJoined" p) (e :: es) [] pos) (tErr1 (He.ga X.K "NotJoined") "house" ta) := by
  obtain ⟨fd, F, G⟩ := ok_NotJoined___init__ (P := X.prog) (w := X.w) (base := X.base) T
  exact pmk_err1 ⟨T.glo 5 rfl, (T.err 4 rfl).ox, (T.err 4 rfl).xf⟩ (T.err 4 rfl).iC (T.err 4 rfl).tI G (hr.mono (by omega)) (F.bindsN fun _ _ _ _ _ _ us hl => match us, hl with | [_, _], _ => rfl) hg ha (by decide) one
end
end T1

namespace T1
open PySem PySem.Spec PyProof.Rows L2 G
open Evl (Ex)
local macro_rules | `(tactic| walk_at "dd") => `(tactic| (dsimp only [tCB, tCons, tNil, tC, tOp, tUn, tTest, tB, tVar, tAndV, tOrV, tNotV, tIf, tAnd, tOr, tNot, tSeq, tRet, tRetN, tIfS, tAsg, gName, tDrop, tTup, tLst, tChain, tNext, tCall, L2.start]))
section
variable {K : PySem.W.Frag} {H : Hp} {v : V} {d : PyData} {Q : VK}
theorem isi_int (h : Dq K H v d) (q : Q (.bl (isT "int" d)) H) : rIsi K [v, .ty "int"] H Q := rIsi_of h rfl q (.inl rfl)
theorem isi_bool (h : Dq K H v d) (q : Q (.bl (isT "bool" d)) H) : rIsi K [v, .ty "bool"] H Q := rIsi_of h rfl q (.inr (.inl rfl))
theorem isi_tup (h : Dq K H v d) (q : Q (.bl (isT "tuple" d)) H) : rIsi K [v, .ty "tuple"] H Q := rIsi_of h rfl q (.inr (.inr (.inl rfl)))
theorem isi_list (h : Dq K H v d) (q : Q (.bl (isT "list" d)) H) : rIsi K [v, .ty "list"] H Q := rIsi_of h rfl q (.inr (.inr (.inr (.inl rfl))))
theorem isi_str (h : Dq K H v d) (q : Q (.bl (isT "str" d)) H) : rIsi K [v, .ty "str"] H Q := rIsi_of h rfl q (.inr (.inr (.inr (.inr rfl))))
/-- isinstance(x, (list, tuple)) -/
theorem isi_seq {p : Addr} (h : Dq K H v d) (hp : H p = some (.tup [.ty "list", .ty "tuple"])) (q : Q (.bl (isT "list" d || isT "tuple" d)) H) : rIsiT K [v, .ref p] H Q := by
  refine ⟨v, p, [.ty "list", .ty "tuple"], _, [.type "list", .type "tuple"], _, rfl, hp, .cons (.ty _) (.cons (.ty _) .nil), h.ty, ?_, q⟩
  have a := kit_is (K := K) (d := d) (T := "list") (.inr (.inr (.inr (.inl rfl))))
  have b := kit_is (K := K) (d := d) (T := "tuple") (.inr (.inr (.inl rfl)))
  unfold PySem.W.kitAny
  rw [a]
  cases e : isT "list" d with
  | true => rfl
  | false =>
    show PySem.W.kitAny K _ _ = _
    unfold PySem.W.kitAny
    rw [b]
    cases e2 : isT "tuple" d <;> rfl
end
/-- integers of data -/
def isInt : PyData → Bool
  | .int _ => true
  | _ => false
def isIdx (d : PyData) (m : Int) : Bool := match d with
  | .int i => decide (0 ≤ i) && decide (i < m)
  | _ => false
theorem isInt_eq (d : PyData) : (isT "int" d && !isT "bool" d) = isInt d := by cases d <;> rfl
def isSeq : PyData → Bool
  | .list _ => true
  | .tuple _ => true
  | _ => false
def items : PyData → List PyData
  | .list ds => ds
  | .tuple ds => ds
  | _ => []
def sp_is_integer (K : PySem.W.Frag) : Sp := sp1 fun a H Q E => ∃ d, Dq K H a d ∧ Q (.bl (isInt d)) H
section
variable {K : PySem.W.Frag} {mg : Str → Option Value} {P : Program} {w : World} {base : Heap}
theorem ok_is_integer (T : Tx K mg) : Cal P w K mg base CX0 1 "is_integer" ["value"] (sp_is_integer K) := by
  refine cal_of (fD_is_integer T) (T.glo 7 rfl) sc_is_integer (fun _ _ _ _ _ _ us hl => match us, hl with | [_], _ => rfl) (fun vs H Q E h => len1 h) (fun f cdv A outer s H vs Q E hr h => ?_)
  obtain ⟨a, rfl, h⟩ := h
  refine ⟨_, (PSs.nox (pss_one (ps_ret (pe_and (pe_callB (call_isiK' (K := K)) (by rfl) (T.free 5 rfl) (by decide +kernel) (pa_cons (pv 0) (pa_cons (pe_bltn (v := .ty "int") (u := .type "int") (by rfl) (T.free 4 rfl) (by decide +kernel) rfl) pa_nil))) (pe_one (pe_not (pe_callB (call_isiK' (K := K)) (by rfl) (T.free 5 rfl) (by decide +kernel) (pa_cons (pv 0) (pa_cons (pe_bltn (v := .ty "bool") (u := .type "bool") (by rfl) (T.free 3 rfl) (by decide +kernel) rfl) pa_nil))))))))), ?_⟩
  obtain ⟨d, hd, q⟩ := h
  refine ⟨_, rfl, ?_⟩
  walk_at "dd"
  refine isi_int hd ?_
  refine ⟨_, rfl, ?_⟩
  rw [← isInt_eq] at q
  cases e : isT "int" d with
  | false => rw [e] at q; exact q
  | true =>
    rw [e] at q
    refine ⟨_, rfl, ?_⟩
    refine isi_bool hd ?_
    exact ⟨_, rfl, q⟩
end
def sp_is_index (K : PySem.W.Frag) : Sp := sp2 fun a b H Q E => ∃ d m, Dq K H a d ∧ b = .int m ∧ Q (.bl (isIdx d m)) H
section
variable {K : PySem.W.Frag} {mg : Str → Option Value} {P : Program} {w : World} {base : Heap}
theorem ok_is_index (T : Tx K mg) : Cal P w K mg base CX0 2 "is_index" ["value", "many"] (sp_is_index K) := by
  refine cal_of (fD_is_index T) (T.glo 8 rfl) sc_is_index (fun _ _ _ _ _ _ us hl => match us, hl with | [_, _], _ => rfl) (fun vs H Q E h => len2 h) (fun f cdv A outer s H vs Q E hr h => ?_)
  obtain ⟨a, b, rfl, h⟩ := h
  refine ⟨_, (PSs.nox (pss_one (ps_ret (pe_and (pe_c (ok_is_integer T) (hr.mono (by decide)) rfl pass0 (pa_cons (pv 0) pa_nil)) (pe_one (pe_chain op_le op_lt pe_int (pv 0) (pv 1))))))), ?_⟩
  obtain ⟨d, m, hd, rfl, q⟩ := h
  refine ⟨_, rfl, ?_⟩
  refine ⟨_, rfl, d, hd, _, rfl, ?_⟩
  cases d with
  | int i =>
    cases hd
    refine ⟨_, rfl, 0, i, rfl, rfl, _, rfl, ?_⟩
    by_cases c : (0 : Int) ≤ i
    · rw [decide_eq_true c]
      refine ⟨_, rfl, _, _, rfl, rfl, ?_⟩
      simp only [isIdx, decide_eq_true c, Bool.true_and] at q
      exact q
    · rw [decide_eq_false c]
      simp only [isIdx, decide_eq_false c, Bool.false_and] at q
      exact q
  | _ => exact q
end
theorem isSeq_eq (d : PyData) : (isT "list" d || isT "tuple" d) = isSeq d := by cases d <;> rfl
def sp_is_list (K : PySem.W.Frag) : Sp := sp1 fun a H Q E => ∃ d, Dq K H a d ∧ ∀ H', Ex H H' → Q (.bl (isSeq d)) H'
section
variable {K : PySem.W.Frag} {mg : Str → Option Value} {P : Program} {w : World} {base : Heap}
theorem ok_is_list (T : Tx K mg) : Cal P w K mg base CX0 1 "is_list" ["value"] (sp_is_list K) := by
  refine cal_of (fD_is_list T) (T.glo 9 rfl) sc_is_list (fun _ _ _ _ _ _ us hl => match us, hl with | [_], _ => rfl) (fun vs H Q E h => len1 h) (fun f cdv A outer s H vs Q E hr h => ?_)
  obtain ⟨a, rfl, h⟩ := h
  refine ⟨_, (PSs.nox (pss_one (ps_ret (pe_callB (call_isiTK (K := K)) (by rfl) (T.free 5 rfl) (by decide +kernel) (pa_cons (pv 0) (pa_cons (pe_tup (pa_cons (pe_bltn (v := .ty "list") (u := .type "list") (by rfl) (T.free 7 rfl) (by decide +kernel) rfl) (pa_cons (pe_bltn (v := .ty "tuple") (u := .type "tuple") (by rfl) (T.free 15 rfl) (by decide +kernel) rfl) pa_nil))) pa_nil)))))), ?_⟩
  obtain ⟨d, hd, q⟩ := h
  refine ⟨_, rfl, (by show 2 ≤ sizeLine; decide), fun p hp => ?_⟩
  refine isi_seq (hd.mono (Evl.Ex.new hp)) upd_same ?_
  rw [isSeq_eq]
  exact q _ (Evl.Ex.new hp)
end
/-- data that is a list or a tuple, as it lies -/
theorem dq_seq {K : PySem.W.Frag} {H : Hp} {v : V} {d : PyData} (h : Dq K H v d) (hs : isSeq d = true) : ∃ a xs, v = .ref a ∧ (SqL K H a xs ∨ SqT K H a xs) ∧ Dqs K H xs (items d) := by
  cases h with
  | lst h g => exact ⟨_, _, rfl, .inl h, g⟩
  | tup h g => exact ⟨_, _, rfl, .inr h, g⟩
  | _ => cases hs
theorem dqs_nth {K : PySem.W.Frag} {H : Hp} {xs : List V} {ds : List PyData} (h : Dqs K H xs ds) {i : Nat} (hi : i < xs.length) : ∃ d, ds[i]? = some d ∧ Dq K H (G.nth xs i) d := h.get (nth_at hi)
def areIdx (d : PyData) (m : Int) : Bool := isSeq d && (items d).all (isIdx · m)
theorem all_nth {α : Type} (l : List α) (f : α → Bool) (b : Nat → Bool) (h : ∀ i x, l[i]? = some x → b i = f x) : ((List.range l.length).map b).all id = l.all f := by
  refine Bool.eq_iff_iff.mpr (List.all_eq_true.trans (Iff.trans ?_ List.all_eq_true.symm))
  simp only [List.mem_range, List.mem_map, id]
  constructor
  · intro z x hx
    have ⟨i, hi, ex⟩ := List.getElem_of_mem hx
    subst ex
    rw [← h i _ (List.getElem?_eq_getElem hi)]
    exact z _ ⟨i, hi, rfl⟩
  · rintro z _ ⟨i, hi, rfl⟩
    rw [h i _ (List.getElem?_eq_getElem hi)]
    exact z _ (List.getElem_mem hi)
theorem line_big {n : Nat} (h : n ≤ 100000) : n < sizeLine := by rw [sizeLine_eq]; omega

end T1

namespace T1
open PySem PySem.Spec PyProof.Rows L2 G
open Evl (Ex)
local macro_rules | `(tactic| walk_at "dd") => `(tactic| (dsimp only [tCB, tCons, tNil, tC, tOp, tUn, tTest, tB, tVar, tAndV, tOrV, tNotV, tIf, tAnd, tOr, tNot, tSeq, tRet, tRetN, tIfS, tAsg, gName, tDrop, tTup, tLst, tChain, tNext, tCall, L2.start]))
def isRd (d : PyData) (m : Int) : Bool := match d with
  | .tuple [.int u, .int v] => (decide (0 ≤ u) && decide (u < m)) && ((decide (0 ≤ v) && decide (v < m)) && decide (u < v))
  | _ => false
theorem isRd_eq (a b : PyData) (m : Int) : isRd (.tuple [a, b]) m = (isIdx a m && (isIdx b m && match a, b with | .int u, .int v => decide (u < v) | _, _ => false)) := by
  cases a <;> cases b <;> simp [isRd, isIdx]
theorem isIdx_int {d : PyData} {m : Int} (h : isIdx d m = true) : ∃ i, d = .int i ∧ 0 ≤ i ∧ i < m := by
  cases d <;> simp [isIdx] at h
  exact ⟨_, rfl, h.1, h.2⟩
def sp_is_road (K : PySem.W.Frag) : Sp := sp2 fun a b H Q E => ∃ d m, Dq K H a d ∧ b = .int m ∧ (items d).length ≤ 100000 ∧ Q (.bl (isRd d m)) H
section
variable {K : PySem.W.Frag} {mg : Str → Option Value} {P : Program} {w : World} {base : Heap}
theorem ok_is_road (T : Tx K mg) : Cal P w K mg base CX0 3 "is_road" ["value", "houses"] (sp_is_road K) := by
  refine cal_of (fD_is_road T) (T.glo 11 rfl) sc_is_road (fun _ _ _ _ _ _ us hl => match us, hl with | [_, _], _ => rfl) (fun vs H Q E h => len2 h) (fun f cdv A outer s H vs Q E hr h => ?_)
  obtain ⟨a, b, rfl, h⟩ := h
  refine ⟨_, (PSs.nox (pss_cons (ps_if (PW.pt (pw_or (pt_not (pt_val (pe_callB (call_isiK' (K := K)) (by rfl) (T.free 5 rfl) (by decide +kernel) (pa_cons (pv 0) (pa_cons (pe_bltn (v := .ty "tuple") (u := .type "tuple") (by rfl) (T.free 15 rfl) (by decide +kernel) rfl) pa_nil))))) (pw_or1 (pt_cmpR op_ne (pe_callB (call_lenK (K := K)) (by rfl) (T.free 6 rfl) (by decide +kernel) (pa_cons (pv 0) pa_nil)) pe_int (nomark _))))) (pss_one (ps_ret pe_bl)) pss_nil)
      (pss_cons (ps_asg (pv 0) (pg_tup (n := 2) rfl (pgs_cons (pg_name (i := 2) sc_is_road.nd rfl (Or.inl rfl)) (pgs_cons (pg_name (i := 3) sc_is_road.nd rfl (Or.inl rfl)) pgs_nil))))
      (pss_one (ps_ret (pe_and (pe_c (ok_is_index T) (hr.mono (by decide)) rfl pass0 (pa_cons (pv 2) (pa_cons (pv 1) pa_nil))) (pe_and (pe_c (ok_is_index T) (hr.mono (by decide)) rfl pass0 (pa_cons (pv 3) (pa_cons (pv 1) pa_nil))) (pe_one (pe_cmpR op_lt (pv 2) (pv 3) (nomark _)))))))))), ?_⟩
  obtain ⟨d, m, hd, rfl, hl, q⟩ := h
  refine ⟨_, rfl, ?_⟩
  walk_at "dd"
  refine isi_tup hd ?_
  refine ⟨_, rfl, ?_⟩
  by_cases et : isT "tuple" d = true
  · obtain ⟨ds, rfl⟩ : ∃ ds, d = .tuple ds := by cases d <;> first | exact ⟨_, rfl⟩ | cases et
    rw [et]
    cases hd with
    | @tup p xs _ hx hds =>
    refine ⟨_, rfl, p, xs, rfl, .inr hx, rfl, _, rfl, ?_⟩
    have hn := hds.length
    by_cases c : ds.length = 2
    · rw [decide_eq_true (show V.int (xs.length : Int) = V.int 2 by rw [hn, c]; rfl)]
      obtain ⟨x, y, rfl⟩ : ∃ x y, ds = [x, y] := by
        match ds, c with
        | [x, y], _ => exact ⟨x, y, rfl⟩
      cases hds with
      | cons h1 h2 =>
      cases h2 with
      | cons h2 h3 =>
      cases h3
      rename_i v1 v2
      refine ⟨_, rfl, p, _, rfl, hx, rfl, _, _, rfl, _, _, rfl, rfl, ?_⟩
      rw [isRd_eq] at q
      refine ⟨_, rfl, _, rfl, _, _, rfl, x, m, h1, rfl, _, rfl, ?_⟩
      cases e1 : isIdx x m with
      | false => rw [e1, Bool.false_and] at q; exact q
      | true =>
        rw [e1, Bool.true_and] at q
        refine ⟨_, rfl, _, rfl, _, _, rfl, y, m, h2, rfl, _, rfl, ?_⟩
        cases e2 : isIdx y m with
        | false => rw [e2, Bool.false_and] at q; exact q
        | true =>
          rw [e2, Bool.true_and] at q
          obtain ⟨i, rfl, _⟩ := isIdx_int e1
          obtain ⟨j, rfl, _⟩ := isIdx_int e2
          cases h1; cases h2
          exact ⟨_, rfl, _, rfl, _, _, rfl, rfl, q⟩
    · rw [decide_eq_false (show ¬ V.int (xs.length : Int) = V.int 2 from fun z => c (by have := V.int.inj z; omega))]
      have : isRd (.tuple ds) m = false := by
        unfold isRd; split
        · rename_i u v e; cases e; exact absurd rfl c
        · rfl
      rw [this] at q
      exact q
  · rw [Bool.not_eq_true] at et
    rw [et]
    have : isRd d m = false := by unfold isRd; cases d <;> first | rfl | cases et
    rw [this] at q
    exact q
end
def rd : PyData → Int × Int
  | .tuple [.int u, .int v] => (u, v)
  | _ => (0, 0)
def ltR (p q : Int × Int) : Bool := decide (p.1 < q.1) || (decide (p.1 = q.1) && decide (p.2 < q.2))
theorem lex_ltR (a b c d : Int) : HT.lexLt [a, b] [c, d] = ltR (a, b) (c, d) := by
  rw [HT.lexLt_cons, HT.lexLt_cons, HT.lexLt_nil_nil]
  unfold ltR
  by_cases h : a = c
  · subst h; rw [if_pos rfl]
    by_cases h2 : b = d
    · subst h2; simp
    · rw [if_neg h2]; simp
  · rw [if_neg h]; simp [h]
/-- ascending, neighbour by neighbour -/
def asc (l : List (Int × Int)) : Bool := ((List.range (l.length - 1)).map fun i => ltR (l[i]?.getD (0, 0)) (l[i + 1]?.getD (0, 0))).all id
def areRds (d : PyData) (m : Int) : Bool := isSeq d && (decide (((items d).length : Int) = m - 1) && ((items d).all (isRd · m) && asc ((items d).map rd)))
theorem isRd_of {d : PyData} {m : Int} (h : isRd d m = true) : ∃ u v, d = .tuple [.int u, .int v] ∧ 0 ≤ u ∧ u < m ∧ 0 ≤ v ∧ v < m ∧ u < v := by
  unfold isRd at h
  split at h
  · simp at h; exact ⟨_, _, rfl, by omega, by omega, by omega, by omega, by omega⟩
  · cases h
theorem ix_seq_at {K : PySem.W.Frag} {H : Hp} {a : Addr} {xs : List V} {i : Nat} {v : V} {Q : VK} (h : SqL K H a xs ∨ SqT K H a xs) (hv : xs[i]? = some v) (q : Q v H) : rIx K (.ref a) (.int (i : Int)) H Q := by
  rcases h with h | h
  · exact .inl ⟨a, xs, _, v, rfl, rfl, h, atI_nat hv, q⟩
  · exact .inr (.inl ⟨a, xs, _, v, rfl, rfl, h, atI_nat hv, q⟩)
theorem pair_at {K : PySem.W.Frag} {H : Hp} {v : V} {i j : Int} (h : Dq K H v (.tuple [.int i, .int j])) : ∃ t, v = .ref t ∧ SqT K H t [.int i, .int j] := by
  cases h with
  | tup h hs =>
    cases hs with
    | cons a hs => cases hs with
      | cons b hs => cases a; cases b; cases hs; exact ⟨_, rfl, h⟩
def sp_are_roads (K : PySem.W.Frag) : Sp := sp2 fun a b H Q E => ∃ d m, Dq K H a d ∧ b = .int m ∧ (items d).length ≤ 100000 ∧ (∀ x ∈ items d, (items x).length ≤ 100000) ∧ ∀ H', Ex H H' → Q (.bl (areRds d m)) H'
section
variable {K : PySem.W.Frag} {mg : Str → Option Value} {P : Program} {w : World} {base : Heap}
theorem ok_are_roads (T : Tx K mg) : Cal P w K mg base CX0 4 "are_roads" ["value", "houses"] (sp_are_roads K) := by
  refine cal_of (fD_are_roads T) (T.glo 12 rfl) sc_are_roads (fun _ _ _ _ _ _ us hl => match us, hl with | [_, _], _ => rfl) (fun vs H Q E h => len2 h) (fun f cdv A outer s H vs Q E hr h => ?_)
  obtain ⟨a, b, rfl, h⟩ := h
  refine ⟨_, (PSs.nox (pss_cons (ps_if (PW.pt (pw_or (pt_not (pt_val (pe_c (ok_is_list T) (hr.mono (by decide)) rfl pass0 (pa_cons (pv 0) pa_nil)))) (pw_or (pt_cmpR op_ne (pe_callB (call_lenK (K := K)) (by rfl) (T.free 6 rfl) (by decide +kernel) (pa_cons (pv 0) pa_nil)) (pe_op op_sub (pv 1) pe_int) (nomark _)) (pw_or1 (pt_not (pt_val (pe_callB (cr_allK (K := K) rfl) (by rfl) (T.free 2 rfl) (by decide +kernel) (pa_cons (pe_lc (own := [("road", 3)]) rfl sc_are_roads.nd (pi_seq (pv 0)) (blkOk_by (own := [("road", 3)]) (N := ["value", "houses", "at", "road"]) (sc := defScope st_are_roads) (by decide +kernel)) (fun _ _ _ _ _ => (pg_name (i := 3) sc_are_roads.nd rfl (Or.inl rfl))) (fun _ _ _ _ _ => pts_nil) (fun _ _ _ _ _ => (pe_c (ok_is_road T) (hr.mono (by decide)) rfl pass0 (pa_cons (pv 3) (pa_cons (pv 1) pa_nil))))) pa_nil)))))))) (pss_one (ps_ret pe_bl)) pss_nil)
      (pss_one (ps_ret (pe_callB (cr_allK (K := K) rfl) (by rfl) (T.free 2 rfl) (by decide +kernel) (pa_cons (pe_lc (own := [("at", 2)]) rfl sc_are_roads.nd (pi_range1 (by rfl) (T.free 10 rfl) (pa_cons (pe_op op_sub (pe_callB (call_lenK (K := K)) (by rfl) (T.free 6 rfl) (by decide +kernel) (pa_cons (pv 0) pa_nil)) pe_int) pa_nil)) (blkOk_by (own := [("at", 2)]) (N := ["value", "houses", "at", "road"]) (sc := defScope st_are_roads) (by decide +kernel)) (fun _ _ _ _ _ => (pg_name (i := 2) sc_are_roads.nd rfl (Or.inl rfl))) (fun _ _ _ _ _ => pts_nil) (fun _ _ _ _ _ => (pe_cmpR (op_ltTK (K := K) (hu0 hr.r)) (pe_ix (ix_seqK (K := K)) (pv 0) (pv 2) (fun _ _ => rfl)) (pe_ix (ix_seqK (K := K)) (pv 0) (pe_op op_add (pv 2) pe_int) (fun _ _ => rfl)) (nomark _)))) pa_nil)))))), ?_⟩
  obtain ⟨d, m, hd, rfl, hl, hl2, q⟩ := h
  refine ⟨_, rfl, _, rfl, d, hd, fun H1 e1 => ⟨_, rfl, ?_⟩⟩
  unfold areRds at q
  cases es : isSeq d with
  | false => rw [es] at q; exact q _ e1
  | true =>
  rw [es, Bool.true_and] at q
  obtain ⟨p, xs, rfl, hx, hds⟩ := dq_seq (hd.mono e1) es
  have hn := hds.length
  refine ⟨_, rfl, p, xs, rfl, hx, ?_⟩
  refine ⟨_, rfl, _, _, rfl, rfl, rfl, _, rfl, ?_⟩
  by_cases c : ¬ ((items d).length : Int) = m - 1
  · rw [decide_eq_false (show ¬ V.int (xs.length : Int) = V.int (m - 1) from fun z => c (by have := V.int.inj z; omega))]
    rw [decide_eq_false c, Bool.false_and] at q
    exact q _ e1
  replace c := Decidable.not_not.mp c
  rw [decide_eq_true (show V.int (xs.length : Int) = V.int (m - 1) by rw [hn, c])]
  rw [decide_eq_true c, Bool.true_and] at q
  refine iteF ?_
  walk_at "dd"
  refine lc_at (fun _ => true) (fun i D y H' => y = .bl (isRd ((items d)[i]?.getD .none) m)) (line_big (n := xs.length) (by omega)) (fun P q => l_seq rfl hx q) (fun _ _ _ _ _ _ h => h) (fun _ _ _ _ _ _ h => h) ?_ ?_
  · intro i D H2 hi hD e2 hacc Ny Nn hy _
    refine ⟨rfl, ?_⟩
    obtain ⟨di, h1, h2⟩ := dqs_nth hds hi
    refine ⟨_, rfl, _, rfl, _, _, rfl, di, m, h2.mono e2, rfl, hl2 _ (List.mem_of_getElem? h1), ?_⟩
    refine hy _ _ rfl (Evl.Ex.refl _) ?_
    rw [h1]; rfl
  · intro D ys H2 hD e2 hd2 f
    rw [range_all] at f
    have ey := F2.map_eq (f := fun i => V.bl (isRd ((items d)[i]?.getD .none) m)) f
    refine ⟨D, (List.range xs.length).map (fun i => isRd ((items d)[i]?.getD .none) m), rfl, SqL.of (by rw [hd2, ey, List.map_map]; rfl), ?_⟩
    rw [hn, all_nth (items d) (isRd · m) _ (fun i x hx => by rw [hx]; rfl)]
    refine ⟨_, rfl, ?_⟩
    cases ea : (items d).all (isRd · m) with
    | false => rw [ea] at q; exact q _ (e1.trans e2)
    | true =>
    rw [ea, Bool.true_and] at q
    have all := List.all_eq_true.mp ea
    have hx2 : SqL K H2 p xs ∨ SqT K H2 p xs := hx.imp (Evl.ex_l e2) (Evl.ex_t e2)
    refine iteF ?_
    refine lc_at (n := xs.length - 1) (item := fun i => .int (0 + i)) (fun _ => true) (fun i D y H' => y = .bl (ltR (rd ((items d)[i]?.getD .none)) (rd ((items d)[i + 1]?.getD .none)))) (line_big (n := xs.length - 1) (by omega)) (fun P q => ?_) (fun _ _ _ _ _ _ h => h) (fun _ _ _ _ _ _ h => h) ?_ ?_
    · refine ⟨_, rfl, p, xs, rfl, hx2, _, _, rfl, rfl, _, rfl, by omega, by omega, ?_⟩
      have e0 : ((xs.length : Int) - 1).toNat = xs.length - 1 := by omega
      rw [e0]
      exact q _ _ (Evl.Ex.refl _) (its_r 0 _)
    · intro i D' H3 hi hD' e3 hacc Ny Nn hy _
      refine ⟨rfl, ?_⟩
      obtain ⟨d1, a1, b1⟩ := dqs_nth hds (i := i) (by omega)
      obtain ⟨d2, a2, b2⟩ := dqs_nth hds (i := i + 1) (by omega)
      obtain ⟨u1, v1, rfl, _⟩ := isRd_of (all _ (List.mem_of_getElem? a1))
      obtain ⟨u2, v2, rfl, _⟩ := isRd_of (all _ (List.mem_of_getElem? a2))
      have e13 := e2.trans e3
      have hx3 : SqL K H3 p xs ∨ SqT K H3 p xs := hx.imp (Evl.ex_l e13) (Evl.ex_t e13)
      have ei : ((0 : Int) + (i : Int)) = ((i : Nat) : Int) := by omega
      have ei' : ((0 : Int) + (i : Int)) + 1 = ((i + 1 : Nat) : Int) := by omega
      refine ⟨_, rfl, _, rfl, ?_⟩
      show rIx K (.ref p) (.int ((0 : Int) + (i : Int))) H3 _
      rw [ei]
      refine ix_seq_at hx3 (nth_at (by omega)) ⟨_, rfl, _, rfl, _, _, rfl, rfl, ?_⟩
      show rIx K (.ref p) (.int ((i : Int) + 1)) H3 _
      rw [show ((i : Int) + 1) = ((i + 1 : Nat) : Int) by omega]
      refine ix_seq_at hx3 (nth_at (by omega)) ?_
      obtain ⟨t1, q1, s1⟩ := pair_at b1
      obtain ⟨t2, q2, s2⟩ := pair_at b2
      refine ⟨t1, t2, [u1, v1], [u2, v2], q1, q2, Evl.ex_t e13 s1, Evl.ex_t e13 s2, ?_⟩
      rw [lex_ltR]
      refine hy _ _ rfl (Evl.Ex.refl _) ?_
      rw [a1, a2]; rfl
    · intro D' ys H3 hD' e3 hd3 f
      rw [range_all] at f
      have ey := F2.map_eq (f := fun i => V.bl (ltR (rd ((items d)[i]?.getD .none)) (rd ((items d)[i + 1]?.getD .none)))) f
      refine ⟨D', (List.range (xs.length - 1)).map (fun i => ltR (rd ((items d)[i]?.getD .none)) (rd ((items d)[i + 1]?.getD .none))), rfl, SqL.of (by rw [hd3, ey, List.map_map]; rfl), ?_⟩
      have z := q _ ((e1.trans e2).trans e3)
      unfold asc at z
      rw [List.length_map, ← hn] at z
      have ef : (List.range (xs.length - 1)).map (fun i => ltR (rd ((items d)[i]?.getD .none)) (rd ((items d)[i + 1]?.getD .none))) = (List.range (xs.length - 1)).map (fun i => ltR (((items d).map rd)[i]?.getD (0, 0)) (((items d).map rd)[i + 1]?.getD (0, 0))) := by
        refine List.map_congr_left ?_
        intro i _
        have g : ∀ j, rd ((items d)[j]?.getD .none) = ((items d).map rd)[j]?.getD (0, 0) := fun j => by
          rw [List.getElem?_map]; cases (items d)[j]? <;> rfl
        rw [g, g]
      rw [ef]; exact z
end

end T1

namespace T1
open PySem PySem.Spec PyProof.Rows L2 G
open Evl (Ex)
local macro_rules | `(tactic| walk_at "dd") => `(tactic| (dsimp only [tCB, tCons, tNil, tC, tOp, tUn, tTest, tB, tVar, tAndV, tOrV, tNotV, tIf, tAnd, tOr, tNot, tSeq, tRet, tRetN, tIfS, tAsg, gName, tDrop, tTup, tLst, tChain, tNext, tCall, L2.start]))
/-- the roads of a list as pairs of naturals -/
def rdN (p : Int × Int) : Nat × Nat := (p.1.toNat, p.2.toNat)
/-- houses u, v have a road -/
def adj (rs : List (Nat × Nat)) (u v : Nat) : Bool := rs.contains (u, v) || rs.contains (v, u)
/-- what the lists of neighbours hold behind the first roads -/
def acc (rs : List (Nat × Nat)) (h : Nat) : List Nat := rs.flatMap fun p => (if p.1 = h then [p.2] else []) ++ (if p.2 = h then [p.1] else [])
def nb (rs : List (Nat × Nat)) (n h : Nat) : List Nat := (List.range n).filter (adj rs h)
def intD (k : Nat) : PyData := .int (k : Int)
def pairD (p : Nat × Nat) : PyData := .tuple [intD p.1, intD p.2]
def rowD (l : List Nat) : PyData := .tuple (l.map intD)
def rowsD (ls : List (List Nat)) : PyData := .tuple (ls.map rowD)
def iV (k : Nat) : V := .int (k : Int)
theorem acc_snoc (rs : List (Nat × Nat)) (p : Nat × Nat) (h : Nat) : acc (rs ++ [p]) h = acc rs h ++ ((if p.1 = h then [p.2] else []) ++ (if p.2 = h then [p.1] else [])) := by
  simp [acc]
/-- roads that are no loop, each once, either way round -/
structure Good (n : Nat) (rs : List (Nat × Nat)) : Prop where
  lt : ∀ p ∈ rs, p.1 < p.2 ∧ p.2 < n
  nd : rs.Nodup
theorem mem_acc {rs : List (Nat × Nat)} {h v : Nat} : v ∈ acc rs h ↔ adj rs h v = true := by
  simp only [acc, List.mem_flatMap, List.mem_append, adj, Bool.or_eq_true, List.contains_iff_mem]
  constructor
  · rintro ⟨⟨a, b⟩, hp, h1 | h1⟩
    · split at h1
      · rename_i c; simp at h1 c; subst h1 c; exact .inl hp
      · cases h1
    · split at h1
      · rename_i c; simp at h1 c; subst h1 c; exact .inr hp
      · cases h1
  · rintro (hp | hp)
    · exact ⟨_, hp, .inl (by simp)⟩
    · exact ⟨_, hp, .inr (by simp)⟩
theorem acc_nodup {n : Nat} : ∀ {rs : List (Nat × Nat)}, Good n rs → ∀ h, (acc rs h).Nodup
  | [], _, h => by simp [acc]
  | p :: rs, G, h => by
    obtain ⟨a, b⟩ := p
    have G' : Good n rs := ⟨fun p hp => G.lt p (List.mem_cons_of_mem _ hp), (List.nodup_cons.mp G.nd).2⟩
    have ih := acc_nodup G' h
    have hn := (List.nodup_cons.mp G.nd).1
    obtain ⟨l1, l2⟩ := G.lt (a, b) (List.mem_cons_self ..)
    simp only at l1 l2
    have noR : (b, a) ∉ rs := fun z => by have := (G'.lt _ z).1; simp only at this; omega
    have e : acc ((a, b) :: rs) h = ((if a = h then [b] else []) ++ (if b = h then [a] else [])) ++ acc rs h := by simp [acc]
    rw [e]
    by_cases c1 : a = h
    · have c2 : b ≠ h := by omega
      subst c1
      rw [if_pos rfl, if_neg c2, List.append_nil, List.singleton_append, List.nodup_cons]
      refine ⟨fun z => ?_, ih⟩
      rw [mem_acc] at z
      simp only [adj, Bool.or_eq_true, List.contains_iff_mem] at z
      exact z.elim hn noR
    · rw [if_neg c1, List.nil_append]
      by_cases c2 : b = h
      · subst c2
        rw [if_pos rfl, List.singleton_append, List.nodup_cons]
        refine ⟨fun z => ?_, ih⟩
        rw [mem_acc] at z
        simp only [adj, Bool.or_eq_true, List.contains_iff_mem] at z
        exact z.elim noR hn
      · rw [if_neg c2, List.nil_append]; exact ih
theorem nb_perm {n : Nat} {rs : List (Nat × Nat)} (G : Good n rs) (h : Nat) : (nb rs n h).Perm (acc rs h) := by
  refine (List.perm_ext_iff_of_nodup (List.nodup_range.filter _) (acc_nodup G h)).mpr fun v => ?_
  rw [mem_acc, List.mem_filter, List.mem_range]
  constructor
  · exact fun z => z.2
  · intro z
    refine ⟨?_, z⟩
    simp only [adj, Bool.or_eq_true, List.contains_iff_mem] at z
    rcases z with z | z
    · exact (G.lt _ z).2
    · have := G.lt _ z; simp only at this; omega
/-- sorted and of the same items: the same -/
theorem sort_unique : ∀ {xs ys : List Int}, xs.Perm ys → xs.Pairwise (· ≤ ·) → ys.Pairwise (· ≤ ·) → xs = ys := fun {xs ys} p h1 h2 =>
  p.eq_of_pairwise (fun a b _ _ h h' => Int.le_antisymm h h') h1 h2
/-! lists in a list, all made here -/
structure Nest (B : Hp) (D : Addr) (qs : List Addr) : Prop where
  fD : B D = none
  fq : ∀ q ∈ qs, B q = none ∧ q ≠ D
  nd : qs.Nodup
structure NestAt (B : Hp) (D : Addr) (qs : List Addr) (f : Nat → List V) (H : Hp) : Prop where
  ex : Ex B H
  hD : H D = some (.lst (qs.map .ref))
  hq : ∀ j q, qs[j]? = some q → H q = some (.lst (f j))
theorem NestAt.push {B H : Hp} {D : Addr} {qs : List Addr} {f : Nat → List V} (N : Nest B D qs) (h : NestAt B D qs f H) {u : Nat} {q : Addr} (hu : qs[u]? = some q) (ys : List V) : NestAt B D qs (fun j => if j = u then ys else f j) (upd H q (.lst ys)) := by
  obtain ⟨n1, n2⟩ := N.fq q (List.mem_of_getElem? hu)
  refine ⟨Evl.Ex.mut h.ex n1, by rw [upd_ne n2.symm]; exact h.hD, fun j q' hj => ?_⟩
  by_cases c : j = u
  · subst c; rw [hu] at hj; cases hj; rw [upd_same, if_pos rfl]
  · have : q' ≠ q := fun z => c (nd_ix N.nd hj (z ▸ hu))
    rw [upd_ne this, if_neg c]; exact h.hq j q' hj
theorem nest_new {B : Hp} {D : Addr} {qs : List Addr} {p : Addr} {H : Hp} (N : Nest B D qs) (h : NestAt B D qs (fun _ => []) H) (hp : H p = none) : Nest B D (qs ++ [p]) ∧ NestAt B D (qs ++ [p]) (fun _ => []) (upd (upd H p (.lst [])) D (.lst (qs.map .ref ++ [.ref p]))) := by
  have pD : p ≠ D := fun z => by rw [z, h.hD] at hp; cases hp
  have pq : p ∉ qs := fun z => by
    obtain ⟨j, hj, e⟩ := List.getElem_of_mem z
    have y := h.hq j p (by rw [List.getElem?_eq_getElem hj, e])
    rw [hp] at y; cases y
  refine ⟨⟨N.fD, fun q hq => ?_, ?_⟩, ⟨Evl.Ex.mut (Evl.Ex.mut h.ex (Evl.fresh_back h.ex hp)) N.fD, by rw [upd_same, List.map_append]; rfl, fun j q hj => ?_⟩⟩
  · rcases List.mem_append.mp hq with z | z
    · exact N.fq q z
    · rw [List.mem_singleton.mp z]; exact ⟨Evl.fresh_back h.ex hp, pD⟩
  · rw [List.nodup_append]
    exact ⟨N.nd, by simp, fun a ha b hb z => pq (by rw [← List.mem_singleton.mp hb, ← z]; exact ha)⟩
  · have hm := List.mem_of_getElem? hj
    rcases List.mem_append.mp hm with z | z
    · have q1 : q ≠ p := fun e => pq (e ▸ z)
      have q2 := (N.fq q z).2
      rw [upd_ne q2, upd_ne q1]
      by_cases c : j < qs.length
      · rw [List.getElem?_append_left c] at hj; exact h.hq j q hj
      · rw [List.getElem?_append_right (by omega)] at hj
        exact absurd (List.mem_singleton.mp (List.mem_of_getElem? hj)) q1
    · rw [List.mem_singleton.mp z, upd_ne pD, upd_same]
theorem take_snoc {α : Type} {l : List α} {i : Nat} {x : α} (h : l[i]? = some x) : l.take (i + 1) = l.take i ++ [x] := by
  rw [List.take_add_one, h]; rfl
theorem w_rng1 {H : Hp} {ta : TA} {σ : L2.St} {n : Nat} {P : It → Hp → Prop} (h : ∀ Q : List V → Hp → Prop, Q [.int (n : Int)] H → ta σ H Q) (hn : n ≤ 100000) (q : ∀ J H1, Ex H H1 → ItS J H n (fun i => .int (0 + i)) → P J H1) : iRng1 ta σ H P :=
  h _ ⟨_, rfl, by omega, by omega, by
    have e : ((n : Int)).toNat = n := by omega
    rw [e]
    exact q _ _ (Evl.Ex.refl _) (its_r 0 n)⟩
theorem acc_len : ∀ (rs : List (Nat × Nat)) (h : Nat), (acc rs h).length ≤ 2 * rs.length
  | [], h => by simp [acc]
  | p :: rs, h => by
    have ih := acc_len rs h
    have e : acc (p :: rs) h = ((if p.1 = h then [p.2] else []) ++ (if p.2 = h then [p.1] else [])) ++ acc rs h := by simp [acc]
    rw [e]
    by_cases c1 : p.1 = h <;> by_cases c2 : p.2 = h <;> simp [c1, c2] <;> omega
theorem f2_dqs {K : PySem.W.Frag} {H : Hp} {f : Nat → PyData} : ∀ {is : List Nat} {ys : List V}, F2 (fun i y => Dq K H y (f i)) is ys → Dqs K H ys (is.map f)
  | _, _, .nil => .nil
  | _, _, .cons h hs => .cons h (f2_dqs hs)
theorem rowV {K : PySem.W.Frag} {H : Hp} : ∀ (l : List Nat), Dqs K H (l.map iV) (l.map intD)
  | [] => .nil
  | k :: l => .cons (.int _) (rowV l)
def sp_joined_by (K : PySem.W.Frag) : Sp := sp2 fun a b H Q E => ∃ (n : Nat) (rs : List (Nat × Nat)) (d : PyData), a = .int (n : Int) ∧ n ≤ 1000 ∧ Dq K H b d ∧ isSeq d = true ∧ items d = rs.map pairD ∧ rs.length ≤ 1000 ∧ Good n rs ∧ ∀ r H', Ex H H' → Dq K H' r (rowsD ((List.range n).map (nb rs n))) → Q r H'
section
variable {K : PySem.W.Frag} {mg : Str → Option Value} {P : Program} {w : World} {base : Heap}
theorem ok_joined_by (T : Tx K mg) : Cal P w K mg base CX0 2 "joined_by" ["houses", "roads"] (sp_joined_by K) := by
  refine cal_of (fD_joined_by T) (T.glo 13 rfl) sc_joined_by (fun _ _ _ _ _ _ us hl => match us, hl with | [_, _], _ => rfl) (fun vs H Q E h => len2 h) (fun f cdv A outer s H vs Q E hr h => ?_)
  obtain ⟨a, b, rfl, h⟩ := h
  refine ⟨_, (PSs.nox (pss_cons (ps_setLc (i := 2) (own := [("_", 5)]) rfl sc_joined_by.nd rfl rfl (sw_true rfl rfl rfl (by decide +kernel)) (pi_range1 (by rfl) (T.free 10 rfl) (pa_cons (pv 0) pa_nil)) (blkOk_by (own := [("_", 5)]) (N := ["houses", "roads", "found", "u", "v", "_", "others"]) (sc := defScope st_joined_by) (by decide +kernel)) (fun _ _ _ _ _ => (pg_name (i := 5) sc_joined_by.nd rfl (Or.inl rfl))) (fun _ _ _ _ _ => pts_nil) (fun _ _ _ _ _ => (pe_lst pa_nil)))
      (pss_cons (ps_for PassesOwn.never rfl (pi_seq (pv 1)) (pg_tup (n := 2) rfl (pgs_cons (pg_name (i := 3) sc_joined_by.nd rfl (Or.inl rfl)) (pgs_cons (pg_name (i := 4) sc_joined_by.nd rfl (Or.inl rfl)) pgs_nil))) (pss_cons (ps_expr (pe_bm PySem.F.plainAttrs_list PySem.F.slot_list_append PySem.F.type_list_append mt_append (pe_ix (ix_listK (K := K)) (pv 2) (pv 3) (fun _ _ => rfl)) (pa_cons (pv 4) pa_nil)))
      (pss_one (ps_expr (pe_bm PySem.F.plainAttrs_list PySem.F.slot_list_append PySem.F.type_list_append mt_append (pe_ix (ix_listK (K := K)) (pv 2) (pv 4) (fun _ _ => rfl)) (pa_cons (pv 3) pa_nil))))))
      (pss_one (ps_ret (pe_callTy (call_tupK (K := K)) (by rfl) (T.free 15 rfl) (by decide +kernel) (pa_cons (pe_lc (own := [("others", 6)]) rfl sc_joined_by.nd (pi_list (pv 2)) (blkOk_by (own := [("others", 6)]) (N := ["houses", "roads", "found", "u", "v", "_", "others"]) (sc := defScope st_joined_by) (by decide +kernel)) (fun _ _ _ _ _ => (pg_name (i := 6) sc_joined_by.nd rfl (Or.inl rfl))) (fun _ _ _ _ _ => pts_nil) (fun _ _ _ _ _ => (pe_callTy (call_tupK (K := K)) (by rfl) (T.free 15 rfl) (by decide +kernel) (pa_cons (pe_callB (cr_sortedIK (K := K)) (by rfl) (T.free 12 rfl) (by decide +kernel) (pa_cons (pv 6) pa_nil)) pa_nil)))) pa_nil))))))), ?_⟩
  obtain ⟨n, rs, d, rfl, hn, hd, hs, hi, hrl, G, q⟩ := h
  obtain ⟨p, xs, rfl, hx, hds⟩ := dq_seq hd hs
  rw [hi] at hds
  refine seq_at (asg_at ?_)
  refine lc_inv (n := n) (item := fun i => .int (0 + i)) (B := H) (fun P q => w_rng1 (fun Q q => ⟨_, rfl, q⟩) (by omega) q) (fun D i H' => ∃ qs : List Addr, qs.length = i ∧ Nest H D qs ∧ NestAt H D qs (fun _ => []) H') ?_ ?_ ?_ ?_
  · exact fun D H1 e1 hD => ⟨[], rfl, ⟨Evl.fresh_back e1 hD, by simp, by simp⟩, ⟨Evl.Ex.mut e1 (Evl.fresh_back e1 hD), upd_same, by simp⟩⟩
  · exact fun D i H' ⟨qs, _, _, z⟩ => z.ex
  · rintro D i H' hi ⟨qs, hl, N, z⟩
    refine ⟨rfl, ?_⟩
    refine ⟨Nat.zero_le _, fun r hr => ⟨qs.map .ref, ?_, ?_, qs ++ [r], by rw [List.length_append, hl]; rfl, nest_new N z hr⟩⟩
    · rw [upd_ne (ne_of_none z.hD hr)]; exact z.hD
    · rw [List.length_map, hl, sizeLine_eq]; omega
  · rintro D H1 ⟨qs, hl, N, z⟩
    dsimp only [gName]
    refine seq_at ?_
    refine for_at (B := H) (n := xs.length) (item := nth xs) (fun P q => w_seq rfl hx z.ex q) (fun k σ' H' => (∃ s3 s4 s5 s6, σ' = [some (.int (n : Int)), some (.ref p), some (.ref D), s3, s4, s5, s6]) ∧ NestAt H D qs (fun j => (acc (rs.take k) j).map iV) H') ?_ ?_ ?_ ?_
    · exact fun H2 e2 => ⟨⟨none, none, none, none, rfl⟩, z.ex.trans e2, e2 _ _ z.hD, fun j q hj => e2 _ _ (z.hq j q hj)⟩
    · exact fun k σ' H' h => h.2.ex
    · rintro k σ' H' hk ⟨⟨s3, s4, s5, s6, rfl⟩, z'⟩
      obtain ⟨d', a1, b1⟩ := dqs_nth hds hk
      rw [List.getElem?_map] at a1
      obtain ⟨⟨u, v⟩, hr, rfl⟩ := Option.map_eq_some_iff.mp a1
      obtain ⟨t, q1, s1⟩ := pair_at b1
      obtain ⟨l1, l2⟩ := G.lt (u, v) (List.mem_of_getElem? hr)
      simp only at l1 l2
      have hu : qs[u]? = some qs[u] := List.getElem?_eq_getElem (by omega)
      have hv : qs[v]? = some qs[v] := List.getElem?_eq_getElem (by omega)
      have hla : ∀ j, (acc (rs.take k) j).length ≤ 2000 := fun j => by
        have h1 := acc_len (rs.take k) j
        have h2 : (rs.take k).length ≤ rs.length := by rw [List.length_take]; omega
        omega
      have line : ∀ (l : List Nat), l.length ≤ 3000 → (l.map iV).length < sizeLine := fun l hl => by rw [List.length_map, sizeLine_eq]; omega
      have z1 := z'.push N hu ((acc (rs.take k) u).map iV ++ [iV v])
      have z2 := z1.push N hv ((acc (rs.take k) v).map iV ++ [iV u])
      refine ⟨t, _, q1, Evl.ex_t z'.ex s1, rfl, _, _, rfl, _, _, rfl, rfl, ?_⟩
      refine ⟨_, rfl, _, rfl, D, qs.map .ref, (u : Int), .ref qs[u], rfl, rfl, SqL.of z'.hD, atI_nat (by rw [List.getElem?_map, hu]; rfl), .inl ⟨rfl, _, SqL.of (z'.hq u _ hu)⟩, _, rfl, qs[u], _, _, rfl, rfl, z'.hq u _ hu, line _ (by have := hla u; omega), ?_⟩
      refine ⟨_, rfl, _, rfl, D, qs.map .ref, (v : Int), .ref qs[v], rfl, rfl, SqL.of z1.hD, atI_nat (by rw [List.getElem?_map, hv]; rfl), .inl ⟨rfl, _, SqL.of (z1.hq v _ hv)⟩, _, rfl, qs[v], (acc (rs.take k) v).map iV, _, rfl, rfl, ?_, line _ (by have := hla v; omega), ?_⟩
      · exact (z1.hq v _ hv).trans (by rw [if_neg (show ¬ v = u by omega)])
      · refine ⟨⟨_, _, _, _, rfl⟩, ?_⟩
        have ef : (fun j => (acc (rs.take (k + 1)) j).map iV) = fun j => if j = v then (acc (rs.take k) v).map iV ++ [iV u] else if j = u then (acc (rs.take k) u).map iV ++ [iV v] else (acc (rs.take k) j).map iV := by
          funext j
          rw [take_snoc hr, acc_snoc]
          by_cases c1 : j = v
          · subst c1; rw [if_pos rfl, if_neg (by simp only; omega), if_pos rfl]; simp
          · rw [if_neg c1]
            by_cases c2 : j = u
            · subst c2; rw [if_pos rfl, if_pos rfl, if_neg (by simp only; omega)]; simp
            · rw [if_neg c2, if_neg (by simp only; omega), if_neg (by simp only; omega)]; simp
        rw [ef]; exact z2
    · rintro σ' H' ⟨⟨s3, s4, s5, s6, rfl⟩, z'⟩
      have hxl : xs.length = rs.length := by rw [hds.length, List.length_map]
      rw [hxl, List.take_length] at z'
      dsimp only
      refine ret_at (cb_at ?_)
      refine lc_at (n := (qs.map V.ref).length) (item := nth (qs.map V.ref)) (fun _ => true) (fun i D' y H2 => ∃ t, y = .ref t ∧ t ≠ D' ∧ H2 t = some (.tup ((nb rs n i).map iV))) (by rw [List.length_map, hl, sizeLine_eq]; omega) (fun P q => l_list rfl (SqL.of z'.hD) q)
        (fun i D' y H2 o _ ⟨t, e, ne, h⟩ => ⟨t, e, ne, by rw [upd_ne ne]; exact h⟩) (fun i D' y H2 H3 e3 ⟨t, e, ne, h⟩ => ⟨t, e, ne, e3 _ _ h⟩) ?_ ?_
      · intro i D' H2 hi hD' e2 ⟨ac, hac⟩ Ny Nn hy _
        rw [List.length_map] at hi
        have hq : qs[i]? = some qs[i] := List.getElem?_eq_getElem hi
        have en : nth (qs.map V.ref) i = .ref qs[i] := by unfold nth; rw [List.getElem?_map, hq]; rfl
        rw [en]
        refine ⟨rfl, ?_⟩
        refine ⟨_, rfl, qs[i], (acc rs i).map (fun (k : Nat) => (k : Int)), rfl, SqL.of (by rw [List.map_map]; exact e2 _ _ (z'.hq i _ hq)), ?_⟩
        intro ns p2 perm ris hp2
        refine ⟨p2, _, rfl, .inl ⟨SqL.of upd_same, fun t ht => ?_⟩⟩
        have ens : ns = (nb rs n i).map (fun (k : Nat) => (k : Int)) := by
          refine sort_unique (perm.trans ((nb_perm G i).symm.map _)) ris ?_
          rw [List.pairwise_map]
          exact (List.pairwise_lt_range.filter _).imp fun h => by omega
        have tp : t ≠ p2 := fun e => by rw [e, upd_same] at ht; cases ht
        have ht0 : H2 t = none := by rw [upd_ne tp] at ht; exact ht
        refine hy _ _ rfl ((Evl.Ex.new hp2).trans (Evl.Ex.new ht)) ⟨t, rfl, fun e => ?_, ?_⟩
        · rw [e, hac] at ht0; cases ht0
        · rw [upd_same, ens, List.map_map]; rfl
      · intro D' ys H2 hD' e2 hd2 f
        rw [range_all] at f
        refine ⟨D', ys, rfl, .inl ⟨SqL.of hd2, fun l hl2 => ?_⟩⟩
        refine q _ _ ((z'.ex.trans e2).trans (Evl.Ex.new hl2)) (.tup (SqT.of upd_same) ?_)
        rw [List.length_map, hl] at f
        refine Dqs.mono (Evl.Ex.new hl2) ?_
        rw [List.map_map]
        refine f2_dqs (f.imp fun i y ⟨t, e, _, h⟩ => ?_)
        rw [e]
        exact .tup (SqT.of h) (rowV _)
end

end T1

namespace T1
open PySem PySem.Spec PyProof.Rows L2 G
open Evl (Ex)
local macro_rules | `(tactic| walk_at "dd") => `(tactic| (dsimp only [tCB, tCons, tNil, tC, tOp, tUn, tTest, tB, tVar, tAndV, tOrV, tNotV, tIf, tAnd, tOr, tNot, tSeq, tRet, tRetN, tIfS, tAsg, gName, tDrop, tTup, tLst, tChain, tNext, tCall, L2.start]))
open M (at_)
/-- a tuple of houses stands at v -/
def TupAt (H : Hp) (p : List Nat) (v : V) : Prop := ∃ t o, v = .ref t ∧ H t = some (.frz o (.tup (p.map iV))) ∧ o.dict = none ∧ o.cls = .type "tuple"
theorem sq_frz {K : PySem.W.Frag} {H : Hp} {a : Addr} {o : Obj} {xs : List V} (h : H a = some (.frz o (.tup xs))) : SqT K H a xs := .inl (.inr ⟨o, h⟩)
/-- a list of tuples of houses stands at A -/
def FA (H : Hp) (A : Addr) (F : List (List Nat)) : Prop := ∃ vs, H A = some (.lst vs) ∧ F2 (TupAt H) F vs
theorem TupAt.mono {H H' : Hp} {p : List Nat} {v : V} (e : Ex H H') (h : TupAt H p v) : TupAt H' p v := let ⟨t, o, a, b, c⟩ := h; ⟨t, o, a, e _ _ b, c⟩
theorem TupAt.updL {H : Hp} {p : List Nat} {v : V} {B : Addr} {ys zs : List V} (hB : H B = some (.lst ys)) (h : TupAt H p v) : TupAt (upd H B (.lst zs)) p v :=
  let ⟨t, o, a, b, c⟩ := h; ⟨t, o, a, by rw [upd_ne (ne_of b hB (by intro z; cases z))]; exact b, c⟩
theorem FA.mono {H H' : Hp} {A : Addr} {F} (e : Ex H H') (h : FA H A F) : FA H' A F := let ⟨vs, a, b⟩ := h; ⟨vs, e _ _ a, b.imp fun _ _ z => z.mono e⟩
theorem FA.updL {H : Hp} {A B : Addr} {F} {ys zs : List V} (hB : H B = some (.lst ys)) (ne : A ≠ B) (h : FA H A F) : FA (upd H B (.lst zs)) A F :=
  let ⟨vs, a, b⟩ := h; ⟨vs, by rw [upd_ne ne]; exact a, b.imp fun _ _ z => z.updL hB⟩
theorem F2.get {α β : Type} {R : α → β → Prop} : ∀ {as : List α} {bs : List β} {i : Nat} {a : α}, F2 R as bs → as[i]? = some a → ∃ b, bs[i]? = some b ∧ R a b
  | _, _, _, _, .nil, seen => by simp at seen
  | _, _, 0, _, .cons h _, e => by simp at e; subst e; exact ⟨_, rfl, h⟩
  | _, _, i + 1, _, .cons _ hs, e => by
    obtain ⟨b, h1, h2⟩ := F2.get (i := i) hs (by simpa using e)
    exact ⟨b, by simpa using h1, h2⟩
theorem F2.set {α β : Type} {R : α → β → Prop} {x : α} {y : β} : ∀ {as : List α} {bs : List β} (i : Nat), F2 R as bs → R x y → F2 R (as.set i x) (bs.set i y)
  | _, _, _, .nil, _ => .nil
  | _, _, 0, .cons _ hs, h => .cons h hs
  | _, _, i + 1, .cons g hs, h => .cons g (F2.set i hs h)
theorem FA.get {H : Hp} {A : Addr} {F : List (List Nat)} {v : Nat} (h : FA H A F) (hv : v < F.length) : ∃ vs t o, H A = some (.lst vs) ∧ vs[v]? = some (.ref t) ∧ H t = some (.frz o (.tup ((at_ F v).map iV))) := by
  obtain ⟨vs, a, b⟩ := h
  obtain ⟨x, h1, t, o, rfl, h2, _⟩ := F2.get b (List.getElem?_eq_getElem hv)
  refine ⟨vs, t, o, a, h1, ?_⟩
  have : at_ F v = F[v] := by unfold at_; rw [List.getElem?_eq_getElem hv]; rfl
  rw [this]; exact h2
theorem FA.len {H : Hp} {A : Addr} {F : List (List Nat)} {vs : List V} (h : FA H A F) (hA : H A = some (.lst vs)) : vs.length = F.length := by
  obtain ⟨ws, a, b⟩ := h
  rw [hA] at a; cases a; exact b.length.symm
theorem FA.set {H : Hp} {A t : Addr} {o : Obj} {F : List (List Nat)} {vs : List V} {v : Nat} {p : List Nat} (h : FA H A F) (hA : H A = some (.lst vs)) (ht : H t = some (.frz o (.tup (p.map iV)))) (od : o.dict = none) (oc : o.cls = .type "tuple") : FA (upd H A (.lst (vs.set v (.ref t)))) A (F.set v p) := by
  obtain ⟨ws, a, b⟩ := h
  rw [hA] at a; cases a
  exact ⟨_, upd_same, (F2.set v b ⟨t, o, rfl, ht, od, oc⟩).imp fun _ _ z => z.updL hA⟩
theorem FA.dq {K : PySem.W.Frag} {H : Hp} {A : Addr} {F : List (List Nat)} {vs : List V} (h : FA H A F) (hA : H A = some (.lst vs)) : Dqs K H vs (F.map rowD) := by
  obtain ⟨ws, a, b⟩ := h
  rw [hA] at a; cases a
  clear hA
  induction b with
  | nil => exact .nil
  | cons h _ ih => obtain ⟨t, o, rfl, ht, _⟩ := h; exact .cons (.tup (sq_frz ht) (rowV _)) ih
/-- a tuple of houses that has no dict -/
def RowF (K : PySem.W.Frag) (H : Hp) (p : List Nat) (v : V) : Prop := ∃ t, v = .ref t ∧ SqT K H t (p.map iV) ∧ FrzT H v
theorem RowF.mono {K : PySem.W.Frag} {H H' : Hp} {p : List Nat} {v : V} (e : Ex H H') (h : RowF K H p v) : RowF K H' p v := let ⟨t, a, b, c⟩ := h; ⟨t, a, Evl.ex_t e b, c.mono e⟩
theorem RowF.del {K : PySem.W.Frag} {H : Hp} {D : Addr} {ac : List V} {p : List Nat} {v : V} (hD : H D = some (.lst ac)) (h : RowF K H p v) : RowF K (L2.del H D) p v := let ⟨t, a, b, c⟩ := h; ⟨t, a, SqT.del b hD, c.del hD⟩
theorem RowF.ins {K : PySem.W.Frag} {H : Hp} {D C dx : Addr} {fs : List (Str × V)} {o : HO} {p : List Nat} {v : V} (hD : H D = some (.ins C dx fs)) (h : RowF K H p v) : RowF K (upd H D o) p v := let ⟨t, a, b, c⟩ := h; ⟨t, a, SqT.ins b hD, c.ins hD⟩
/-- a tuple of such -/
def RF (K : PySem.W.Frag) (H : Hp) (y : V) (F : List (List Nat)) : Prop := ∃ l xs, y = .ref l ∧ SqT K H l xs ∧ F2 (RowF K H) F xs
theorem RF.mono {K : PySem.W.Frag} {H H' : Hp} {y : V} {F} (e : Ex H H') (h : RF K H y F) : RF K H' y F := let ⟨l, xs, a, b, c⟩ := h; ⟨l, xs, a, Evl.ex_t e b, c.imp fun _ _ z => z.mono e⟩
theorem RF.del {K : PySem.W.Frag} {H : Hp} {D : Addr} {ac : List V} {y : V} {F} (hD : H D = some (.lst ac)) (h : RF K H y F) : RF K (L2.del H D) y F := let ⟨l, xs, a, b, c⟩ := h; ⟨l, xs, a, SqT.del b hD, c.imp fun _ _ z => z.del hD⟩
theorem RF.ins {K : PySem.W.Frag} {H : Hp} {D C dx : Addr} {fs : List (Str × V)} {o : HO} {y : V} {F} (hD : H D = some (.ins C dx fs)) (h : RF K H y F) : RF K (upd H D o) y F := let ⟨l, xs, a, b, c⟩ := h; ⟨l, xs, a, SqT.ins b hD, c.imp fun _ _ z => z.ins hD⟩
/-- a tuple of these -/
def RowsF (K : PySem.W.Frag) (H : Hp) (r : V) (Fs : List (List (List Nat))) : Prop := ∃ p ys, r = .ref p ∧ SqT K H p ys ∧ F2 (fun F y => RF K H y F) Fs ys
theorem RowsF.mono {K : PySem.W.Frag} {H H' : Hp} {r : V} {Fs} (e : Ex H H') (h : RowsF K H r Fs) : RowsF K H' r Fs := let ⟨l, xs, a, b, c⟩ := h; ⟨l, xs, a, Evl.ex_t e b, c.imp fun _ _ z => z.mono e⟩
theorem FA.rf {K : PySem.W.Frag} {H : Hp} {A : Addr} {F : List (List Nat)} {vs : List V} (h : FA H A F) (hA : H A = some (.lst vs)) : F2 (RowF K H) F vs := by
  obtain ⟨ws, a, b⟩ := h
  rw [hA] at a; cases a
  exact b.imp fun p v ⟨t, o, is, ht, c⟩ => ⟨t, is, sq_frz ht, ⟨t, o, _, is, ht, c⟩⟩
theorem f2_rep {R : List Nat → V → Prop} {is : List Nat} {ys : List V} : F2 (fun (_ : Nat) y => R [] y) is ys → F2 R (List.replicate is.length []) ys := by
  intro h
  induction h with
  | nil => exact .nil
  | cons h _ ih => exact .cons h ih
theorem shaped_ints (l : List Nat) : SeqAt.shaped (.list (l.map intD)) = true ∧ SeqAt.shaped (.tuple (l.map intD)) = true := by
  have c : PyData.canLayAll0 (l.map intD) = true := by
    induction l with
    | nil => rfl
    | cons k l ih => simp only [List.map_cons, PyData.canLayAll0, ih, Bool.and_true]; rfl
  have d : PyData.depthAll (l.map intD) ≤ 1 := by
    induction l with
    | nil => simp [PyData.depthAll]
    | cons k l ih =>
      simp only [List.map_cons, PyData.canLayAll0, Bool.and_eq_true] at c
      have := ih c.2
      simp only [List.map_cons, PyData.depthAll, intD, PyData.depth]; omega
  constructor <;> (unfold SeqAt.shaped; rw [Bool.and_eq_true, decide_eq_true_eq]; refine ⟨by simpa [PyData.canLay0] using c, ?_⟩; simp only [PyData.depth]; omega)
theorem dp_list {K : PySem.W.Frag} {H : Hp} {a : Addr} {l : List Nat} (h : H a = some (.lst (l.map iV))) : Dp K H (.ref a) (.list (l.map intD)) := Dq.dp (.lst (SqL.of h) (rowV l)) (SeqAt.canLay_of_shaped (shaped_ints l).1)
theorem dp_tupF {K : PySem.W.Frag} {H : Hp} {a : Addr} {o : Obj} {l : List Nat} (h : H a = some (.frz o (.tup (l.map iV)))) : Dp K H (.ref a) (.tuple (l.map intD)) := Dq.dp (.tup (sq_frz h) (rowV l)) (SeqAt.canLay_of_shaped (shaped_ints l).2)
theorem dp_tup {K : PySem.W.Frag} {H : Hp} {a : Addr} {l : List Nat} (h : H a = some (.tup (l.map iV))) : Dp K H (.ref a) (.tuple (l.map intD)) := Dq.dp (.tup (SqT.of h) (rowV l)) (SeqAt.canLay_of_shaped (shaped_ints l).2)
theorem row_at {K : PySem.W.Frag} {H : Hp} {v : V} {l : List Nat} (h : Dq K H v (rowD l)) : ∃ t, v = .ref t ∧ SqT K H t (l.map iV) := by
  unfold rowD at h
  cases h with
  | tup h hs =>
    refine ⟨_, rfl, ?_⟩
    have : ∀ {l : List Nat} {xs : List V}, Dqs K H xs (l.map intD) → xs = l.map iV := by
      intro l
      induction l with
      | nil => intro xs h; cases h; rfl
      | cons k l ih => intro xs h; cases h with | cons a b => cases a; rw [ih b]; rfl
    rw [← this hs]; exact h
theorem rows_at {K : PySem.W.Frag} {H : Hp} {v : V} {ls : List (List Nat)} (h : Dq K H v (rowsD ls)) : ∃ t xs, v = .ref t ∧ SqT K H t xs ∧ Dqs K H xs (ls.map rowD) := by
  unfold rowsD at h
  cases h with
  | tup h hs => exact ⟨_, _, rfl, h, hs⟩
theorem nodup_len {n : Nat} : ∀ {l : List Nat}, l.Nodup → (∀ x ∈ l, x < n) → l.length ≤ n := by
  induction n with
  | zero => intro l _ h; cases l with
    | nil => exact Nat.zero_le _
    | cons a l => exact absurd (h a (List.mem_cons_self ..)) (Nat.not_lt_zero _)
  | succ n ih =>
    intro l nd h
    by_cases c : n ∈ l
    · have z := ih (nd.erase n) fun x hx => by
        have q := (nd.mem_erase_iff).mp hx
        have := h x q.2
        have := q.1
        omega
      rw [List.length_erase_of_mem c] at z
      omega
    · have z := ih nd fun x hx => by
        have := h x hx
        have : x ≠ n := fun e => c (e ▸ hx)
        omega
      omega
def sp_ways_from (K : PySem.W.Frag) : Sp := sp2 fun a b H Q E => ∃ (ls : List (List Nat)) (h : Nat), Dq K H a (rowsD ls) ∧ b = .int (h : Int) ∧ h < ls.length ∧ ls.length ≤ 1000 ∧ (∀ l ∈ ls, ∀ v ∈ l, v < ls.length) ∧ ∀ r H' F, Ex H H' → M.Ways ls h F → Dq K H' r (rowsD F) → FrzT H' r → RF K H' r F → Q r H'
section
variable {K : PySem.W.Frag} {mg : Str → Option Value} {P : Program} {w : World} {base : Heap}
theorem ok_ways_from (T : Tx K mg) : Cal P w K mg base CX0 2 "ways_from" ["near", "house"] (sp_ways_from K) := by
  refine cal_of (fD_ways_from T) (T.glo 14 rfl) sc_ways_from (fun _ _ _ _ _ _ us hl => match us, hl with | [_, _], _ => rfl) (fun vs H Q E h => len2 h) (fun f cdv A outer s H vs Q E hr h => ?_)
  obtain ⟨a, b, rfl, h⟩ := h
  refine ⟨_, (PSs.nox (pss_cons (ps_setLc (i := 2) (own := [("_", 6)]) rfl sc_ways_from.nd rfl rfl (sw_true rfl rfl rfl (by decide +kernel)) (pi_tup (pv 0)) (blkOk_by (own := [("_", 6)]) (N := ["near", "house", "found", "front", "at", "other", "_"]) (sc := defScope st_ways_from) (by decide +kernel)) (fun _ _ _ _ _ => (pg_name (i := 6) sc_ways_from.nd rfl (Or.inl rfl))) (fun _ _ _ _ _ => pts_nil) (fun _ _ _ _ _ => (pe_tupF pa_nil)))
      (pss_cons (ps_asg (pe_tupF (pa_cons (pv 1) pa_nil)) (pg_sub (pv 2) (pv 1) set_list))
      (pss_cons (ps_set (i := 3) sc_ways_from.nd rfl (Or.inl rfl) (pe_lst (pa_cons (pv 1) pa_nil)))
      (pss_cons (ps_while PassesOwn.never (pt_cmpR (op_neDK (K := K) (hu64 hr.r)) (pv 3) (pe_lst pa_nil) (nomark _)) (pss_cons (ps_set (i := 4) sc_ways_from.nd rfl (Or.inl rfl) (pe_bm0 PySem.F.plainAttrs_list PySem.F.slot_list_pop PySem.F.type_list_pop mt_pop (pv 3)))
      (pss_one (ps_for PassesOwn.never rfl (pi_tup (pe_ix (ix_tupK (K := K)) (pv 0) (pv 4) (fun _ _ => rfl))) (pg_name (i := 5) sc_ways_from.nd rfl (Or.inl rfl)) (pss_one (ps_if (pt_cmpR (op_eqDK (K := K) (hu64 hr.r)) (pe_ix (ix_listK (K := K)) (pv 2) (pv 5) (fun _ _ => rfl)) (pe_tupF pa_nil) (nomark _)) (pss_cons (ps_asg (pe_tupF (pa_starK (K := K) (pe_ix (ix_listK (K := K)) (pv 2) (pv 4) (fun _ _ => rfl)) (pa_cons (pv 5) pa_nil))) (pg_sub (pv 2) (pv 5) set_list))
      (pss_one (ps_expr (pe_bm PySem.F.plainAttrs_list PySem.F.slot_list_append PySem.F.type_list_append mt_append (pv 3) (pa_cons (pv 5) pa_nil))))) pss_nil))))))
      (pss_one (ps_ret (pe_callTy (call_tupF (K := K)) (by rfl) (T.free 15 rfl) (by decide +kernel) (pa_cons (pv 2) pa_nil))))))))), ?_⟩
  obtain ⟨ls, h0, hd, rfl, hh, hlen, hlt, q⟩ := h
  obtain ⟨nt, xs, rfl, hx, hds⟩ := rows_at hd
  have hxl : xs.length = ls.length := by rw [hds.length, List.length_map]
  have ltA : ∀ {a w : Nat}, w ∈ at_ ls a → w < ls.length := fun {a w} hw => by
    unfold M.at_ at hw
    cases e : ls[a]? with
    | none => rw [e] at hw; cases hw
    | some l => rw [e] at hw; exact hlt l (List.mem_of_getElem? e) w hw
  have line : ∀ {k : Nat}, k ≤ 5000 → k < sizeLine := fun {k} hk => by rw [sizeLine_eq]; omega
  refine seq_at (asg_at ?_)
  refine lc_at (n := xs.length) (item := nth xs) (fun _ => true) (fun i D y H2 => ∃ t o, y = .ref t ∧ t ≠ D ∧ H2 t = some (.frz o (.tup [])) ∧ o.dict = none ∧ o.cls = .type "tuple") (line (by omega)) (fun P q => l_tup rfl hx q)
    (fun i D' y H2 _ _ ⟨t, o, e, ne, h, c⟩ => ⟨t, o, e, ne, by rw [upd_ne ne]; exact h, c⟩) (fun i D' y H2 H3 e3 ⟨t, o, e, ne, h, c⟩ => ⟨t, o, e, ne, e3 _ _ h, c⟩) ?_ ?_
  · intro i D H2 hi hD e2 ⟨ac, hac⟩ Ny Nn hy _
    exact ⟨rfl, Nat.zero_le _, fun t o ht od oc => hy _ _ rfl (Evl.Ex.new ht) ⟨t, o, rfl, (ne_of_none hac ht).symm, upd_same, od, oc⟩⟩
  intro A ys H1 hA e1 hd1 f
  rw [range_all] at f
  have fa1 : FA H1 A (List.replicate ls.length []) := ⟨ys, hd1, by
    have z := f2_rep (R := TupAt H1) (f.imp fun i y ⟨t, o, e, _, h⟩ => ⟨t, o, e, h⟩)
    rwa [List.length_range, hxl] at z⟩
  have yl := fa1.len hd1
  rw [List.length_replicate] at yl
  dsimp only [gName]
  refine seq_at ?_
  refine ⟨_, rfl, line (by simp), fun t ot ht od oc => ?_⟩
  have tA : A ≠ t := ne_of_none hd1 ht
  have hA1 : upd H1 t (.frz ot (.tup [.int (h0 : Int)])) A = some (.lst ys) := by rw [upd_ne tA]; exact hd1
  refine ⟨_, rfl, _, rfl, A, ys, _, h0, rfl, rfl, hA1, Evl.ixN_nat (by omega), ?_⟩
  have fa2 := (fa1.mono (Evl.Ex.new ht)).set (v := h0) (p := [h0]) hA1 upd_same od oc
  have e2 : Ex H (upd (upd H1 t (.frz ot (.tup [.int (h0 : Int)]))) A (.lst (ys.set h0 (.ref t)))) := Evl.Ex.mut (e1.trans (Evl.Ex.new ht)) hA
  dsimp only
  refine seq_at (asg_at ?_)
  refine ⟨_, rfl, line (by simp), fun B hB => ?_⟩
  have AB : A ≠ B := fun z => by rw [← z, upd_same] at hB; cases hB
  have hB0 : H B = none := Evl.fresh_back e2 hB
  have fa3 := fa2.mono (Evl.Ex.new (o := .lst [.int (h0 : Int)]) hB)
  have e3 := e2.trans (Evl.Ex.new (o := .lst [.int (h0 : Int)]) hB)
  dsimp only [gName]
  refine seq_at ?_
  refine ⟨fun m σ' H' => ∃ F S s4 s5 s6, σ' = [some (.ref nt), some (.int (h0 : Int)), some (.ref A), some (.ref B), s4, s5, s6] ∧ Ex H H' ∧ FA H' A F ∧ H' B = some (.lst (S.map iV)) ∧ M.PI ls h0 F S ∧ m = M.un F + S.length,
    ⟨_, _, [h0], none, none, none, rfl, e3, fa3, upd_same, M.pi_start hh, rfl⟩, ?_⟩
  rintro m σ' H' ⟨F, S, s4, s5, s6, rfl, e, fa, hBS, pi, rfl⟩
  refine ⟨_, rfl, Nat.zero_le _, fun p hp => ?_⟩
  have fa' := fa.mono (Evl.Ex.new (o := .lst []) hp)
  have hBS' := Evl.Ex.new (o := .lst []) hp _ _ hBS
  have e' := e.trans (Evl.Ex.new (o := .lst []) hp)
  refine ⟨.list (S.map intD), .list [], dp_list hBS', dp_list (l := []) upd_same, (shaped_ints S).1, (shaped_ints []).1, _, rfl, ?_⟩
  by_cases c : S = []
  · subst c
    show if (!PyData.eqv (.list []) (.list [])) = true then _ else _
    refine iteF ?_
    dsimp only
    obtain ⟨vs, hvs, f2⟩ := fa'
    refine ret_at (cb_at ?_)
    refine ⟨_, rfl, A, vs, rfl, SqL.of hvs, fun l o hl od oc => ?_⟩
    exact q _ _ F (e'.trans (Evl.Ex.new hl)) (M.pi_end pi) (.tup (.inl (.inr ⟨o, upd_same⟩)) (Dqs.mono (Evl.Ex.new hl) (FA.dq ⟨vs, hvs, f2⟩ hvs))) ⟨l, o, vs, rfl, upd_same, od, oc⟩ ⟨l, vs, rfl, sq_frz upd_same, (FA.rf ⟨vs, hvs, f2⟩ hvs).imp fun _ _ z => z.mono (Evl.Ex.new hl)⟩
  · obtain ⟨S', a, rfl⟩ : ∃ S' a, S = S' ++ [a] := ⟨S.dropLast, S.getLast c, (List.dropLast_concat_getLast c).symm⟩
    have ne : PyData.eqv (.list ((S' ++ [a]).map intD)) (.list []) = false := by
      cases S' <;> rfl
    rw [ne]
    refine iteT ?_
    have pj := M.pj_start pi
    refine ⟨fun σ' H' => ∃ m', m' < M.un F + (S' ++ [a]).length ∧ ∃ F S s4 s5 s6, σ' = [some (.ref nt), some (.int (h0 : Int)), some (.ref A), some (.ref B), s4, s5, s6] ∧ Ex H H' ∧ FA H' A F ∧ H' B = some (.lst (S.map iV)) ∧ M.PI ls h0 F S ∧ m' = M.un F + S.length, fun σ' H' h => h, ?_⟩
    refine seq_at (asg_at ?_)
    have eB : (S' ++ [a]).map iV = S'.map iV ++ [iV a] := by rw [List.map_append]; rfl
    rw [eB] at hBS'
    refine ⟨_, rfl, .inl ⟨rfl, _, SqL.of hBS'⟩, B, _, iV a, rfl, rfl, hBS', by simp, ?_⟩
    rw [List.dropLast_concat]
    dsimp only [gName]
    have al := pj.al
    obtain ⟨d', g1, g2⟩ := dqs_nth hds (i := a) (by omega)
    rw [List.getElem?_map, List.getElem?_eq_getElem al] at g1
    cases g1
    obtain ⟨tr, et, st⟩ := row_at g2
    have ea : at_ ls a = ls[a] := by unfold M.at_; rw [List.getElem?_eq_getElem al]; rfl
    rw [← ea] at st
    have fa4 := FA.updL (zs := S'.map iV) hBS' AB fa'
    have e4 : Ex H (upd (upd H' p (.lst [])) B (.lst (S'.map iV))) := Evl.Ex.mut e' hB0
    refine ⟨_, rfl, _, rfl, nt, xs, _, _, rfl, rfl, Evl.ex_t e4 hx, atI_nat (nth_at (by omega)), tr, et, ⟨_, Evl.ex_t e4 st⟩, ?_⟩
    refine for_gen (its_t st) (fun k σ' H' => ∃ F2 S2 s5 s6, σ' = [some (.ref nt), some (.int (h0 : Int)), some (.ref A), some (.ref B), some (iV a), s5, s6] ∧ Ex H H' ∧ FA H' A F2 ∧ H' B = some (.lst (S2.map iV)) ∧ M.PJ ls h0 a k F2 S2 ∧ M.un F2 + S2.length = M.un F + S'.length)
      ⟨F, S', _, _, rfl, e4, fa4, upd_same, pj, rfl⟩ (fun k σ' H' ⟨_, _, _, _, _, z, _⟩ => z) ?_ ?_
    · rintro k σ' H5 hk ⟨F2, S2, s5, s6, rfl, e5, fa5, hB5, pj5, hm⟩
      rw [List.length_map] at hk
      obtain ⟨w, hw⟩ : ∃ w, (at_ ls a)[k]? = some w := ⟨_, List.getElem?_eq_getElem hk⟩
      have ew : nth ((at_ ls a).map iV) k = iV w := by unfold nth; rw [List.getElem?_map, hw]; rfl
      have hwl := ltA (List.mem_of_getElem? hw)
      rw [ew]
      obtain ⟨vs, t, ou, hvs, hv, htu⟩ := fa5.get (v := w) (by rw [pj5.len]; exact hwl)
      refine ⟨_, rfl, _, rfl, A, vs, _, _, rfl, rfl, SqL.of hvs, atI_nat hv, Nat.zero_le _, fun p2 o2 hp2 _ _ => ?_⟩
      have ex2 := Evl.Ex.new (o := .frz o2 (.tup [])) hp2
      refine ⟨.tuple ((at_ F2 w).map intD), .tuple [], dp_tupF (ex2 _ _ htu), dp_tupF (l := []) upd_same, (shaped_ints _).2, (shaped_ints []).2, _, rfl, ?_⟩
      have fa6 := fa5.mono ex2
      have hB6 := ex2 _ _ hB5
      have hvs6 := ex2 _ _ hvs
      by_cases c2 : at_ F2 w = []
      · rw [c2]
        show if PyData.eqv (.tuple []) (.tuple []) = true then _ else _
        refine iteT ?_
        obtain ⟨vs', ta, oa, hvs', hva, hta⟩ := fa5.get (v := a) (by rw [pj5.len]; exact al)
        rw [hvs] at hvs'; cases hvs'
        obtain ⟨pj7, hm7⟩ := M.pj_add pj5 hw hwl c2
        have wlen : (at_ F2 a).length ≤ 5000 := by
          have nd := (pj5.pa a pj5.af).nd
          have sub : ∀ x ∈ at_ F2 a, x < ls.length := fun x hx => by
            have z := pj5.on a x hx
            by_cases y : x < F2.length
            · rw [← pj5.len]; exact y
            · unfold M.at_ at z; rw [List.getElem?_eq_none (by omega)] at z; exact absurd rfl z
          have := nodup_len nd sub
          omega
        refine seq_at ?_
        refine ⟨_, rfl, _, rfl, A, vs, _, _, rfl, rfl, SqL.of hvs6, atI_nat hva, ta, _, rfl, .inl (sq_frz (ex2 _ _ hta)), _, rfl, by rw [List.length_append, List.length_map]; exact line wlen, fun t8 o8 ht8 d8 c8 => ?_⟩
        have ex8 := Evl.Ex.new (o := .frz o8 (.tup ((at_ F2 a).map iV ++ [iV w]))) ht8
        have hv8 := ex8 _ _ hvs6
        refine ⟨_, rfl, _, rfl, A, vs, _, w, rfl, rfl, hv8, Evl.ixN_nat (by rw [fa5.len hvs, pj5.len]; exact hwl), ?_⟩
        have fa8 := (fa6.mono ex8).set (v := w) (t := t8) (p := at_ F2 a ++ [w]) (o := o8) hv8 (by rw [upd_same, List.map_append]; rfl) d8 c8
        have hB8 : (upd (upd (upd H5 p2 (.frz o2 (.tup []))) t8 (.frz o8 (.tup ((at_ F2 a).map iV ++ [iV w])))) A (.lst (vs.set w (.ref t8)))) B = some (.lst (S2.map iV)) := by
          rw [upd_ne AB.symm]; exact ex8 _ _ hB6
        have e8 := Evl.Ex.mut (o := .lst (vs.set w (.ref t8))) ((e5.trans ex2).trans ex8) hA
        have Sl : S2.length ≤ 3000 := by
          have := nodup_len pj5.sn fun x hx => (pj5.sf x hx).1
          omega
        refine ⟨_, rfl, .inl ⟨rfl, _, SqL.of hB8⟩, _, rfl, B, _, _, rfl, rfl, hB8, by rw [List.length_map]; exact line (by omega), ?_⟩
        refine ⟨_, S2 ++ [w], _, _, rfl, Evl.Ex.mut e8 hB0, fa8.updL hB8 AB, by rw [upd_same, List.map_append]; rfl, pj7, by omega⟩
      · have ne2 : PyData.eqv (.tuple ((at_ F2 w).map intD)) (.tuple []) = false := by
          cases e : at_ F2 w with
          | nil => exact absurd e c2
          | cons x l => rfl
        rw [ne2]
        refine iteF ?_
        exact ⟨F2, S2, _, _, rfl, e5.trans ex2, fa6, hB6, M.pj_skip pj5 hw c2, hm⟩
    · rintro σ' H5 ⟨F2, S2, s5, s6, rfl, e5, fa5, hB5, pj5, hm⟩
      rw [List.length_map] at pj5
      refine ⟨M.un F2 + S2.length, by rw [hm, List.length_append, List.length_singleton]; omega, F2, S2, _, _, _, rfl, e5, fa5, hB5, M.pj_end pj5, rfl⟩
end

end T1

namespace T1
open PySem PySem.Spec PyProof.Rows L2 G
open Evl (Ex)
local macro_rules | `(tactic| walk_at "dd") => `(tactic| (dsimp only [tCB, tCons, tNil, tC, tOp, tUn, tTest, tB, tVar, tAndV, tOrV, tNotV, tIf, tAnd, tOr, tNot, tSeq, tRet, tRetN, tIfS, tAsg, gName, tDrop, tTup, tLst, tChain, tNext, tCall, L2.start]))
/-- the roads of data -/
def rdsOf (d : PyData) : List (Nat × Nat) := (items d).map fun x => rdN (rd x)
/-- the rows of neighbours -/
def nbs (n : Nat) (rs : List (Nat × Nat)) : List (List Nat) := (List.range n).map (nb rs n)
/-- the tree of n houses and the roads rs stands at a -/
structure TreeAt (K : PySem.W.Frag) (H : Hp) (a : Addr) (n : Nat) (rs : List (Nat × Nat)) (Fs : List (List (List Nat))) : Prop where
  at_ : ∃ dx r1 r2 r3, H a = some (.ins (He.ga K "Tree") dx [("houses", iV n), ("roads", r1), ("near", r2), ("ways", r3)]) ∧ Dq K H r1 (.tuple (rs.map pairD)) ∧ Dq K H r2 (rowsD (nbs n rs)) ∧ Dq K H r3 (.tuple (Fs.map rowsD)) ∧ RowsF K H r3 Fs
  fl : Fs.length = n
  fw : ∀ h F, Fs[h]? = some F → M.Ways (nbs n rs) h F
  n1 : 1 ≤ n
  n16 : n ≤ 16
  good : Good n rs
theorem TreeAt.mono {K : PySem.W.Frag} {H H' : Hp} {a : Addr} {n : Nat} {rs Fs} (e : Ex H H') (h : TreeAt K H a n rs Fs) : TreeAt K H' a n rs Fs := by
  obtain ⟨⟨dx, r1, r2, r3, z, h1, h2, h3, h4⟩, b1, b2, b3, b4, b5⟩ := h
  exact ⟨⟨dx, r1, r2, r3, e _ _ z, h1.mono e, h2.mono e, h3.mono e, h4.mono e⟩, b1, b2, b3, b4, b5⟩
/-- an error x with one field stands in dict d -/
def Err1 (K : PySem.W.Frag) (E : XK) (H : Hp) (x f : Str) (v : V) : Prop := ∀ d H', Ex H H' → H' d = some (.xd [(f, v)]) → E (.ref (He.ga K x)) (some d) H'
def okN (d : PyData) : Bool := match d with
  | .int i => decide (1 ≤ i) && decide (i ≤ 16)
  | _ => false
/-- the promise of Tree(houses, roads), H the heap before -/
def treeP (K : PySem.W.Frag) (hv rv : V) (H : Hp) (Q : Addr → Hp → Prop) (E : XK) (a : Addr) : Prop := ∃ d1 d2, Dq K H hv d1 ∧ Dq K H rv d2 ∧ (items d2).length ≤ 100000 ∧ (∀ x ∈ items d2, (items x).length ≤ 100000) ∧
  (okN d1 = false → Err1 K E H "InvalidHouses" "given" hv) ∧
  (∀ n : Nat, d1 = .int n → 1 ≤ n → n ≤ 16 → areRds d2 n = false → Err1 K E H "InvalidRoads" "given" rv) ∧
  (∀ (n : Nat) F j, d1 = .int n → 1 ≤ n → n ≤ 16 → areRds d2 n = true → M.Ways (nbs n (rdsOf d2)) 0 F → j < n → M.at_ F j = [] → (∀ m, m < j → M.at_ F m ≠ []) → Err1 K E H "NotJoined" "house" (.int j)) ∧
  (∀ (n : Nat) Fs H', d1 = .int n → areRds d2 n = true → Ex H H' → TreeAt K H' a n (rdsOf d2) Fs → (∀ F, Fs[0]? = some F → ∀ v, v < n → M.at_ F v ≠ []) → Q a H')
theorem asc_lt : ∀ {l : List (Int × Int)}, asc l = true → l.Pairwise fun p q => ltR p q = true := by
  have tr : ∀ {a b c : Int × Int}, ltR a b = true → ltR b c = true → ltR a c = true := fun {a b c} h1 h2 => by
    unfold ltR at *; simp at *; omega
  intro l h
  unfold asc at h
  rw [all_range_map] at h
  have st : ∀ i, i + 1 < l.length → ltR (l[i]?.getD (0, 0)) (l[i + 1]?.getD (0, 0)) = true := fun i hi => by
    simp at h; exact h i (by omega)
  clear h
  induction l with
  | nil => exact .nil
  | cons a l ih =>
    have ih' := ih fun i hi => by have z := st (i + 1) (by simp only [List.length_cons]; omega); simpa using z
    refine List.pairwise_cons.mpr ⟨?_, ih'⟩
    cases l with
    | nil => simp
    | cons b l =>
      have ab : ltR a b = true := by have z := st 0 (by simp); simpa using z
      intro c hc
      rcases List.mem_cons.1 hc with rfl | hc
      · exact ab
      · exact tr ab ((List.pairwise_cons.mp ih').1 c hc)
/-- roads that are right -/
theorem rds_good {d : PyData} {n : Nat} (h : areRds d n = true) : isSeq d = true ∧ Good n (rdsOf d) ∧ items d = (rdsOf d).map pairD ∧ ((rdsOf d).length : Int) = n - 1 := by
  unfold areRds at h
  simp only [Bool.and_eq_true, decide_eq_true_eq, List.all_eq_true] at h
  obtain ⟨h1, h2, h3, h4⟩ := h
  have pr : ∀ x ∈ items d, x = pairD (rdN (rd x)) ∧ (rdN (rd x)).1 < (rdN (rd x)).2 ∧ (rdN (rd x)).2 < n := fun x hx => by
    obtain ⟨u, v, rfl, a1, a2, a3, a4, a5⟩ := isRd_of (h3 x hx)
    refine ⟨?_, ?_, ?_⟩
    · simp only [rd, rdN, pairD, intD]
      rw [Int.toNat_of_nonneg a1, Int.toNat_of_nonneg a3]
    · simp only [rd, rdN]; omega
    · simp only [rd, rdN]; omega
  refine ⟨h1, ⟨fun p hp => ?_, ?_⟩, ?_, by rw [rdsOf, List.length_map]; exact h2⟩
  · obtain ⟨x, hx, rfl⟩ := List.mem_map.mp hp
    exact (pr x hx).2
  · have z := asc_lt h4
    rw [List.pairwise_map] at z
    rw [rdsOf, List.Nodup, List.pairwise_map]
    refine z.imp_of_mem fun {x y} hx hy l e => ?_
    have e1 := (pr x hx).1
    have e2 := (pr y hy).1
    rw [e] at e1
    have : x = y := e1.trans e2.symm
    subst this
    unfold ltR at l; simp at l
  · rw [rdsOf, List.map_map]
    exact ((List.map_congr_left fun x hx => ((pr x hx).1).symm).trans (List.map_id _)).symm
theorem canLay_ints (l : List Nat) : PyData.canLayAll0 (l.map intD) = true := by
  induction l with
  | nil => rfl
  | cons k l ih => simp only [List.map_cons, PyData.canLayAll0, ih, Bool.and_true]; rfl
theorem depth_ints (l : List Nat) : PyData.depthAll (l.map intD) ≤ 1 := by
  induction l with
  | nil => simp [PyData.depthAll]
  | cons k l ih => simp only [List.map_cons, PyData.depthAll, intD, PyData.depth]; omega
theorem tups_ints (l : List Nat) : tupsAll (l.map intD) = true := by
  induction l with
  | nil => rfl
  | cons k l ih => simp only [List.map_cons, tupsAll, ih, Bool.and_true]; rfl
theorem tups_row (l : List Nat) : tups (rowD l) = true := by unfold rowD; rw [tups]; exact tups_ints l
theorem tups_rows (F : List (List Nat)) : tups (rowsD F) = true := by
  unfold rowsD; rw [tups, tupsAll_iff]
  intro d hd
  obtain ⟨l, _, rfl⟩ := List.mem_map.mp hd
  exact tups_row l
theorem shaped_rows (F : List (List Nat)) : SeqAt.shaped (rowsD F) = true := by
  have a : PyData.canLayAll0 (F.map rowD) = true ∧ PyData.depthAll (F.map rowD) ≤ 2 := by
    induction F with
    | nil => exact ⟨rfl, by simp [PyData.depthAll]⟩
    | cons l F ih =>
      have := depth_ints l
      refine ⟨?_, ?_⟩
      · simp only [List.map_cons, PyData.canLayAll0, ih.1, Bool.and_true, rowD, PyData.canLay0]; exact canLay_ints l
      · simp only [List.map_cons, PyData.depthAll, rowD, PyData.depth]; omega
  unfold SeqAt.shaped rowsD
  rw [Bool.and_eq_true, decide_eq_true_eq]
  exact ⟨by simpa [PyData.canLay0] using a.1, by simp only [PyData.depth]; omega⟩
theorem eqv_row (l : List Nat) : PyData.eqv (rowD l) (.tuple []) = l.isEmpty := by
  cases l <;> rfl
theorem any_row (F : List (List Nat)) : ((F.map rowD).any fun z => PyData.eqv z (.tuple [])) = F.any (·.isEmpty) := by
  rw [List.any_map]
  congr 1
  funext l
  exact eqv_row l
theorem at_of {F : List (List Nat)} {v : Nat} {l : List Nat} (h : F[v]? = some l) : M.at_ F v = l := by unfold M.at_; rw [h]; rfl
def sp_Tree___init__ (K : PySem.W.Frag) : Sp := sp3 fun a b c H Q E => ∃ H0 s dx, a = .ref s ∧ Ex H0 H ∧ H0 s = none ∧ H s = some (.ins (He.ga K "Tree") dx []) ∧ treeP K b c H0 (fun _ H' => Q .non H') E s
section
variable {K : PySem.W.Frag} {mg : Str → Option Value} {P : Program} {w : World} {base : Heap}
theorem ok_Tree___init__ (T : Tx K mg) : ∃ fd, FunD K "__init__" "Tree.__init__" (defArgs st_Tree___init__) (defBody st_Tree___init__) (defScope st_Tree___init__) [] [] (He.ma K (He.ga K "Tree") "__init__") fd ∧ FG P w K mg base (L2.CX P w) 5 (He.ma K (He.ga K "Tree") "__init__") fd ["self", "houses", "roads"] (sp_Tree___init__ K) := by
  obtain ⟨fd, F⟩ := fD_Tree___init__ T
  refine ⟨fd, F, fg_of F sc_Tree___init__ (fun vs H Q E h => len3 h) (fun cdv A outer s H vs Q E hr h => ?_)⟩
  obtain ⟨a, b, c, rfl, h⟩ := h
  refine ⟨_, (pss_cons (ps_if (PW.pt (pw_or (pt_not (pt_val (pe_c (ok_is_integer T) (hr.mono (by decide)) rfl pass0 (pa_cons (pv 1) pa_nil)))) (pw_or1 (pt_not (pt_chain op_le op_le pe_int (pv 1) (pe_glob (v := .int 16) rfl (T.con_MOST_HOUSES).choose_spec ⟨_, rfl⟩)))))) (pss_one (ps_raise rfl (takes_of rfl rfl rfl rfl) (pmk_InvalidHouses T hr rfl (pa_cons (pv 1) pa_nil)))) pss_nil)
      (pss_cons (ps_if (pt_not (pt_val (pe_c (ok_are_roads T) (hr.mono (by decide)) rfl pass0 (pa_cons (pv 2) (pa_cons (pv 1) pa_nil))))) (pss_one (ps_raise rfl (takes_of rfl rfl rfl rfl) (pmk_InvalidRoads T hr rfl (pa_cons (pv 2) pa_nil)))) pss_nil)
      (pss_cons (ps_fld (pv 0) (pv 1) rfl)
      (pss_cons (ps_fld (pv 0) (pe_callTy (call_tupK (K := K)) (by rfl) (T.free 15 rfl) (by decide +kernel) (pa_cons (pv 2) pa_nil)) rfl)
      (pss_cons (ps_fld (pv 0) (pe_c (ok_joined_by T) (hr.mono (by decide)) rfl pass0 (pa_cons (pv 1) (pa_cons (pv 2) pa_nil))) rfl)
      (pss_cons (ps_fld (pv 0) (pe_callTy (call_tupK (K := K)) (by rfl) (T.free 15 rfl) (by decide +kernel) (pa_cons (pe_lc (own := [("house", 3)]) rfl sc_Tree___init__.nd (pi_range1 (by rfl) (T.free 10 rfl) (pa_cons (pv 1) pa_nil)) (blkOk_by (own := [("house", 3)]) (N := ["self", "houses", "roads", "house"]) (sc := defScope st_Tree___init__) (by decide +kernel)) (fun _ _ _ _ _ => (pg_name (i := 3) sc_Tree___init__.nd rfl (Or.inl rfl))) (fun _ _ _ _ _ => pts_nil) (fun _ _ _ _ _ => (pe_c (ok_ways_from T) (hr.mono (by decide)) rfl pass0 (pa_cons (pe_fldK (K := K) (pv 0)) (pa_cons (pv 3) pa_nil))))) pa_nil)) rfl)
      (pss_one (ps_if (pt_cmpR (op_inT (K := K) (hu65 hr.r)) (pe_tup pa_nil) (pe_ix (ix_tupK (K := K)) (pe_fldK (K := K) (pv 0)) pe_int (fun _ _ => rfl)) (by with_unfolding_all rfl)) (pss_one (ps_raise rfl (takes_of rfl rfl rfl rfl) (pmk_NotJoined T hr rfl (pa_cons (pe_bmT PySem.F.plainAttrs_tuple PySem.F.slot_tuple_index PySem.F.type_tuple_index (mt_indexT (K := K) (hu65 hr.r)) (pe_ix (ix_tupK (K := K)) (pe_fldK (K := K) (pv 0)) pe_int (fun _ _ => rfl)) (pa_cons (pe_tup pa_nil) pa_nil)) pa_nil)))) pss_nil)))))))), ?_⟩
  obtain ⟨H0, s0, dx, rfl, e0, hs0, hs, d1, d2, hd1, hd2, hl, hl2, q1, q2, q3, q4⟩ := h
  refine seq_at ?_
  refine ⟨_, rfl, _, rfl, d1, hd1.mono e0, _, rfl, ?_⟩
  cases hi : isInt d1 with
  | false =>
    refine iteT (iteT ?_)
    exact ⟨_, rfl, _, rfl, fun d H' _ e hx => q1 (by cases d1 <;> first | rfl | cases hi) d H' (e0.trans e) hx⟩
  | true =>
  obtain ⟨i, rfl⟩ : ∃ i, d1 = .int i := by cases d1 <;> first | exact ⟨_, rfl⟩ | cases hi
  cases hd1
  refine iteF ?_
  refine ⟨_, rfl, 1, i, rfl, rfl, _, rfl, ?_⟩
  by_cases c1 : (1 : Int) ≤ i
  · rw [decide_eq_true c1]
    refine iteT ⟨i, 16, rfl, rfl, _, rfl, ?_⟩
    by_cases c2 : i ≤ 16
    · rw [decide_eq_true c2]
      refine iteF ?_
      obtain ⟨n, rfl⟩ : ∃ n : Nat, i = n := ⟨i.toNat, by omega⟩
      dsimp only [tNext]
      refine seq_at ?_
      have n1 : 1 ≤ n := by omega
      have n16 : n ≤ 16 := by omega
      refine ⟨_, rfl, _, rfl, _, _, rfl, d2, n, hd2.mono e0, rfl, hl, hl2, fun H1 e1 => ⟨_, rfl, ?_⟩⟩
      have e01 := e0.trans e1
      cases ar : areRds d2 n with
      | false =>
        refine iteT ?_
        exact ⟨_, rfl, _, rfl, fun d H' _ e hx => q2 n rfl n1 n16 ar d H' (e01.trans e) hx⟩
      | true =>
      refine iteF ?_
      obtain ⟨isq, G, ie, rl⟩ := rds_good ar
      dsimp only [tNext]
      refine seq_at ?_
      refine ⟨_, rfl, _, rfl, s0, _, dx, [], rfl, e1 _ _ hs, cl_Tree T, no_Tree_houses T, by decide, ?_⟩
      dsimp only
      refine seq_at ?_
      have e02 := Evl.Ex.mut (o := .ins (He.ga K "Tree") dx (putF "houses" (.int (n : Int)) [])) e01 hs0
      obtain ⟨p, xs, rfl, hx, hds⟩ := dq_seq hd2 isq
      rw [ie] at hds
      refine fld_at (cb_at ⟨_, rfl, ?_⟩)
      refine tup_any (hx.imp (Evl.ex_l e02) (Evl.ex_t e02)) (hds.mono e02) fun r1 H2 e2 hr1 => ?_
      refine ⟨_, rfl, s0, _, dx, _, rfl, e2 _ _ upd_same, cl_Tree T, no_Tree_roads T, (by decide : (1 : Nat) < 1000), ?_⟩
      dsimp only
      refine seq_at ?_
      have g2 := e2 _ _ (upd_same (H := H1) (a := s0) (o := .ins (He.ga K "Tree") dx (putF "houses" (.int (n : Int)) [])))
      have e03 := Evl.Ex.mut (o := .ins (He.ga K "Tree") dx (putF "roads" r1 (putF "houses" (.int (n : Int)) []))) (e02.trans e2) hs0
      have hr1' := Dq.ins (o := .ins (He.ga K "Tree") dx (putF "roads" r1 (putF "houses" (.int (n : Int)) []))) g2 hr1
      refine ⟨_, rfl, _, rfl, _, _, rfl, n, rdsOf d2, d2, rfl, by omega, hd2.mono e03, isq, ie, by omega, G, fun r2 H3 e3 hr2 => ?_⟩
      have g3 := e3 _ _ (upd_same (H := H2) (a := s0) (o := .ins (He.ga K "Tree") dx (putF "roads" r1 (putF "houses" (.int (n : Int)) []))))
      refine ⟨_, rfl, s0, _, dx, _, rfl, g3, cl_Tree T, no_Tree_near T, (by show 2 < 1000; decide), ?_⟩
      have e04 := Evl.Ex.mut (o := .ins (He.ga K "Tree") dx (putF "near" r2 (putF "roads" r1 (putF "houses" (.int (n : Int)) [])))) (e03.trans e3) hs0
      have hr1'' := Dq.ins (o := .ins (He.ga K "Tree") dx (putF "near" r2 (putF "roads" r1 (putF "houses" (.int (n : Int)) [])))) g3 (hr1'.mono e3)
      have hr2' := Dq.ins (o := .ins (He.ga K "Tree") dx (putF "near" r2 (putF "roads" r1 (putF "houses" (.int (n : Int)) [])))) g3 hr2
      dsimp only
      refine seq_at (fld_at (cb_at ?_))
      refine lc_at (n := n) (item := fun i => .int (0 + i)) (fun _ => true) (fun i D y H' => ∃ F, M.Ways (nbs n (rdsOf d2)) i F ∧ Dq K (L2.del H' D) y (rowsD F) ∧ FrzT (L2.del H' D) y ∧ RF K (L2.del H' D) y F) (line_big (by omega)) (fun P q => w_rng1 (fun Q q => ⟨_, rfl, q⟩) (by omega) fun J H1 e S => q J H1 e (S.mono e)) ?_ ?_ ?_ ?_
      · rintro i D y H' o _ ⟨F, h1, h2⟩
        exact ⟨F, h1, by rw [del_upd]; exact h2⟩
      · rintro i D y H' H'' e ⟨F, h1, h2⟩
        exact ⟨F, h1, h2.1.mono (Ex.del e), h2.2.1.mono (Ex.del e), h2.2.2.mono (Ex.del e)⟩
      · rintro i D H5 hi hD e5 ⟨ac, hac⟩ Ny Nn hy _
        refine ⟨rfl, ?_⟩
        have ei : ((0 : Int) + (i : Int)) = ((i : Nat) : Int) := by omega
        have ln : (nbs n (rdsOf d2)).length = n := by unfold nbs; rw [List.length_map, List.length_range]
        refine ⟨_, rfl, s0, _, dx, _, _, rfl, e5 _ _ upd_same, cl_Tree T, no_Tree_near T, rfl, _, rfl, _, _, rfl, nbs n (rdsOf d2), i, hr2'.mono e5, by rw [ei], by rw [ln]; exact hi, by rw [ln]; omega, ?_, fun r H6 F e6 hF hr hz hrf => ?_⟩
        · rw [ln]
          intro l hl v hv
          obtain ⟨h, _, rfl⟩ := List.mem_map.mp hl
          unfold nb at hv
          exact List.mem_range.mp (List.mem_filter.mp hv).1
        · exact hy _ _ rfl e6 ⟨F, hF, hr.del (e6 _ _ hac) (tups_rows F), hz.del (e6 _ _ hac), RF.del (e6 _ _ hac) hrf⟩
      · intro D ys H5 hD e5 hd5 f
        rw [range_all] at f
        obtain ⟨Fs, f1, f2⟩ := f2_choose f
        obtain ⟨fl, fw⟩ := f2_range f1
        have fd := (f2_dq (f2.imp fun _ _ h => h.1)).mono Ex.ofDel
        have fz : ∀ i v, ys[i]? = some v → FrzT H5 v := fun i v hv => by
          have g : ∀ {cs : List (List (List Nat))} {vs : List V}, F2 (fun F y => Dq K (L2.del H5 D) y (rowsD F) ∧ FrzT (L2.del H5 D) y ∧ RF K (L2.del H5 D) y F) cs vs → ∀ {i : Nat} {v : V}, vs[i]? = some v → FrzT H5 v := by
            intro cs vs h
            induction h with
            | nil => intro i v hv; simp at hv
            | cons h _ ih =>
              intro i v hv
              cases i with
              | zero => simp at hv; subst hv; exact h.2.1.mono Ex.ofDel
              | succ i => exact ih (by simpa using hv)
          exact g f2 hv
        have rf : F2 (fun F y => RF K H5 y F) Fs ys := f2.imp fun _ _ h => h.2.2.mono Ex.ofDel
        refine ⟨D, ys, rfl, .inl ⟨SqL.of hd5, fun p3 hl3 => ?_⟩⟩
        have e6 := Evl.Ex.new (o := .tup ys) hl3
        have sq3 : SqT K (upd H5 p3 (.tup ys)) p3 ys := SqT.of upd_same
        generalize upd H5 p3 (.tup ys) = H6 at e6 sq3 ⊢
        have e06 := e5.trans e6
        refine ⟨_, rfl, s0, _, dx, _, rfl, e06 _ _ upd_same, cl_Tree T, no_Tree_ways T, (by show 3 < 1000; decide), ?_⟩
        dsimp only
        have e05 := e04.trans e06
        generalize hF5 : HO.ins (He.ga K "Tree") dx (putF "ways" (.ref p3) (putF "near" r2 (putF "roads" r1 (putF "houses" (.int (n : Int)) [])))) = o5
        have t1 := Dq.ins (o := o5) (e06 _ _ upd_same) (hr1''.mono e06)
        have t2 := Dq.ins (o := o5) (e06 _ _ upd_same) (hr2'.mono e06)
        have hx3 := SqT.ins (o := o5) sq3 (e06 _ _ upd_same)
        have hds3 := Dqs.ins (o := o5) (e06 _ _ upd_same) (fd.mono e6)
        have rf7 : F2 (fun F y => RF K (upd H6 s0 o5) y F) Fs ys := rf.imp fun _ _ h => RF.ins (e06 _ _ upd_same) (h.mono e6)
        have fz7 : ∀ i v, ys[i]? = some v → FrzT (upd H6 s0 o5) v := fun i v hv => ((fz i v hv).mono e6).ins (e06 _ _ upd_same)
        have e7 := Evl.Ex.mut (o := o5) e05 hs0
        generalize hH7 : upd H6 s0 o5 = H7 at *
        have g7 : H7 s0 = some o5 := by rw [← hH7]; exact upd_same
        obtain ⟨F0, hF0⟩ : ∃ F0, Fs[0]? = some F0 := ⟨_, List.getElem?_eq_getElem (by omega)⟩
        have hW := fw 0 F0 hF0
        subst hF5
        obtain ⟨v0, hv0, hq0⟩ := hds3.at_ (i := 0) (d := rowsD F0) (by rw [List.getElem?_map, hF0]; rfl)
        refine ⟨Nat.zero_le _, fun p7 hp7 => ?_⟩
        have e8 := Evl.Ex.new (o := .tup []) hp7
        refine ⟨_, rfl, s0, _, dx, _, _, rfl, e8 _ _ g7, cl_Tree T, no_Tree_ways T, rfl, p3, ys, 0, v0, rfl, rfl, Evl.ex_t e8 hx3, atI_nat (j := 0) hv0, ?_⟩
        have sh0 : SeqAt.shaped (.tuple (F0.map rowD)) = true := shaped_rows F0
        refine ⟨.tuple [], F0.map rowD, dp_tup (l := []) upd_same, (hq0.mono e8).dp (SeqAt.canLay_of_shaped sh0), (shaped_ints []).2, sh0, _, rfl, ?_⟩
        rw [any_row]
        cases ea : F0.any (·.isEmpty) with
        | false =>
          refine iteF ?_
          have al : ∀ v, v < n → M.at_ F0 v ≠ [] := fun v hv => by
            have lF : F0.length = n := by rw [hW.len]; unfold nbs; rw [List.length_map, List.length_range]
            intro z
            have hm : F0[v]? = some F0[v] := List.getElem?_eq_getElem (by omega)
            rw [at_of hm] at z
            have : F0.any (·.isEmpty) = true := List.any_eq_true.mpr ⟨_, List.mem_of_getElem? hm, by rw [z]; rfl⟩
            rw [ea] at this; cases this
          refine q4 n Fs _ rfl ar (e7.trans e8) ?_ fun F hF => by rw [hF0] at hF; cases hF; exact al
          exact TreeAt.mono e8 ⟨⟨dx, r1, r2, _, g7, t1, t2, .tup hx3 hds3, ⟨p3, ys, rfl, hx3, rf7⟩⟩, fl, fw, n1, n16, G⟩
        | true =>
          refine iteT ?_
          have lF : F0.length = n := by rw [hW.len]; unfold nbs; rw [List.length_map, List.length_range]
          obtain ⟨a0, xs0, rfl, hx0⟩ : ∃ a0 xs0, v0 = .ref a0 ∧ SqT K H7 a0 xs0 := by
            unfold rowsD at hq0
            cases hq0 with
            | tup h hs => exact ⟨_, _, rfl, h⟩
          have jl : F0.findIdx (·.isEmpty) < F0.length := List.findIdx_lt_length.mpr (by simpa using List.any_eq_true.mp ea)
          have jn := List.findIdx_getElem (w := jl)
          refine ⟨_, rfl, s0, _, dx, _, _, rfl, e8 _ _ g7, cl_Tree T, no_Tree_ways T, rfl, p3, ys, 0, _, rfl, rfl, Evl.ex_t e8 hx3, atI_nat (j := 0) hv0, ?_⟩
          refine ⟨(fz7 _ _ hv0).mono e8, Nat.zero_le _, fun p9 hp9 => ?_⟩
          have e9 := e8.trans (Evl.Ex.new (o := .tup []) hp9)
          refine ⟨_, _, .tuple [], F0.map rowD, F0.findIdx (·.isEmpty), rowD (F0[F0.findIdx (·.isEmpty)]), rfl, rfl, (hq0.mono e9).dp (SeqAt.canLay_of_shaped sh0), dp_tup (l := []) upd_same, sh0, (shaped_ints []).2, ?_, ?_, ?_, ?_⟩
          · rw [List.getElem?_map, List.getElem?_eq_getElem jl]; rfl
          · rw [eqv_row]; exact jn
          · intro m z' hm hz
            rw [List.getElem?_map] at hz
            obtain ⟨l, h1, rfl⟩ := Option.map_eq_some_iff.mp hz
            rw [eqv_row]
            have := List.not_of_lt_findIdx hm
            obtain ⟨hml, h2⟩ := List.getElem?_eq_some_iff.mp h1
            rw [h2] at this
            simpa using this
          · refine ⟨_, rfl, fun d H' _ e hx => q3 n F0 (F0.findIdx (·.isEmpty)) rfl n1 n16 ar hW (by omega) ?_ ?_ d H' ((e7.trans e9).trans e) hx⟩
            · rw [at_of (List.getElem?_eq_getElem jl)]; simpa using jn
            · intro m hm z
              have hml : m < F0.length := by omega
              rw [at_of (List.getElem?_eq_getElem hml)] at z
              have := List.not_of_lt_findIdx hm
              rw [z] at this; simp at this
    · rw [decide_eq_false c2]
      refine iteT ?_
      exact ⟨_, rfl, _, rfl, fun d H' _ e hx => q1 (by simp [okN, c2]) d H' (e0.trans e) hx⟩
  · rw [decide_eq_false c1]
    refine iteF ⟨_, rfl, iteT ?_⟩
    exact ⟨_, rfl, _, rfl, fun d H' _ e hx => q1 (by simp [okN, c1]) d H' (e0.trans e) hx⟩
end

end T1

namespace T1
open PySem PySem.Spec PyProof.Rows L2 G
open Evl (Ex)
local macro_rules | `(tactic| walk_at "dd") => `(tactic| (dsimp only [tCB, tCons, tNil, tC, tOp, tUn, tTest, tB, tVar, tAndV, tOrV, tNotV, tIf, tAnd, tOr, tNot, tSeq, tRet, tRetN, tIfS, tAsg, gName, tDrop, tTup, tLst, tChain, tNext, tCall, L2.start]))
def sp_Tree___contains__ (K : PySem.W.Frag) : Sp := sp2 fun a b H Q E => ∃ s n rs Fs d, a = .ref s ∧ TreeAt K H s n rs Fs ∧ Dq K H b d ∧ Q (.bl (isIdx d n)) H
section
variable {K : PySem.W.Frag} {mg : Str → Option Value} {P : Program} {w : World} {base : Heap}
theorem ok_Tree___contains__ (T : Tx K mg) : ∃ fd, FunD K "__contains__" "Tree.__contains__" (defArgs st_Tree___contains__) (defBody st_Tree___contains__) (defScope st_Tree___contains__) [] [] (He.ma K (He.ga K "Tree") "__contains__") fd ∧ FG P w K mg base CX0 3 (He.ma K (He.ga K "Tree") "__contains__") fd ["self", "value"] (sp_Tree___contains__ K) := by
  obtain ⟨fd, F⟩ := fD_Tree___contains__ T
  refine ⟨fd, F, fg_of F sc_Tree___contains__ (fun vs H Q E h => len2 h) (fun cdv A outer s H vs Q E hr h => ?_)⟩
  obtain ⟨a, b, rfl, h⟩ := h
  refine ⟨_, (PSs.nox (pss_one (ps_ret (pe_c (ok_is_index T) (hr.mono (by decide)) rfl pass0 (pa_cons (pv 1) (pa_cons (pe_fldK (K := K) (pv 0)) pa_nil)))))), ?_⟩
  obtain ⟨s0, n, rs, Fs, d, rfl, t, hd, q⟩ := h
  obtain ⟨dx, r1, r2, r3, g, _⟩ := t.at_
  exact ⟨_, rfl, _, rfl, s0, _, dx, _, _, rfl, g, cl_Tree T, no_Tree_houses T, rfl, _, _, rfl, d, n, hd, rfl, q⟩
end
def sp_Tree___len__ (K : PySem.W.Frag) : Sp := sp1 fun a H Q E => ∃ s n rs Fs, a = .ref s ∧ TreeAt K H s n rs Fs ∧ Q (.int (n : Int)) H
section
variable {K : PySem.W.Frag} {mg : Str → Option Value} {P : Program} {w : World} {base : Heap}
theorem ok_Tree___len__ (T : Tx K mg) : ∃ fd, FunD K "__len__" "Tree.__len__" (defArgs st_Tree___len__) (defBody st_Tree___len__) (defScope st_Tree___len__) [] [] (He.ma K (He.ga K "Tree") "__len__") fd ∧ FG P w K mg base CX0 1 (He.ma K (He.ga K "Tree") "__len__") fd ["self"] (sp_Tree___len__ K) := by
  obtain ⟨fd, F⟩ := fD_Tree___len__ T
  refine ⟨fd, F, fg_of F sc_Tree___len__ (fun vs H Q E h => len1 h) (fun cdv A outer s H vs Q E hr h => ?_)⟩
  obtain ⟨a, rfl, h⟩ := h
  refine ⟨_, (PSs.nox (pss_one (ps_ret (pe_callB (call_lenK (K := K)) (by rfl) (T.free 6 rfl) (by decide +kernel) (pa_cons (pe_fldK (K := K) (pv 0)) pa_nil))))), ?_⟩
  obtain ⟨s0, n, rs, Fs, rfl, t, q⟩ := h
  obtain ⟨dx, r1, r2, r3, g, _, g2, _⟩ := t.at_
  obtain ⟨t2, xs, rfl, sx, ds⟩ := rows_at g2
  refine ⟨_, rfl, s0, _, dx, _, _, rfl, g, cl_Tree T, no_Tree_near T, rfl, t2, xs, rfl, .inr sx, ?_⟩
  have e : xs.length = n := by rw [ds.length]; unfold nbs; rw [List.length_map, List.length_map, List.length_range]
  rw [e]; exact q
end
section
variable {X : Cx} {K : PySem.W.Frag}
theorem bind1 {x qual : Str} {params : Arguments} {body : List Stmt} {scope : Scope} {kws : List (Str × V)} {f : Addr} {fd : FuncData} {ps : List Str} (F : FunD K x qual params body scope [] kws f fd)
    (hb : ∀ (kV doc pm : Value) (an : Option Addr) (cdv ct : Value) (us : List Value), us.length = ps.length → bindArgs (PySem.W.fnOf x qual params body scope .none kV doc pm an cdv ct) ⟨us, []⟩ = pure (ps.zip us)) : Binds K fd ps [] := F.bindsN hb
theorem tree_nin (T : Tx X.K X.mg) (hr : RG 3 X.A) (h : X.K = K := by rfl) : OpR X (compareOp .NotIn) (rInO (He.ga K "Tree") true (sp_Tree___contains__ K) E0) := by
  subst h
  obtain ⟨fd, F, G⟩ := ok_Tree___contains__ (P := X.prog) (w := X.w) (base := X.base) T
  exact op_ninO ⟨(me_Tree___contains__ T).at_, (me_Tree___contains__ T).fn.symm⟩ G hr (F.bindsN fun _ _ _ _ _ _ us hl => match us, hl with | [_, _], _ => rfl) pass0
theorem tree_in (T : Tx X.K X.mg) (hr : RG 3 X.A) (h : X.K = K := by rfl) : OpR X (compareOp .In) (rInO (He.ga K "Tree") false (sp_Tree___contains__ K) E0) := by
  subst h
  obtain ⟨fd, F, G⟩ := ok_Tree___contains__ (P := X.prog) (w := X.w) (base := X.base) T
  exact op_inO ⟨(me_Tree___contains__ T).at_, (me_Tree___contains__ T).fn.symm⟩ G hr (F.bindsN fun _ _ _ _ _ _ us hl => match us, hl with | [_, _], _ => rfl) pass0
theorem tree_len (T : Tx X.K X.mg) (hr : RG 2 X.A) (h : X.K = K := by rfl) : CallR X (.builtin "len") (rLenO (He.ga K "Tree") (sp_Tree___len__ K) E0) := by
  subst h
  obtain ⟨fd, F, G⟩ := ok_Tree___len__ (P := X.prog) (w := X.w) (base := X.base) T
  exact call_lenO ⟨(me_Tree___len__ T).at_, (me_Tree___len__ T).fn.symm⟩ G hr (F.bindsN fun _ _ _ _ _ _ us hl => match us, hl with | [_], _ => rfl) pass0
end
theorem TreeAt.ins {K : PySem.W.Frag} {H : Hp} {a : Addr} {n : Nat} {rs Fs} (h : TreeAt K H a n rs Fs) : InsAt (He.ga K "Tree") a H := let ⟨dx, _, _, _, g, _⟩ := h.at_; ⟨dx, _, g⟩
def sp_check_house (K : PySem.W.Frag) : Sp := sp2 fun a b H Q E => ∃ s n rs Fs d, a = .ref s ∧ TreeAt K H s n rs Fs ∧ Dq K H b d ∧ (isIdx d n = true → Q .non H) ∧ (isIdx d n = false → Err1 K E H "InvalidHouse" "given" b)
section
variable {K : PySem.W.Frag} {mg : Str → Option Value} {P : Program} {w : World} {base : Heap}
theorem ok_check_house (T : Tx K mg) : Cal P w K mg base (L2.CX P w) 4 "check_house" ["tree", "house"] (sp_check_house K) := by
  refine cal_of (fD_check_house T) (T.glo 15 rfl) sc_check_house (fun _ _ _ _ _ _ us hl => match us, hl with | [_, _], _ => rfl) (fun vs H Q E h => len2 h) (fun f cdv A outer s H vs Q E hr h => ?_)
  obtain ⟨a, b, rfl, h⟩ := h
  refine ⟨_, (pss_one (ps_if (pt_cmpR (tree_nin (K := K) T (hr.mono (by decide))) (pv 1) (pv 0) (by with_unfolding_all rfl)) (pss_one (ps_raise rfl (takes_of rfl rfl rfl rfl) (pmk_InvalidHouse T hr rfl (pa_cons (pv 1) pa_nil)))) pss_nil)), ?_⟩
  obtain ⟨s0, n, rs, Fs, d, rfl, t, hd, q1, q2⟩ := h
  refine ⟨_, rfl, _, rfl, s0, rfl, t.ins, _, _, rfl, s0, n, rs, Fs, d, rfl, t, hd, _, rfl, _, rfl, ?_⟩
  cases e : isIdx d n with
  | true => refine iteF ?_; exact q1 e
  | false =>
    refine iteT ?_
    exact ⟨_, rfl, _, rfl, fun d H' _ e' hx => q2 e d H' e' hx⟩
end

end T1

namespace T1
open PySem PySem.Spec PyProof.Rows L2 G
open Evl (Ex)
local macro_rules | `(tactic| walk_at "dd") => `(tactic| (dsimp only [tCB, tCons, tNil, tC, tOp, tUn, tTest, tB, tVar, tAndV, tOrV, tNotV, tIf, tAnd, tOr, tNot, tSeq, tRet, tRetN, tIfS, tAsg, gName, tDrop, tTup, tLst, tChain, tNext, tCall, L2.start]))
open M (at_)
def wy (Fs : List (List (List Nat))) (i j : Nat) : List Nat := at_ (Fs[i]?.getD []) j
structure TrF (K : PySem.W.Frag) (H : Hp) (s : Addr) (n : Nat) (rs : List (Nat × Nat)) (Fs : List (List (List Nat))) (dx t1 t2 t3 : Addr) (xs ys : List V) : Prop where
  g : ∃ r1, r1 = V.ref t1 ∧ H s = some (.ins (He.ga K "Tree") dx [("houses", iV n), ("roads", r1), ("near", .ref t2), ("ways", .ref t3)])
  rd : Dq K H (.ref t1) (.tuple (rs.map pairD))
  nx : SqT K H t2 xs
  nl : xs.length = n
  ni : ∀ i, i < n → ∃ tr, xs[i]? = some (.ref tr) ∧ SqT K H tr ((nb rs n i).map iV)
  wx : SqT K H t3 ys
  wi : ∀ i, i < n → ∃ ta zs, ys[i]? = some (.ref ta) ∧ SqT K H ta zs ∧ ∀ j, j < n → ∃ tr, zs[j]? = some (.ref tr) ∧ SqT K H tr ((wy Fs i j).map iV) ∧ FrzT H (.ref tr)
theorem TreeAt.f {K : PySem.W.Frag} {H : Hp} {s : Addr} {n : Nat} {rs Fs} (t : TreeAt K H s n rs Fs) : ∃ dx t1 t2 t3 xs ys, TrF K H s n rs Fs dx t1 t2 t3 xs ys := by
  obtain ⟨dx, r1, r2, r3, g, g1, g2, g3, g4⟩ := t.at_
  obtain ⟨t2, xs, rfl, sx, ds⟩ := rows_at g2
  have g1' := g1
  cases g1 with
  | @tup t1 _ _ h1 hs1 =>
  obtain ⟨t3, ys, rfl, h3, hs3⟩ := g4
  have ln : (nbs n rs).length = n := by unfold nbs; rw [List.length_map, List.length_range]
  refine ⟨dx, t1, t2, t3, xs, ys, ⟨⟨_, rfl, g⟩, g1', sx, by rw [ds.length, List.length_map, ln], fun i hi => ?_, h3, fun i hi => ?_⟩⟩
  · have e : ((nbs n rs).map rowD)[i]? = some (rowD (nb rs n i)) := by
      unfold nbs
      rw [List.getElem?_map, List.getElem?_map, List.getElem?_range hi]; rfl
    obtain ⟨v, h1, h2⟩ := ds.at_ e
    obtain ⟨tr, rfl, h⟩ := row_at h2
    exact ⟨tr, h1, h⟩
  · have hf : i < Fs.length := by rw [t.fl]; exact hi
    have eF : Fs[i]? = some Fs[i] := List.getElem?_eq_getElem hf
    obtain ⟨v, h1, ta, zs, rfl, sz, dz⟩ := F2.get hs3 eF
    refine ⟨ta, zs, h1, sz, fun j hj => ?_⟩
    have lF : Fs[i].length = n := by rw [(t.fw i _ eF).len, ln]
    have ej : Fs[i][j]? = some (Fs[i][j]'(by omega)) := List.getElem?_eq_getElem (by omega)
    obtain ⟨v, h1, tr, rfl, h2, h3⟩ := F2.get dz ej
    have same : wy Fs i j = Fs[i][j]'(by omega) := by unfold wy; rw [eF]; exact at_of ej
    exact ⟨tr, h1, same ▸ h2, h3⟩
theorem idx_nat {d : PyData} {n : Nat} (h : isIdx d n = true) : ∃ i : Nat, d = .int (i : Int) ∧ i < n := by
  obtain ⟨i, rfl, h1, h2⟩ := isIdx_int h
  exact ⟨i.toNat, by rw [Int.toNat_of_nonneg h1], by omega⟩
theorem isIdx_nat {i n : Nat} (h : i < n) : isIdx (.int (i : Int)) n = true := by
  simp only [isIdx, Bool.and_eq_true, decide_eq_true_eq]; omega
theorem inV_iff (k : Nat) (l : List Nat) : inV (iV k) (l.map iV) = l.contains k := by
  unfold inV
  rw [List.any_map, Bool.eq_iff_iff, List.any_eq_true, List.contains_iff_mem]
  constructor
  · rintro ⟨x, hx, e⟩
    have e' : ((x : Int) == (k : Int)) = true := e
    have : x = k := by have := beq_iff_eq.mp e'; omega
    exact this ▸ hx
  · exact fun h => ⟨k, h, by show ((k : Int) == (k : Int)) = true; simp⟩
theorem flat_iV (l : List Nat) : (l.map iV).all flatV = true := by
  rw [List.all_map]; exact List.all_eq_true.mpr fun _ _ => rfl
/-- an error of two fields -/
def Err2 (K : PySem.W.Frag) (E : XK) (H : Hp) (x f g : Str) (v u : V) : Prop := ∀ d H', Ex H H' → H' d = some (.xd [(g, u), (f, v)]) → E (.ref (He.ga K x)) (some d) H'
def sp_neighbours (K : PySem.W.Frag) : Sp := sp2 fun a b H Q E => ∃ s n rs Fs d, a = .ref s ∧ TreeAt K H s n rs Fs ∧ Dq K H b d ∧ (∀ (i : Nat) l, d = .int i → i < n → H l = none → Q (.ref l) (upd H l (.lst ((nb rs n i).map iV)))) ∧ (isIdx d n = false → Err1 K E H "InvalidHouse" "given" b)
section
variable {K : PySem.W.Frag} {mg : Str → Option Value} {P : Program} {w : World} {base : Heap}
theorem ok_neighbours (T : Tx K mg) : Cal P w K mg base (L2.CX P w) 5 "neighbours" ["tree", "house"] (sp_neighbours K) := by
  refine cal_of (fD_neighbours T) (T.glo 16 rfl) sc_neighbours (fun _ _ _ _ _ _ us hl => match us, hl with | [_, _], _ => rfl) (fun vs H Q E h => len2 h) (fun f cdv A outer s H vs Q E hr h => ?_)
  obtain ⟨a, b, rfl, h⟩ := h
  refine ⟨_, (pss_cons (ps_expr (pe_c (ok_check_house T) (hr.mono (by decide)) rfl (passes_call (E := E) (takes_of rfl rfl rfl rfl) fun _ _ _ _ h => h) (pa_cons (pv 0) (pa_cons (pv 1) pa_nil))))
      (pss_one (ps_ret (pe_callTy (call_listK (K := K)) (by rfl) (T.free 7 rfl) (by decide +kernel) (pa_cons (pe_ix (ix_tupK (K := K)) (pe_fldK (K := K) (pv 0)) (pv 1) (fun _ _ => rfl)) pa_nil))))), ?_⟩
  obtain ⟨s0, n, rs, Fs, d, rfl, t, hd, q1, q2⟩ := h
  refine seq_at ?_
  refine ⟨_, rfl, _, rfl, _, _, rfl, s0, n, rs, Fs, d, rfl, t, hd, fun e => ?_, q2⟩
  obtain ⟨dx, t1, t2, t3, xs, ys, f⟩ := t.f
  obtain ⟨r1, rfl, g⟩ := f.g
  obtain ⟨i, rfl, hi⟩ := idx_nat e
  obtain ⟨tr, hx, st⟩ := f.ni i hi
  cases hd
  exact ⟨_, rfl, s0, _, dx, _, _, rfl, g, cl_Tree T, no_Tree_near T, rfl, _, rfl, t2, xs, _, _, rfl, rfl, f.nx, atI_nat hx, _, _, rfl, .inr st, fun l hl => q1 i l rfl hi hl⟩
end
def sp_way (K : PySem.W.Frag) : Sp := sp3 fun a b c H Q E => ∃ s n rs Fs d e, a = .ref s ∧ TreeAt K H s n rs Fs ∧ Dq K H b d ∧ Dq K H c e ∧ (∀ (i j : Nat) tr, d = .int i → e = .int j → i < n → j < n → SqT K H tr ((wy Fs i j).map iV) → FrzT H (.ref tr) → Q (.ref tr) H) ∧
  (isIdx d n = false → Err1 K E H "InvalidHouse" "given" b) ∧ (isIdx d n = true → isIdx e n = false → Err1 K E H "InvalidHouse" "given" c)
section
variable {K : PySem.W.Frag} {mg : Str → Option Value} {P : Program} {w : World} {base : Heap}
theorem ok_way (T : Tx K mg) : Cal P w K mg base (L2.CX P w) 5 "way" ["tree", "a", "b"] (sp_way K) := by
  refine cal_of (fD_way T) (T.glo 17 rfl) sc_way (fun _ _ _ _ _ _ us hl => match us, hl with | [_, _, _], _ => rfl) (fun vs H Q E h => len3 h) (fun f cdv A outer s H vs Q E hr h => ?_)
  obtain ⟨a, b, c, rfl, h⟩ := h
  refine ⟨_, (pss_cons (ps_expr (pe_c (ok_check_house T) (hr.mono (by decide)) rfl (passes_call (E := E) (takes_of rfl rfl rfl rfl) fun _ _ _ _ h => h) (pa_cons (pv 0) (pa_cons (pv 1) pa_nil))))
      (pss_cons (ps_expr (pe_c (ok_check_house T) (hr.mono (by decide)) rfl (passes_call (E := E) (takes_of rfl rfl rfl rfl) fun _ _ _ _ h => h) (pa_cons (pv 0) (pa_cons (pv 2) pa_nil))))
      (pss_one (ps_ret (pe_ix (ix_tupK (K := K)) (pe_ix (ix_tupK (K := K)) (pe_fldK (K := K) (pv 0)) (pv 1) (fun _ _ => rfl)) (pv 2) (fun _ _ => rfl)))))), ?_⟩
  obtain ⟨s0, n, rs, Fs, d, e, rfl, t, hd, he, q1, q2, q3⟩ := h
  refine seq_at ?_
  refine ⟨_, rfl, _, rfl, _, _, rfl, s0, n, rs, Fs, d, rfl, t, hd, fun ei => ?_, q2⟩
  refine seq_at ?_
  refine ⟨_, rfl, _, rfl, _, _, rfl, s0, n, rs, Fs, e, rfl, t, he, fun ej => ?_, q3 ei⟩
  obtain ⟨dx, t1, t2, t3, xs, ys, f⟩ := t.f
  obtain ⟨r1, rfl, g⟩ := f.g
  obtain ⟨i, rfl, hi⟩ := idx_nat ei
  obtain ⟨j, rfl, hj⟩ := idx_nat ej
  obtain ⟨ta, zs, hy, sz, w⟩ := f.wi i hi
  obtain ⟨tr, hz, st, fz⟩ := w j hj
  cases hd; cases he
  exact ⟨_, rfl, s0, _, dx, _, _, rfl, g, cl_Tree T, no_Tree_ways T, rfl, _, rfl, t3, ys, _, _, rfl, rfl, f.wx, atI_nat hy, _, rfl, ta, zs, _, _, rfl, rfl, sz, atI_nat hz, q1 i j tr rfl rfl hi hj st fz⟩
end

end T1

namespace T1
open PySem PySem.Spec PyProof.Rows L2 G
open Evl (Ex)
local macro_rules | `(tactic| walk_at "dd") => `(tactic| (dsimp only [tCB, tCons, tNil, tC, tOp, tUn, tTest, tB, tVar, tAndV, tOrV, tNotV, tIf, tAnd, tOr, tNot, tSeq, tRet, tRetN, tIfS, tAsg, gName, tDrop, tTup, tLst, tChain, tNext, tCall, L2.start]))
theorem shaped_rds (rs : List (Nat × Nat)) : SeqAt.shaped (.tuple (rs.map pairD)) = true := by
  have a : PyData.canLayAll0 (rs.map pairD) = true ∧ PyData.depthAll (rs.map pairD) ≤ 2 := by
    induction rs with
    | nil => exact ⟨rfl, by simp [PyData.depthAll]⟩
    | cons l F ih =>
      refine ⟨?_, ?_⟩
      · simp only [List.map_cons, PyData.canLayAll0, ih.1, Bool.and_true]; rfl
      · have : (pairD l).depth ≤ 2 := by simp [pairD, intD, PyData.depth, PyData.depthAll]
        simp only [List.map_cons, PyData.depthAll]; omega
  unfold SeqAt.shaped
  rw [Bool.and_eq_true, decide_eq_true_eq]
  exact ⟨by simpa [PyData.canLay0] using a.1, by simp only [PyData.depth]; omega⟩
theorem eqv_pair (p q : Nat × Nat) : PyData.eqv (pairD p) (pairD q) = decide (p = q) := by
  obtain ⟨a, b⟩ := p; obtain ⟨c, d⟩ := q
  have : PyData.eqv (pairD (a, b)) (pairD (c, d)) = (((a : Int) == c) && (((b : Int) == d) && true)) := rfl
  rw [this, Bool.and_true, Bool.eq_iff_iff]; simp; omega
theorem eqv_rds : ∀ (rs qs : List (Nat × Nat)), PyData.eqv (.tuple (rs.map pairD)) (.tuple (qs.map pairD)) = decide (rs = qs)
  | [], [] => rfl
  | [], _ :: _ => rfl
  | _ :: _, [] => rfl
  | p :: rs, q :: qs => by
    have e : PyData.eqv (.tuple ((p :: rs).map pairD)) (.tuple ((q :: qs).map pairD)) = (PyData.eqv (pairD p) (pairD q) && PyData.eqv (.tuple (rs.map pairD)) (.tuple (qs.map pairD))) := rfl
    rw [e, eqv_pair, eqv_rds rs qs, Bool.eq_iff_iff]; simp
def sp_Tree___eq__ (K : PySem.W.Frag) : Sp := sp2 fun a b H Q E => ∃ s n rs Fs, a = .ref s ∧ TreeAt K H s n rs Fs ∧ ((∃ s2 n2 rs2 Fs2, b = .ref s2 ∧ TreeAt K H s2 n2 rs2 Fs2 ∧ Q (.bl (decide (n = n2) && decide (rs = rs2))) H) ∨ ((∃ d, Dq K H b d) ∧ Q (.bl false) H))
section
variable {K : PySem.W.Frag} {mg : Str → Option Value} {P : Program} {w : World} {base : Heap}
theorem ok_Tree___eq__ (T : Tx K mg) : ∃ fd, FunD K "__eq__" "Tree.__eq__" (defArgs st_Tree___eq__) (defBody st_Tree___eq__) (defScope st_Tree___eq__) [] [] (He.ma K (He.ga K "Tree") "__eq__") fd ∧ FG P w K mg base CX0 1 (He.ma K (He.ga K "Tree") "__eq__") fd ["self", "other"] (sp_Tree___eq__ K) := by
  obtain ⟨fd, F⟩ := fD_Tree___eq__ T
  refine ⟨fd, F, fg_of F sc_Tree___eq__ (fun vs H Q E h => len2 h) (fun cdv A outer s H vs Q E hr h => ?_)⟩
  obtain ⟨a, b, rfl, h⟩ := h
  refine ⟨_, (PSs.nox (pss_one (ps_ret (pe_and (pe_callB (call_isiK' (K := K)) (by rfl) (T.free 5 rfl) (by decide +kernel) (pa_cons (pv 1) (pa_cons (pe_glob (v := .ref (He.ga K "Tree")) rfl (T.glo 6 rfl) rfl) pa_nil))) (pe_and (pe_cmpR op_eq (pe_fldK (K := K) (pv 0)) (pe_fldK (K := K) (pv 1)) (nomark _)) (pe_one (pe_cmpR (op_eqDK (K := K) (hu64 hr.r)) (pe_fldK (K := K) (pv 0)) (pe_fldK (K := K) (pv 1)) (nomark _)))))))), ?_⟩
  obtain ⟨s0, n, rs, Fs, rfl, t, h⟩ := h
  rcases h with ⟨s2, n2, rs2, Fs2, rfl, t2, q⟩ | ⟨⟨d, hd⟩, q⟩
  · refine ⟨_, rfl, ?_⟩
    walk_at "dd"
    refine isi_own_o (y := "Tree") (T.own 0 rfl) (T.own 0 rfl) (cl_Tree T) (by decide) t2.ins ⟨_, rfl, ?_⟩
    refine iteT ?_
    obtain ⟨dx, u1, u2, u3, xs, ys, f⟩ := t.f
    obtain ⟨_, rfl, g⟩ := f.g
    obtain ⟨dx2, w1, w2, w3, xs2, ys2, f2⟩ := t2.f
    obtain ⟨_, rfl, g2⟩ := f2.g
    refine ⟨_, rfl, s0, _, dx, _, _, rfl, g, cl_Tree T, no_Tree_houses T, rfl, _, rfl, s2, _, dx2, _, _, rfl, g2, cl_Tree T, no_Tree_houses T, rfl, rfl, _, rfl, ?_⟩
    by_cases c : n = n2
    · subst c
      rw [decide_eq_true (show iV n = iV n from rfl)]
      refine iteT ?_
      refine ⟨_, rfl, s0, _, dx, _, _, rfl, g, cl_Tree T, no_Tree_roads T, rfl, _, rfl, s2, _, dx2, _, _, rfl, g2, cl_Tree T, no_Tree_roads T, rfl, ?_⟩
      refine ⟨_, _, f.rd.dp (SeqAt.canLay_of_shaped (shaped_rds rs)), f2.rd.dp (SeqAt.canLay_of_shaped (shaped_rds rs2)), shaped_rds rs, shaped_rds rs2, ?_⟩
      rw [eqv_rds]
      simpa using q
    · rw [decide_eq_false (show ¬ iV n = iV n2 from fun z => c (by have := V.int.inj z; omega))]
      refine iteF ?_
      simpa [c] using q
  · refine ⟨_, rfl, ?_⟩
    walk_at "dd"
    refine isi_own_d (T.own 0 rfl) hd ⟨_, rfl, ?_⟩
    exact q
end

end T1

namespace T1
open PySem PySem.Spec PyProof.Rows L2 G
open Evl (Ex)
local macro_rules | `(tactic| walk_at "dd") => `(tactic| (dsimp only [tCB, tCons, tNil, tC, tOp, tUn, tTest, tB, tVar, tAndV, tOrV, tNotV, tIf, tAnd, tOr, tNot, tSeq, tRet, tRetN, tIfS, tAsg, gName, tDrop, tTup, tLst, tChain, tNext, tCall, L2.start]))
/-- a box of draws stands at A, with at most c of its own draws taken -/
def BoxAt (H : Hp) (A : Addr) (c : Nat) : Prop := ∃ (x : Int) (b : Bool) (y : Int) (k : Int), H A = some (.lst [.int x, .bl b, .int y, .int k]) ∧ 0 ≤ x ∧ 0 ≤ y ∧ y < 2147483648 ∧ 0 ≤ k ∧ k ≤ c
theorem BoxAt.mono {H H' : Hp} {A : Addr} {c : Nat} (e : Ex H H') (h : BoxAt H A c) : BoxAt H' A c := let ⟨x, b, y, k, z, r⟩ := h; ⟨x, b, y, k, e _ _ z, r⟩
theorem BoxAt.up {H : Hp} {A : Addr} {c d : Nat} (h : BoxAt H A c) (l : c ≤ d) : BoxAt H A d := let ⟨x, b, y, k, z, h1, h2, h3, h4, h5⟩ := h; ⟨x, b, y, k, z, h1, h2, h3, h4, by omega⟩
theorem BoxAt.some {H : Hp} {A : Addr} {c : Nat} (h : BoxAt H A c) : ∃ l, H A = some (.lst l) := let ⟨_, _, _, _, z, _⟩ := h; ⟨_, z⟩
theorem ex_upd_del {H H' : Hp} {A : Addr} {o : HO} (e : Ex (L2.del H A) H') : Ex (L2.del H A) (upd H' A o) := Evl.Ex.mut e del_same
theorem ex_of_del {B H H' : Hp} {A : Addr} (b : Ex B H) (n : B A = none) (e : Ex (L2.del H A) H') : Ex B H' := fun a o z => by
  refine e a o ?_
  rw [del_ne (fun q => by rw [q, n] at z; cases z)]
  exact b a o z
def sp__law_cell (K : PySem.W.Frag) : Sp := sp2 fun a b H Q E => ∃ (p : Addr) (ns : List Int) (k : Nat), a = .ref p ∧ SqL K H p (ns.map V.int) ∧ b = .int (k : Int) ∧ ∀ z H', Ex H H' → Q (.int z) H'
section
variable {K : PySem.W.Frag} {mg : Str → Option Value} {P : Program} {w : World} {base : Heap}
theorem ok__law_cell (T : Tx K mg) : Cal P w K mg base CX0 1 "_law_cell" ["_law_script", "_law_k"] (sp__law_cell K) := by
  refine cal_of (fD__law_cell T) (T.glo 20 rfl) sc__law_cell (fun _ _ _ _ _ _ us hl => match us, hl with | [_, _], _ => rfl) (fun vs H Q E h => len2 h) (fun f cdv A outer s H vs Q E hr h => ?_)
  obtain ⟨a, b, rfl, h⟩ := h
  refine ⟨_, (PSs.nox (pss_one (ps_ret (pe_ifExp (pt_cmpR op_lt (pv 1) (pe_callB (call_lenK (K := K)) (by rfl) (T.free 6 rfl) (by decide +kernel) (pa_cons (pv 0) pa_nil)) (nomark _)) (pe_ix (ix_listK (K := K)) (pv 0) (pv 1) (fun _ _ => rfl)) (pe_op op_add (pe_op op_mul pe_int (pv 1)) (pe_op op_mod (pe_callB (cr_sumK (K := K) rfl) (by rfl) (T.free 14 rfl) (by decide +kernel) (pa_cons (pe_slice (sl_listK (K := K)) (pv 0) po_none (po_some pe_int)) pa_nil)) pe_int)))))), ?_⟩
  obtain ⟨p, ns, k, rfl, hs, rfl, q⟩ := h
  refine ⟨_, rfl, _, rfl, p, _, rfl, .inl hs, _, _, rfl, rfl, _, rfl, ?_⟩
  rw [List.length_map]
  by_cases c : (k : Int) < (ns.length : Int)
  · rw [decide_eq_true c]
    refine iteT ?_
    exact ⟨_, rfl, _, rfl, p, _, _, _, rfl, rfl, hs, atI_nat (j := k) (v := .int (ns[k]'(by omega))) (by rw [List.getElem?_map, List.getElem?_eq_getElem]; rfl), q _ _ (Evl.Ex.refl _)⟩
  · rw [decide_eq_false c]
    refine iteF ?_
    refine ⟨_, rfl, 6007, k, rfl, rfl, .inl (by omega), ?_⟩
    refine ⟨_, rfl, 1, rfl, p, _, rfl, hs, fun l hl => ?_⟩
    have ec : cutV (ns.map V.int) none (some 1) = ((ns.drop (HT.sIx (ns.map V.int).length 0 none)).take (HT.sIx (ns.map V.int).length (ns.map V.int).length (some 1) - HT.sIx (ns.map V.int).length 0 none)).map V.int := by
      unfold cutV; rw [List.map_take, List.map_drop]
    refine ⟨l, _, rfl, SqL.of (by rw [upd_same, ec]), ?_⟩
    exact ⟨_, _, rfl, rfl, by omega, _, _, rfl, rfl, q _ _ (Evl.Ex.new hl)⟩
end
def sp__law_box (K : PySem.W.Frag) : Sp := sp1 fun a H Q E => ∃ i, a = .int i ∧ ∀ A H', H A = none → Ex H H' → BoxAt H' A 0 → Q (.ref A) H'
section
variable {K : PySem.W.Frag} {mg : Str → Option Value} {P : Program} {w : World} {base : Heap}
theorem ok__law_box (T : Tx K mg) : Cal P w K mg base CX0 1 "_law_box" ["_law_great"] (sp__law_box K) := by
  refine cal_of (fD__law_box T) (T.glo 21 rfl) sc__law_box (fun _ _ _ _ _ _ us hl => match us, hl with | [_], _ => rfl) (fun vs H Q E h => len1 h) (fun f cdv A outer s H vs Q E hr h => ?_)
  obtain ⟨a, rfl, h⟩ := h
  refine ⟨_, (PSs.nox (pss_one (ps_ret (pe_lst (pa_cons (pe_callB call_abs (by rfl) (T.free 1 rfl) (by decide +kernel) (pa_cons (pv 0) pa_nil)) (pa_cons (pe_cmpR op_ge (pe_callB call_abs (by rfl) (T.free 1 rfl) (by decide +kernel) (pa_cons (pv 0) pa_nil)) (pe_op op_pow pe_int pe_int) (nomark _)) (pa_cons (pe_op op_mod (pe_callTy call_int1 (by rfl) (T.free 4 rfl) (by decide +kernel) (pa_cons (pe_callB call_abs (by rfl) (T.free 1 rfl) (by decide +kernel) (pa_cons (pv 0) pa_nil)) pa_nil)) pe_int) (pa_cons pe_int pa_nil)))))))), ?_⟩
  obtain ⟨i, rfl, q⟩ := h
  refine ⟨_, rfl, i, rfl, _, rfl, i, rfl, 10, 18, rfl, rfl, ⟨by decide, by decide, by decide⟩, _, _, rfl, rfl, _, rfl, i, rfl, .inl ⟨_, rfl, _, _, rfl, rfl, (by show (0 : Int) < 2147483629; decide), (by show 4 ≤ sizeLine; decide), fun A hA => ?_⟩⟩
  refine q A _ hA (Evl.Ex.new hA) ⟨_, _, _, _, upd_same, ?_, Int.emod_nonneg _ (by decide), ?_, by decide, by decide⟩
  · split <;> omega
  · exact Int.lt_trans (Int.emod_lt_of_pos _ (by decide)) (by decide)
end
theorem take_some {m : Nat} {z : Int} (h1 : 0 ≤ z) (h2 : z < m) : ∃ i : Nat, z = i ∧ i < m := ⟨z.toNat, by omega, by omega⟩
def sp__law_take (K : PySem.W.Frag) : Sp := sp2 fun a b H Q E => ∃ (A : Addr) (m c : Nat), a = .ref A ∧ b = .int (m : Int) ∧ 1 ≤ m ∧ m ≤ 1000000 ∧ c ≤ 1000000 ∧ BoxAt H A c ∧ ∀ (i : Nat) H', i < m → Ex (L2.del H A) H' → BoxAt H' A (c + 1) → Q (.int (i : Int)) H'
section
variable {K : PySem.W.Frag} {mg : Str → Option Value} {P : Program} {w : World} {base : Heap}
theorem ok__law_take (T : Tx K mg) : Cal P w K mg base CX0 1 "_law_take" ["_law_box_here", "_law_many"] (sp__law_take K) := by
  refine cal_of (fD__law_take T) (T.glo 22 rfl) sc__law_take (fun _ _ _ _ _ _ us hl => match us, hl with | [_, _], _ => rfl) (fun vs H Q E h => len2 h) (fun f cdv A outer s H vs Q E hr h => ?_)
  obtain ⟨a, b, rfl, h⟩ := h
  refine ⟨_, (PSs.nox (pss_cons (ps_if (PW.pt (pw_and (pt_val (pe_ix (ix_listK (K := K)) (pv 0) pe_int (fun _ _ => rfl))) (pw_and1 (pt_cmpR op_gt (pe_ix (ix_listK (K := K)) (pv 0) pe_int (fun _ _ => rfl)) pe_int (nomark _))))) (pss_cons (ps_set (i := 2) sc__law_take.nd rfl (Or.inl rfl) (pe_op op_mod (pe_callTy call_int1 (by rfl) (T.free 4 rfl) (by decide +kernel) (pa_cons (pe_ix (ix_listK (K := K)) (pv 0) pe_int (fun _ _ => rfl)) pa_nil)) (pv 1)))
      (pss_cons (ps_asg (pe_op op_fdiv (pe_ix (ix_listK (K := K)) (pv 0) pe_int (fun _ _ => rfl)) (pv 1)) (pg_sub (pv 0) pe_int set_list))
      (pss_one (ps_ret (pv 2))))) pss_nil)
      (pss_cons (ps_asg (pe_op op_add (pe_ix (ix_listK (K := K)) (pv 0) pe_int (fun _ _ => rfl)) pe_int) (pg_sub (pv 0) pe_int set_list))
      (pss_cons (ps_set (i := 3) sc__law_take.nd rfl (Or.inl rfl) (pe_op op_mod (pe_callTy call_int1 (by rfl) (T.free 4 rfl) (by decide +kernel) (pa_cons (pe_op op_pow (pe_op op_add (pe_op op_add (pe_ix (ix_listK (K := K)) (pv 0) pe_int (fun _ _ => rfl)) (pe_op op_mul pe_int (pe_ix (ix_listK (K := K)) (pv 0) pe_int (fun _ _ => rfl)))) pe_int) pe_int) pa_nil)) pe_int))
      (pss_one (ps_ret (pe_op op_mod (pe_op op_fdiv (pe_op op_mod (pe_callTy call_int1 (by rfl) (T.free 4 rfl) (by decide +kernel) (pa_cons (pe_op op_pow (pe_op op_add (pe_op op_mul (pv 3) pe_int) (pe_op op_mul pe_int (pe_ix (ix_listK (K := K)) (pv 0) pe_int (fun _ _ => rfl)))) pe_int) pa_nil)) pe_int) pe_int) (pv 1)))))))), ?_⟩
  obtain ⟨A, m, c, rfl, rfl, m1, m2, c2, ⟨x, b, y, k, hA, x0, y0, y1, k0, k1⟩, q⟩ := h
  refine seq_at ?_
  have lA := SqL.of (K := K) hA
  refine ⟨_, rfl, A, _, 1, _, rfl, rfl, lA, rfl, _, rfl, ?_⟩
  have fin : ∀ (Z : Int) H', Ex (L2.del H A) H' → BoxAt H' A (c + 1) → Q (.int (Z % (m : Int))) H' := fun Z H' e hb => by
    obtain ⟨i, e1, hi⟩ := take_some (m := m) (Int.emod_nonneg Z (by omega)) (Int.emod_lt_of_pos Z (by omega))
    rw [e1]; exact q i H' hi e hb
  cases b with
  | false =>
    refine iteF (iteF ?_)
    dsimp only [tNext]
    refine seq_at ?_
    refine ⟨_, rfl, A, _, 3, _, rfl, rfl, lA, rfl, _, _, rfl, rfl, _, rfl, A, _, 3, 3, rfl, rfl, hA, rfl, ?_⟩
    have hA1 : upd H A (.lst ([V.int x, .bl false, .int y, .int k].set 3 (.int (k + 1)))) A = some (.lst [.int x, .bl false, .int y, .int (k + 1)]) := upd_same
    have eA1 : Ex (L2.del H A) (upd H A (.lst ([V.int x, .bl false, .int y, .int k].set 3 (.int (k + 1))))) := ex_upd_del Ex.ofDel
    generalize upd H A (.lst ([V.int x, .bl false, .int y, .int k].set 3 (.int (k + 1)))) = H1 at hA1 eA1 ⊢
    have l1 := SqL.of (K := K) hA1
    dsimp only
    refine seq_at (asg_at ?_)
    refine ⟨_, rfl, A, _, 2, _, rfl, rfl, l1, rfl, _, rfl, A, _, 3, _, rfl, rfl, l1, rfl, _, _, rfl, rfl, .inl ⟨by decide, by decide⟩, _, _, rfl, rfl, _, _, rfl, rfl, _, 5, rfl, rfl, ⟨by decide, by decide, by omega⟩, .inl ⟨_, rfl, _, 2147483647, rfl, rfl, (by show (0 : Int) < 2147483647; decide), ?_⟩⟩
    have z0 : ∀ z : Int, 0 ≤ z % 2147483647 ∧ z % 2147483647 < 2147483647 := fun z => ⟨Int.emod_nonneg _ (by decide), Int.emod_lt_of_pos _ (by decide)⟩
    generalize ((y + 15485863 * (k + 1) + 179424673) ^ (5 : Int).toNat) = z1
    have z2 := z0 z1
    generalize z1 % 2147483647 = z at z2 ⊢
    dsimp only [gName]
    refine ret_at ?_
    refine ⟨_, rfl, _, _, rfl, rfl, .inr ⟨by decide, by decide⟩, _, rfl, A, _, 3, _, rfl, rfl, l1, rfl, _, _, rfl, rfl, .inl ⟨by decide, by decide⟩, _, _, rfl, rfl, _, 3, rfl, rfl, ⟨by decide, by decide, by omega⟩, .inl ⟨_, rfl, _, 2147483587, rfl, rfl, (by show (0 : Int) < 2147483587; decide), _, 64, rfl, rfl, ⟨by decide, by decide⟩, _, rfl, _, _, rfl, rfl, (by show (0 : Int) < (m : Int); omega), ?_⟩⟩
    exact fin _ _ eA1 ⟨x, false, y, k + 1, hA1, x0, y0, y1, by omega, by omega⟩
  | true =>
    refine iteT ?_
    refine ⟨_, rfl, A, _, 0, _, rfl, rfl, lA, rfl, _, _, rfl, rfl, _, rfl, ?_⟩
    by_cases hx : 0 < x
    · rw [decide_eq_true hx]
      refine iteT ?_
      refine seq_at (asg_at ?_)
      refine ⟨_, rfl, A, _, 0, _, rfl, rfl, lA, rfl, .inl ⟨_, rfl, _, rfl, _, _, rfl, rfl, (by show (0 : Int) < (m : Int); omega), ?_⟩⟩
      dsimp only [gName]
      refine seq_at ?_
      refine ⟨_, rfl, A, _, 0, _, rfl, rfl, lA, rfl, _, rfl, _, _, rfl, rfl, ⟨by omega, by omega⟩, _, rfl, A, _, 0, 0, rfl, rfl, hA, rfl, ?_⟩
      have dv : 0 ≤ x / (m : Int) := Int.ediv_nonneg x0 (by omega)
      exact ⟨_, rfl, fin x _ (ex_upd_del Ex.ofDel) ⟨x / (m : Int), true, y, k, upd_same, dv, y0, y1, k0, by omega⟩⟩
    rw [decide_eq_false hx]
    refine iteF ?_
    dsimp only [tNext]
    refine seq_at ?_
    refine ⟨_, rfl, A, _, 3, _, rfl, rfl, lA, rfl, _, _, rfl, rfl, _, rfl, A, _, 3, 3, rfl, rfl, hA, rfl, ?_⟩
    have hA1 : upd H A (.lst ([V.int x, .bl true, .int y, .int k].set 3 (.int (k + 1)))) A = some (.lst [.int x, .bl true, .int y, .int (k + 1)]) := upd_same
    have eA1 : Ex (L2.del H A) (upd H A (.lst ([V.int x, .bl true, .int y, .int k].set 3 (.int (k + 1))))) := ex_upd_del Ex.ofDel
    generalize upd H A (.lst ([V.int x, .bl true, .int y, .int k].set 3 (.int (k + 1)))) = H1 at hA1 eA1 ⊢
    have l1 := SqL.of (K := K) hA1
    dsimp only
    refine seq_at (asg_at ?_)
    refine ⟨_, rfl, A, _, 2, _, rfl, rfl, l1, rfl, _, rfl, A, _, 3, _, rfl, rfl, l1, rfl, _, _, rfl, rfl, .inl ⟨by decide, by decide⟩, _, _, rfl, rfl, _, _, rfl, rfl, _, 5, rfl, rfl, ⟨by decide, by decide, by omega⟩, .inl ⟨_, rfl, _, 2147483647, rfl, rfl, (by show (0 : Int) < 2147483647; decide), ?_⟩⟩
    have z0 : ∀ z : Int, 0 ≤ z % 2147483647 ∧ z % 2147483647 < 2147483647 := fun z => ⟨Int.emod_nonneg _ (by decide), Int.emod_lt_of_pos _ (by decide)⟩
    generalize ((y + 15485863 * (k + 1) + 179424673) ^ (5 : Int).toNat) = z1
    have z2 := z0 z1
    generalize z1 % 2147483647 = z at z2 ⊢
    dsimp only [gName]
    refine ret_at ?_
    refine ⟨_, rfl, _, _, rfl, rfl, .inr ⟨by decide, by decide⟩, _, rfl, A, _, 3, _, rfl, rfl, l1, rfl, _, _, rfl, rfl, .inl ⟨by decide, by decide⟩, _, _, rfl, rfl, _, 3, rfl, rfl, ⟨by decide, by decide, by omega⟩, .inl ⟨_, rfl, _, 2147483587, rfl, rfl, (by show (0 : Int) < 2147483587; decide), _, 64, rfl, rfl, ⟨by decide, by decide⟩, _, rfl, _, _, rfl, rfl, (by show (0 : Int) < (m : Int); omega), ?_⟩⟩
    exact fin _ _ eA1 ⟨x, true, y, k + 1, hA1, x0, y0, y1, by omega, by omega⟩
end

end T1

namespace T1
open PySem PySem.Spec PyProof.Rows L2 G
open Evl (Ex)
local macro_rules | `(tactic| walk_at "dd") => `(tactic| (dsimp only [tCB, tCons, tNil, tC, tOp, tUn, tTest, tB, tVar, tAndV, tOrV, tNotV, tIf, tAnd, tOr, tNot, tSeq, tRet, tRetN, tIfS, tAsg, gName, tDrop, tTup, tLst, tChain, tNext, tCall, L2.start]))
theorem del_get {H H' : Hp} {A C : Addr} {o : HO} (e : Ex (L2.del H A) H') (n : C ≠ A) (h : H C = some o) : H' C = some o := e C o (by rw [del_ne n]; exact h)
theorem erase_map {α β : Type} (f : α → β) : ∀ (l : List α) (i : Nat), (l.map f).eraseIdx i = (l.eraseIdx i).map f
  | [], _ => rfl
  | _ :: _, 0 => rfl
  | a :: l, i + 1 => by simp only [List.map_cons, List.eraseIdx_cons_succ, erase_map f l i]
theorem erase_perm {α : Type} : ∀ {l : List α} {i : Nat} (h : i < l.length), (l[i] :: l.eraseIdx i).Perm l
  | _ :: _, 0, _ => .refl _
  | a :: l, i + 1, h => by
    have z := erase_perm (l := l) (i := i) (by simpa using h)
    simp only [List.getElem_cons_succ, List.eraseIdx_cons_succ]
    exact (List.Perm.swap ..).trans (z.cons a)
theorem seqIndex_nat {i n : Nat} (h : i < n) : seqIndex? (i : Int) n = some i := by
  unfold seqIndex?
  have h1 : ¬ (i : Int) < 0 := by omega
  simp only [h1, if_false]
  rw [if_pos (by simp; omega)]; rfl
def sp__law_mixed (K : PySem.W.Frag) : Sp := sp2 fun a b H Q E => ∃ (A p : Addr) (ns : List Nat) (c : Nat), a = .ref A ∧ b = .ref p ∧ SqL K H p (ns.map iV) ∧ ns.length ≤ 100 ∧ c + ns.length ≤ 1000000 ∧ BoxAt H A c ∧
  ∀ (f : Addr) (ms : List Nat) H', ms.Perm ns → H f = none → Ex (L2.del H A) H' → H' f = some (.lst (ms.map iV)) → BoxAt H' A (c + ns.length) → Q (.ref f) H'
section
variable {K : PySem.W.Frag} {mg : Str → Option Value} {P : Program} {w : World} {base : Heap}
theorem ok__law_mixed (T : Tx K mg) : Cal P w K mg base CX0 2 "_law_mixed" ["_law_box_here", "_law_items"] (sp__law_mixed K) := by
  refine cal_of (fD__law_mixed T) (T.glo 23 rfl) sc__law_mixed (fun _ _ _ _ _ _ us hl => match us, hl with | [_, _], _ => rfl) (fun vs H Q E h => len2 h) (fun f cdv A outer s H vs Q E hr h => ?_)
  obtain ⟨a, b, rfl, h⟩ := h
  refine ⟨_, (PSs.nox (pss_cons (ps_par (i := 2) (j := 3) rfl sc__law_mixed.nd rfl rfl (by decide) rfl rfl (pa_cons (pe_callTy (call_listK (K := K)) (by rfl) (T.free 7 rfl) (by decide +kernel) (pa_cons (pv 1) pa_nil)) (pa_cons (pe_lst pa_nil) pa_nil)) (by rfl))
      (pss_cons (ps_while PassesOwn.never (pt_cmpR (op_neDK (K := K) (hu64 hr.r)) (pv 2) (pe_lst pa_nil) (nomark _)) (pss_one (ps_expr (pe_bm PySem.F.plainAttrs_list PySem.F.slot_list_append PySem.F.type_list_append mt_append (pv 3) (pa_cons (pe_bm PySem.F.plainAttrs_list PySem.F.slot_list_pop PySem.F.type_list_pop mt_popAt (pv 2) (pa_cons (pe_c (ok__law_take T) (hr.mono (by decide)) rfl pass0 (pa_cons (pv 0) (pa_cons (pe_callB (call_lenK (K := K)) (by rfl) (T.free 6 rfl) (by decide +kernel) (pa_cons (pv 2) pa_nil)) pa_nil))) pa_nil)) pa_nil)))))
      (pss_one (ps_ret (pv 3)))))), ?_⟩
  obtain ⟨A, p, ns, c, rfl, rfl, hp, nl, c2, hb, q⟩ := h
  obtain ⟨l0, hA⟩ := hb.some
  refine seq_at ?_
  refine ⟨_, rfl, p, _, rfl, .inl hp, fun L hL => ⟨Nat.zero_le _, fun F hF => ⟨_, _, rfl, ?_⟩⟩⟩
  have LA : L ≠ A := fun z => by rw [z, hA] at hL; cases hL
  have FA : F ≠ A := fun z => by rw [z, upd_ne LA.symm, hA] at hF; cases hF
  have FL : F ≠ L := fun z => by rw [z, upd_same] at hF; cases hF
  have hF0 : H F = none := by rw [upd_ne FL] at hF; exact hF
  have hFd : L2.del H A F = none := by rw [del_ne FA]; exact hF0
  have hLd : L2.del H A L = none := by rw [del_ne LA]; exact hL
  dsimp only
  refine seq_at ?_
  refine ⟨fun m σ' H' => ∃ ls fs : List Nat, σ' = [some (.ref A), some (.ref p), some (.ref L), some (.ref F)] ∧ Ex (L2.del H A) H' ∧ BoxAt H' A (c + fs.length) ∧ H' L = some (.lst (ls.map iV)) ∧ H' F = some (.lst (fs.map iV)) ∧ (fs ++ ls).Perm ns ∧ m = ls.length,
    ⟨_, ns, [], rfl, Evl.Ex.mut (Evl.Ex.mut Ex.ofDel hLd) hFd, (hb.mono (Evl.Ex.new hL)).mono (Evl.Ex.new hF), ?_, upd_same, .refl _, rfl⟩, ?_⟩
  · rw [upd_ne FL.symm, upd_same]
  rintro m σ' H' ⟨ls, fs, rfl, e, hbx, hLl, hFf, pm, rfl⟩
  refine ⟨_, rfl, Nat.zero_le _, fun d hd => ?_⟩
  have ed := Evl.Ex.new (o := .lst []) hd
  refine ⟨.list (ls.map intD), .list [], dp_list (ed _ _ hLl), dp_list (l := []) upd_same, (shaped_ints ls).1, (shaped_ints []).1, _, rfl, ?_⟩
  have hln : fs.length + ls.length = ns.length := by rw [← List.length_append]; exact pm.length_eq
  by_cases c0 : ls = []
  · subst c0
    show if (!PyData.eqv (.list []) (.list [])) = true then _ else _
    refine iteF ?_
    dsimp only
    refine ⟨_, rfl, q F fs _ (by simpa using pm) hF0 (e.trans ed) (ed _ _ hFf) ?_⟩
    have : fs.length = ns.length := by simpa using hln
    rw [← this]; exact hbx.mono ed
  · have ne : PyData.eqv (.list (ls.map intD)) (.list []) = false := by
      cases ls with
      | nil => exact absurd rfl c0
      | cons x l => rfl
    rw [ne]
    refine iteT ?_
    have lp : 1 ≤ ls.length := by cases ls; exact absurd rfl c0; simp
    refine ⟨fun σ' H' => ∃ m', m' < ls.length ∧ ∃ ls fs : List Nat, σ' = [some (.ref A), some (.ref p), some (.ref L), some (.ref F)] ∧ Ex (L2.del H A) H' ∧ BoxAt H' A (c + fs.length) ∧ H' L = some (.lst (ls.map iV)) ∧ H' F = some (.lst (fs.map iV)) ∧ (fs ++ ls).Perm ns ∧ m' = ls.length, fun σ' H' h => h, ?_⟩
    refine ⟨_, rfl, .inl ⟨rfl, _, SqL.of (ed _ _ hFf)⟩, _, rfl, .inl ⟨rfl, _, SqL.of (ed _ _ hLl)⟩, _, rfl, _, rfl, L, _, rfl, .inl (SqL.of (ed _ _ hLl)), _, _, rfl, A, ls.length, c + fs.length, rfl, by rw [List.length_map], lp, by omega, by omega, hbx.mono ed, fun i H2 hi e2 hb2 => ?_⟩
    have hL2 := del_get e2 LA (ed _ _ hLl)
    have hF2 := del_get e2 FA (ed _ _ hFf)
    have e02 := ex_of_del (e.trans ed) del_same e2
    refine ⟨L, _, (i : Int), i, iV ls[i], rfl, rfl, hL2, by omega, by omega, ?_, ?_, ?_⟩
    · rw [List.length_map]; exact seqIndex_nat hi
    · rw [List.getElem?_map, List.getElem?_eq_getElem hi]; rfl
    · refine ⟨F, fs.map iV, _, rfl, rfl, ?_, ?_, ls.length - 1, by omega, ls.eraseIdx i, fs ++ [ls[i]], rfl, Evl.Ex.mut (Evl.Ex.mut e02 hLd) hFd, ?_, ?_, ?_, ?_, ?_⟩
      · rw [upd_ne FL]; exact hF2
      · rw [List.length_map]; exact line_big (by omega)
      · rw [List.length_append, List.length_singleton, ← Nat.add_assoc]
        obtain ⟨x, b, y, k, z, r⟩ := hb2
        exact ⟨x, b, y, k, by rw [upd_ne FA.symm, upd_ne LA.symm]; exact z, r⟩
      · rw [upd_ne FL.symm, upd_same, erase_map]
      · rw [upd_same, List.map_append]; rfl
      · refine List.Perm.trans ?_ pm
        rw [List.append_assoc]
        exact (erase_perm hi).append_left fs
      · rw [List.length_eraseIdx, if_pos hi]
end

end T1

namespace T1
open PySem PySem.Spec PyProof.Rows L2 G
open Evl (Ex)
local macro_rules | `(tactic| walk_at "dd") => `(tactic| (dsimp only [tCB, tCons, tNil, tC, tOp, tUn, tTest, tB, tVar, tAndV, tOrV, tNotV, tIf, tAnd, tOr, tNot, tSeq, tRet, tRetN, tIfS, tAsg, gName, tDrop, tTup, tLst, tChain, tNext, tCall, L2.start]))
section
variable {X : Cx} {K : PySem.W.Frag}
theorem tree_eq (T : Tx X.K X.mg) (hr : RG 1 X.A) (h : X.K = K := by rfl) : OpR X (compareOp .Eq) (rCmpO K (He.ga K "Tree") false (sp_Tree___eq__ K) E0) := by
  subst h
  obtain ⟨fd, F, G⟩ := ok_Tree___eq__ (P := X.prog) (w := X.w) (base := X.base) T
  exact op_eqO ⟨(me_Tree___eq__ T).at_, (me_Tree___eq__ T).fn.symm⟩ G hr (F.bindsN fun _ _ _ _ _ _ us hl => match us, hl with | [_, _], _ => rfl) pass0
theorem tree_ne (T : Tx X.K X.mg) (hr : RG 2 X.A) (h : X.K = K := by rfl) : OpR X (compareOp .NotEq) (rCmpO K (He.ga K "Tree") true (sp_Tree___eq__ K) E0) := by
  subst h
  obtain ⟨fd, F, G⟩ := ok_Tree___eq__ (P := X.prog) (w := X.w) (base := X.base) T
  exact op_neO ⟨(me_Tree___eq__ T).at_, (me_Tree___eq__ T).fn.symm⟩ (T.own 0 rfl).ne (T.own 0 rfl).hm G hr (F.bindsN fun _ _ _ _ _ _ us hl => match us, hl with | [_, _], _ => rfl) pass0
/-- Tree(a, b) where it is known to succeed -/
theorem tree_mk {a b : Expr} {ta : TA} {p pos : Pos} (T : Tx X.K X.mg) (hr : RG 6 X.A) (hg : Gl X "Tree") (ha : PA X [a, b] ta) (h : X.K = K := by rfl)
    (one : OneByOne X a [b] pos := by exact ⟨rfl, rfl⟩) :
    PE X (.Call (.Name "Tree" p) [a, b] [] pos) (tGM (He.ga K "Tree") 2 0 (sp_Tree___init__ K) (fun us _ => us) E0 ta tNil) := by
  subst h
  obtain ⟨fd, F, G⟩ := ok_Tree___init__ (P := X.prog) (w := X.w) (base := X.base) T
  exact pe_gmk (mk_Tree T) G hr hg (T.glo 6 rfl) (kb_of F 3 [] (fun us _ => us) (fun r _ => r) fun _ _ _ _ _ _ us ws hl hl2 => match us, ws, hl, hl2 with | [_, _, _], [], _, _ => rfl) passL ha (by decide) one
end
def optV : Option Nat → V
  | none => .non
  | some n => .int (n : Int)
def optD : Option Nat → PyData
  | none => .none
  | some n => .int (n : Int)
theorem optVD {K : PySem.W.Frag} {H : Hp} (o : Option Nat) : Dq K H (optV o) (optD o) := by
  cases o
  · exact .non
  · exact .int _
theorem digits_tl : TL.tl "0123456789" = [48, 49, 50, 51, 52, 53, 54, 55, 56, 57] := by decide +kernel
theorem dig_mem (c : Nat) : decide (c ∈ ("0123456789" : Str).cps.toList) = TT.dig c := by
  have e : ("0123456789" : Str).cps.toList = [48, 49, 50, 51, 52, 53, 54, 55, 56, 57] := digits_tl
  rw [e, Bool.eq_iff_iff, decide_eq_true_eq, TT.dig_iff]
  simp only [List.mem_cons, List.not_mem_nil, or_false]
  omega
theorem num_cases (w : Str) : (w = Str.ofString "" → TT.num w = none) ∧ ((TL.tl w).all TT.dig = false → TT.num w = none) ∧
    (w ≠ Str.ofString "" → (TL.tl w).all TT.dig = true → ∃ c, (TL.tl w)[0]? = some c ∧ PySem.intText? w = some ((NumText.digitsVal (TL.tl w) : Nat) : Int) ∨ 4300 < w.length) := by
  refine ⟨fun e => by rw [e]; rfl, fun h => ?_, fun ne all => ?_⟩
  · unfold TT.num
    cases e : TL.tl w with
    | nil => rw [e] at h; cases h
    | cons c r => rw [e] at h; rw [TT.numS_cons, h, Bool.false_and]; rfl
  · cases e : TL.tl w with
    | nil => exact absurd (TL.ext_tl (e.trans (show [] = TL.tl (Str.ofString "") by decide +kernel))) ne
    | cons c r =>
      refine ⟨c, ?_⟩
      by_cases c2 : w.length ≤ 4300
      · refine .inl ⟨rfl, ?_⟩
        have z := intText_digits (x := w) (fun d hd => TT.dig_iff.mp (List.all_eq_true.mp all d hd)) (by show TL.tl w ≠ []; rw [e]; simp) c2
        rw [← e]; exact z
      · exact .inr (by omega)
theorem len_size (w : Str) : w.cps.size = w.length := rfl
theorem sgn_at {w : Str} {i : Nat} {c : Nat} (h : (TL.tl w)[i]? = some c) : sgn w i = .str ⟨#[c]⟩ := by
  unfold sgn
  have : w.cps[i]? = some c := by rw [← Array.getElem?_toList]; exact h
  rw [this]; rfl
theorem one_str {c d : Nat} : ((⟨#[c]⟩ : Str) = ⟨#[d]⟩) ↔ c = d := by simp
theorem str_one (w : Str) (c : Nat) : w = ⟨#[c]⟩ ↔ TL.tl w = [c] := ⟨fun e => by rw [e], fun e => TL.ext_tl e⟩
def sp_count_in (K : PySem.W.Frag) : Sp := sp1 fun a H Q E => ∃ w : Str, a = .str w ∧ w.length ≤ 600 ∧ ∀ H', Ex H H' → Q (optV (TT.num w)) H'
section
variable {K : PySem.W.Frag} {mg : Str → Option Value} {P : Program} {w : World} {base : Heap}
theorem ok_count_in (T : Tx K mg) : Cal P w K mg base CX0 1 "count_in" ["word"] (sp_count_in K) := by
  refine cal_of (fD_count_in T) (T.glo 10 rfl) sc_count_in (fun _ _ _ _ _ _ us hl => match us, hl with | [_], _ => rfl) (fun vs H Q E h => len1 h) (fun f cdv A outer s H vs Q E hr h => ?_)
  obtain ⟨a, rfl, h⟩ := h
  refine ⟨_, (PSs.nox (pss_cons (ps_if (PW.pt (pw_or (pt_cmpR op_eq (pv 0) pe_str (nomark _)) (pw_or1 (pt_not (pt_val (pe_callB (cr_allK (K := K) rfl) (by rfl) (T.free 2 rfl) (by decide +kernel) (pa_cons (pe_lc (own := [("sign", 1)]) rfl sc_count_in.nd (pi_str (pv 0)) (blkOk_by (own := [("sign", 1)]) (N := ["word", "sign"]) (sc := defScope st_count_in) (by decide +kernel)) (fun _ _ _ _ _ => (pg_name (i := 1) sc_count_in.nd rfl (Or.inl rfl))) (fun _ _ _ _ _ => pts_nil) (fun _ _ _ _ _ => (pe_cmpR op_in_sign (pv 1) (pe_glob (v := .str "0123456789") rfl (T.con_DIGITS).choose_spec ⟨_, rfl⟩) (by with_unfolding_all rfl)))) pa_nil))))))) (pss_one (ps_ret pe_non)) pss_nil)
      (pss_one (ps_ret (pe_ifExp (PW.pt (pw_or (pt_cmpR op_eq (pv 0) pe_str (nomark _)) (pw_or1 (pt_cmpR op_ne (pe_ix ix_str (pv 0) pe_int (fun _ _ => rfl)) pe_str (nomark _))))) (pe_callTy call_int_str (by rfl) (T.free 4 rfl) (by decide +kernel) (pa_cons (pv 0) pa_nil)) pe_non))))), ?_⟩
  obtain ⟨w, rfl, hl, q⟩ := h
  obtain ⟨n1, n2, n3⟩ := num_cases w
  refine seq_at ?_
  refine ⟨_, rfl, rfl, ?_⟩
  refine ⟨_, rfl, ?_⟩
  by_cases c0 : w = Str.ofString ""
  · rw [decide_eq_true (show V.str w = V.str (Str.ofString "") by rw [c0])]
    refine iteT (iteT ?_)
    have z := q H (Ex.refl _)
    rw [n1 c0] at z
    exact z
  · rw [decide_eq_false (show ¬ V.str w = V.str (Str.ofString "") from fun z => c0 (V.str.inj z))]
    refine iteF ?_
    walk_at "dd"
    have ln : (TL.tl w).length = w.cps.size := (TL.len_tl w).symm
    have at_ : ∀ i, i < w.cps.size → ∃ c, (TL.tl w)[i]? = some c := fun i hi => ⟨_, List.getElem?_eq_getElem (by omega)⟩
    refine lc_at (fun _ => true) (fun i D y H' => y = .bl (TT.dig ((TL.tl w)[i]?.getD 0))) (line_big (n := w.cps.size) (by rw [len_size]; omega)) (fun P q => l_str rfl q) (fun _ _ _ _ _ _ h => h) (fun _ _ _ _ _ _ h => h) ?_ ?_
    · intro i D H2 hi hD e2 hacc Ny Nn hy _
      refine ⟨rfl, ?_⟩
      obtain ⟨c, hc⟩ := at_ i hi
      refine ⟨_, rfl, c, _, by rw [sgn_at hc], rfl, ?_⟩
      rw [dig_mem]
      exact hy _ _ rfl (Ex.refl _) (by rw [hc]; rfl)
    · intro D ys H2 hD e2 hd2 f
      rw [range_all] at f
      have ey := F2.map_eq (f := fun i => V.bl (TT.dig ((TL.tl w)[i]?.getD 0))) f
      refine ⟨D, (List.range w.cps.size).map (fun i => TT.dig ((TL.tl w)[i]?.getD 0)), rfl, SqL.of (by rw [hd2, ey, List.map_map]; rfl), ?_⟩
      rw [← ln, all_nth (TL.tl w) TT.dig _ (fun i x hx => by rw [hx]; rfl)]
      refine ⟨_, rfl, ?_⟩
      cases al : (TL.tl w).all TT.dig with
      | false =>
        refine iteT ?_
        have z := q H2 e2
        rw [n2 al] at z
        exact z
      | true =>
        refine iteF ?_
        obtain ⟨c, ⟨hc, it⟩ | big⟩ := n3 c0 al
        · have num_is : TT.num w = if ((TL.tl w).tail.isEmpty || c != 48) = true then some (NumText.digitsVal (TL.tl w)) else none := by
            unfold TT.num
            cases e : TL.tl w with
            | nil => rw [e] at hc; cases hc
            | cons c' r =>
              rw [e] at hc al
              cases hc
              rw [TT.numS_cons, al, Bool.true_and]; rfl
          have fine : TT.num w = some (NumText.digitsVal (TL.tl w)) → Q (V.int ((NumText.digitsVal (TL.tl w) : Nat) : Int)) H2 := fun e => by
            have z := q H2 e2
            rw [e] at z
            exact z
          refine ⟨_, rfl, rfl, _, rfl, ?_⟩
          by_cases w0 : w = Str.ofString "0"
          · rw [decide_eq_true (show V.str w = V.str (Str.ofString "0") by rw [w0])]
            refine iteT (iteT ⟨_, rfl, _, _, rfl, it, by omega, fine ?_⟩)
            rw [num_is, w0]; rfl
          · rw [decide_eq_false (show ¬ V.str w = V.str (Str.ofString "0") from fun z => w0 (V.str.inj z))]
            refine iteF ⟨_, rfl, w, 0, c, rfl, rfl, Nat.le_of_lt (line_big (by omega)), atI_nat (j := 0) hc, rfl, _, rfl, ?_⟩
            by_cases c48 : c = 48
            · subst c48
              rw [decide_eq_true (show V.str (⟨#[48]⟩ : Str) = V.str (Str.ofString "0") by decide +kernel)]
              refine iteF ?_
              have z := q H2 e2
              have tail : (TL.tl w).tail.isEmpty = false := by
                cases e : TL.tl w with
                | nil => rw [e] at hc; cases hc
                | cons c' r =>
                  rw [e] at hc
                  cases hc
                  cases r with
                  | nil => exact absurd (TL.ext_tl (e.trans (show [48] = TL.tl (Str.ofString "0") by decide +kernel))) w0
                  | cons => rfl
              rw [num_is, tail] at z
              exact z
            · rw [decide_eq_false (show ¬ V.str (⟨#[c]⟩ : Str) = V.str (Str.ofString "0") from fun z => c48 (by
                have y : (⟨#[c]⟩ : Str) = ⟨#[48]⟩ := (V.str.inj z).trans (show Str.ofString "0" = ⟨#[48]⟩ by decide +kernel)
                exact one_str.mp y))]
              refine iteT ⟨_, rfl, _, _, rfl, it, by omega, fine ?_⟩
              rw [num_is, if_pos]
              rw [Bool.or_eq_true]
              exact .inr (by simpa using c48)
        · omega
end

end T1

namespace T1
open PySem PySem.Spec PyProof.Rows L2 G
open Evl (Ex)
local macro_rules | `(tactic| walk_at "dd") => `(tactic| (dsimp only [tCB, tCons, tNil, tC, tOp, tUn, tTest, tB, tVar, tAndV, tOrV, tNotV, tIf, tAnd, tOr, tNot, tSeq, tRet, tRetN, tIfS, tAsg, gName, tDrop, tTup, tLst, tChain, tNext, tCall, L2.start]))
def wD (w : Str) : PyData := .tuple ((Txt.split w "-").map fun p => optD (TT.num p))
def wsD (ws : List Str) : PyData := .list (ws.map wD)
/-- every house is reached -/
def Joined (n : Nat) (rs : List (Nat × Nat)) : Prop := ∀ v, v < n → ∃ p, M.Path (nbs n rs) 0 v p
/-- what a line is read as -/
def Reads (z : Str) (n : Nat) (rs : List (Nat × Nat)) : Prop := ∃ f ws, Txt.split z " " = f :: ws ∧ TT.first f = some n ∧ 1 ≤ n ∧ n ≤ 16 ∧ ws.length + 1 = n ∧ TT.Roads n ws rs ∧ Joined n rs
theorem two_of {α : Type} : ∀ {ps : List α}, ps.length = 2 → ∃ p q, ps = [p, q]
  | [p, q], _ => ⟨p, q, rfl⟩
theorem its_lm {K : PySem.W.Frag} {H : Hp} {a : Addr} {α : Type} {f : α → V} {l : List α} (h : SqL K H a (l.map f)) : ItS (Itl K a) H l.length (nth (l.map f)) := by
  have S := its_l h
  rwa [List.length_map] at S
theorem nth_map {α : Type} {f : α → V} {l : List α} {i : Nat} {x : α} (h : l[i]? = some x) : nth (l.map f) i = f x := by unfold nth; rw [List.getElem?_map, h]; rfl
theorem wD_pair {w : Str} {p : Nat × Nat} : wD w = pairD p ↔ TT.road w = some p := by
  obtain ⟨a, b⟩ := p
  constructor
  · intro h
    have e : (Txt.split w "-").map (fun p => optD (TT.num p)) = [.int a, .int b] := PyData.tuple.inj h
    have inj : ∀ {o : Option Nat} {k : Nat}, optD o = .int (k : Int) → o = some k := fun {o k} e => by
      cases o with
      | none => cases e
      | some j => have z : (j : Int) = k := PyData.int.inj e; rw [show j = k by omega]
    have f : (Txt.split w "-").map TT.num = [some a, some b] := by
      generalize Txt.split w "-" = ps at e
      obtain ⟨p, q, is⟩ := two_of (by have len := congrArg List.length e; rwa [List.length_map] at len)
      subst is
      simp only [List.map_cons, List.map_nil, List.cons.injEq, and_true] at e ⊢
      exact ⟨inj e.1, inj e.2⟩
    unfold TT.road
    rw [f]
  · intro h
    unfold wD
    rw [(TT.road_back h).1]
    simp only [List.map_cons, List.map_nil, TT.num_str]
    rfl
theorem map_pairs : ∀ {ws : List Str} {rs : List (Nat × Nat)}, ws.map wD = rs.map pairD ↔ ws.map TT.road = rs.map some
  | [], [] => by simp
  | [], _ :: _ => by simp
  | _ :: _, [] => by simp
  | w :: ws, p :: rs => by
    simp only [List.map_cons, List.cons.injEq]
    rw [wD_pair, map_pairs]
theorem rd_pair (p : Nat × Nat) : rd (pairD p) = ((p.1 : Int), (p.2 : Int)) := rfl
theorem asc_of {l : List (Int × Int)} (h : l.Pairwise fun p q => ltR p q = true) : asc l = true := by
  unfold asc
  rw [all_range_map, decide_eq_true_eq]
  intro i hi
  have h1 : i < l.length := by omega
  have h2 : i + 1 < l.length := by omega
  rw [List.getElem?_eq_getElem h1, List.getElem?_eq_getElem h2]
  exact List.pairwise_iff_getElem.mp h i (i + 1) h1 h2 (by omega)
theorem ltP_R (p q : Nat × Nat) : ltR ((p.1 : Int), (p.2 : Int)) ((q.1 : Int), (q.2 : Int)) = TT.ltP p q := by
  unfold ltR TT.ltP
  rw [Bool.eq_iff_iff]
  simp only [Bool.or_eq_true, Bool.and_eq_true, decide_eq_true_eq]
  omega
theorem areRds_iff {ws : List Str} {n : Nat} : areRds (wsD ws) n = true ↔ ws.length + 1 = n ∧ ∃ rs, TT.Roads n ws rs := by
  constructor
  · intro h
    obtain ⟨_, G, e, l⟩ := rds_good h
    have e' : ws.map wD = (rdsOf (wsD ws)).map pairD := e
    have ll : ws.length = (rdsOf (wsD ws)).length := by have := congrArg List.length e'; simpa using this
    refine ⟨by omega, rdsOf (wsD ws), map_pairs.mp e', G.lt, ?_⟩
    have z := h
    unfold areRds at z
    simp only [Bool.and_eq_true] at z
    have up := asc_lt z.2.2.2
    rw [show items (wsD ws) = (rdsOf (wsD ws)).map pairD from e, List.map_map, List.pairwise_map] at up
    exact up.imp fun {p q} s => by rw [← ltP_R]; exact s
  · rintro ⟨l, rs, R⟩
    have e : items (wsD ws) = rs.map pairD := map_pairs.mpr R.eq
    have ll : ws.length = rs.length := by have := congrArg List.length R.eq; simpa using this
    unfold areRds
    rw [e]
    simp only [Bool.and_eq_true, decide_eq_true_eq, List.length_map]
    refine ⟨rfl, by omega, ?_, ?_⟩
    · rw [List.all_map, List.all_eq_true]
      intro p hp
      obtain ⟨h1, h2⟩ := R.lt p hp
      obtain ⟨a, b⟩ := p
      simp only at h1 h2
      show isRd (.tuple [.int (a : Int), .int (b : Int)]) n = true
      rw [isRd_eq]
      simp only [isIdx, Bool.and_eq_true, decide_eq_true_eq]
      omega
    · rw [List.map_map]
      refine asc_of (List.pairwise_map.mpr (R.up.imp fun {p q} s => ?_))
      rw [← ltP_R] at s
      exact s
theorem rds_rs {ws : List Str} {n : Nat} {rs : List (Nat × Nat)} (R : TT.Roads n ws rs) : rdsOf (wsD ws) = rs := by
  unfold rdsOf
  rw [show items (wsD ws) = rs.map pairD from map_pairs.mpr R.eq, List.map_map]
  refine (List.map_congr_left fun p _ => ?_).trans (List.map_id _)
  show rdN (rd (pairD p)) = p
  rw [rd_pair]; rfl
theorem Reads.one {z : Str} {n m : Nat} {rs qs} (h : Reads z n rs) (g : Reads z m qs) : n = m ∧ rs = qs := by
  obtain ⟨f, ws, e, a, _, _, _, R, _⟩ := h
  obtain ⟨f', ws', e', a', _, _, _, R', _⟩ := g
  rw [e] at e'
  cases e'
  rw [a] at a'
  cases a'
  exact ⟨rfl, R.one R'⟩
theorem joined_ways {n : Nat} {rs : List (Nat × Nat)} {F : List (List Nat)} (W : M.Ways (nbs n rs) 0 F) : Joined n rs ↔ ∀ v, v < n → M.at_ F v ≠ [] :=
  ⟨fun J v hv => let ⟨_, P⟩ := J v hv; W.reach P, fun h v hv => ⟨_, W.pa v (h v hv)⟩⟩
theorem empty_app (x : Str) : Str.empty ++ x = x := TL.ext_tl (by rw [TL.tl_append]; rfl)
def sp_numbers_in (K : PySem.W.Frag) : Sp := sp1 fun a H Q E => ∃ w : Str, a = .str w ∧ w.length ≤ 600 ∧ ∀ r H', Ex H H' → Dq K H' r (wD w) → Q r H'
section
variable {K : PySem.W.Frag} {mg : Str → Option Value} {P : Program} {w : World} {base : Heap}
theorem ok_numbers_in (T : Tx K mg) : Cal P w K mg base CX0 2 "numbers_in" ["word"] (sp_numbers_in K) := by
  refine cal_of (fD_numbers_in T) (T.glo 18 rfl) sc_numbers_in (fun _ _ _ _ _ _ us hl => match us, hl with | [_], _ => rfl) (fun vs H Q E h => len1 h) (fun f cdv A outer s H vs Q E hr h => ?_)
  obtain ⟨a, rfl, h⟩ := h
  refine ⟨_, (PSs.nox (pss_one (ps_ret (pe_callTy (call_tupK (K := K)) (by rfl) (T.free 15 rfl) (by decide +kernel) (pa_cons (pe_lc (own := [("part", 1)]) rfl sc_numbers_in.nd (pi_list (pe_split (pv 0) pe_str)) (blkOk_by (own := [("part", 1)]) (N := ["word", "part"]) (sc := defScope st_numbers_in) (by decide +kernel)) (fun _ _ _ _ _ => (pg_name (i := 1) sc_numbers_in.nd rfl (Or.inl rfl))) (fun _ _ _ _ _ => pts_nil) (fun _ _ _ _ _ => (pe_c (ok_count_in T) (hr.mono (by decide)) rfl pass0 (pa_cons (pv 1) pa_nil)))) pa_nil))))), ?_⟩
  obtain ⟨w, rfl, hl, q⟩ := h
  refine ret_at (cb_at ?_)
  have few := TT.split_len TT.tl_dash (by decide) w
  refine lc_at (n := (Txt.split w "-").length) (item := nth ((Txt.split w "-").map V.str)) (fun _ => true) (fun i D y H' => y = optV (TT.num ((Txt.split w "-")[i]?.getD Str.empty))) (line_big (by omega))
    (fun P q => ⟨_, rfl, ⟨_, rfl⟩, w, Str.ofString "-", rfl, rfl, rfl, by have := line_big (n := w.length + 2) (by omega); omega, fun p hp => ⟨p, rfl, ⟨_, SqL.of upd_same⟩, q _ _ (Ex.new hp) (its_lm (SqL.of upd_same))⟩⟩) (fun _ _ _ _ _ _ h => h) (fun _ _ _ _ _ _ h => h) ?_ ?_
  · intro i D H2 hi hD e2 hacc Ny Nn hy _
    refine ⟨rfl, ?_⟩
    have at_i : (Txt.split w "-")[i]? = some (Txt.split w "-")[i] := List.getElem?_eq_getElem hi
    rw [nth_map at_i]
    refine ⟨_, rfl, _, rfl, _, rfl, Nat.le_trans (TT.split_part TT.tl_dash (by decide) w _ (List.getElem_mem hi)) hl, fun H3 e3 => hy _ _ rfl e3 ?_⟩
    rw [at_i]; rfl
  · intro D ys H2 hD e2 hd2 f
    rw [range_all] at f
    have ey := F2.map_eq (f := fun i => optV (TT.num ((Txt.split w "-")[i]?.getD Str.empty))) f
    refine ⟨D, ys, rfl, .inl ⟨SqL.of hd2, fun l hl => q _ _ (e2.trans (Ex.new hl)) (.tup (SqT.of upd_same) ?_)⟩⟩
    have em : ys = (Txt.split w "-").map fun p => optV (TT.num p) := by
      rw [ey]
      refine List.ext_getElem? fun i => ?_
      rw [List.getElem?_map]; rw [List.getElem?_map]
      by_cases c : i < (Txt.split w "-").length
      · rw [List.getElem?_range c, List.getElem?_eq_getElem c, Option.map_some, Option.map_some, List.getElem?_eq_getElem c]; rfl
      · rw [List.getElem?_eq_none (Nat.le_of_not_lt c), List.getElem?_eq_none (by rw [List.length_range]; omega)]; rfl
    rw [em]
    have all : ∀ ps : List Str, Dqs K (upd H2 l (.tup ((Txt.split w "-").map fun p => optV (TT.num p)))) (ps.map fun p => optV (TT.num p)) (ps.map fun p => optD (TT.num p)) := fun ps => by
      induction ps with
      | nil => exact .nil
      | cons p ps ih => exact .cons (optVD _) ih
    exact all _
end

end T1

namespace T1
open PySem PySem.Spec PyProof.Rows L2 G
open Evl (Ex)
local macro_rules | `(tactic| walk_at "dd") => `(tactic| (dsimp only [tCB, tCons, tNil, tC, tOp, tUn, tTest, tB, tVar, tAndV, tOrV, tNotV, tIf, tAnd, tOr, tNot, tSeq, tRet, tRetN, tIfS, tAsg, gName, tDrop, tTup, tLst, tChain, tNext, tCall, L2.start]))
theorem str_len {n : Nat} (h : n < 1000) : (TT.str n).length ≤ 3 := by
  rw [TL.len_tl, TT.tl_str]
  exact TL.numL_len (by decide) (by omega)
theorem nat_log {n : Nat} (h : n < 1000) : (n : Int).natAbs.log2 < 1920 := by
  rw [Int.natAbs_natCast]
  exact Nat.lt_of_le_of_lt (Nat.log2_le_self n) (by omega)
theorem app_len (x y : Str) : (x ++ y).length = x.length + y.length := by rw [TL.len_tl, TL.tl_append, List.length_append, ← TL.len_tl, ← TL.len_tl]
theorem colon_len : (Str.ofString ":").length = 1 := rfl
theorem dash_len : (Str.ofString "-").length = 1 := rfl
def sp_Tree_line (K : PySem.W.Frag) : Sp := sp1 fun a H Q E => ∃ s n rs Fs, a = .ref s ∧ TreeAt K H s n rs Fs ∧ ∀ H', Ex H H' → Q (.str (TT.line n rs)) H'
section
variable {K : PySem.W.Frag} {mg : Str → Option Value} {P : Program} {w : World} {base : Heap}
theorem ok_Tree_line (T : Tx K mg) : ∃ fd, FunD K "line" "Tree.line" (defArgs st_Tree_line) (defBody st_Tree_line) (defScope st_Tree_line) [] [] (He.ma K (He.ga K "Tree") "line") fd ∧ FG P w K mg base CX0 1 (He.ma K (He.ga K "Tree") "line") fd ["self"] (sp_Tree_line K) := by
  obtain ⟨fd, F⟩ := fD_Tree_line T
  refine ⟨fd, F, fg_of F sc_Tree_line (fun vs H Q E h => len1 h) (fun cdv A outer s H vs Q E hr h => ?_)⟩
  obtain ⟨a, rfl, h⟩ := h
  refine ⟨_, (PSs.nox (pss_one (ps_ret (pe_joinK (K := K) pe_str (pe_lst (pa_cons (pe_joined (PJ.cons (pe_fmt (pe_fldK (K := K) (pv 0))) (PJ.cons pe_str PJ.nil))) (pa_starK (K := K) (pe_lc (own := [("u", 1), ("v", 2)]) rfl sc_Tree_line.nd (pi_tup (pe_fldK (K := K) (pv 0))) (blkOk_by (own := [("u", 1), ("v", 2)]) (N := ["self", "u", "v"]) (sc := defScope st_Tree_line) (by decide +kernel)) (fun _ _ _ _ _ => (pg_tupK (K := K) (n := 2) rfl (pgs_cons (pg_name (i := 1) sc_Tree_line.nd rfl (Or.inl rfl) (.inr rfl)) (pgs_cons (pg_name (i := 2) sc_Tree_line.nd rfl (Or.inl rfl) (.inr rfl)) pgs_nil)))) (fun _ _ _ _ _ => pts_nil) (fun _ _ _ _ _ => (pe_joined (PJ.cons (pe_fmt (pv 1)) (PJ.cons pe_str (PJ.cons (pe_fmt (pv 2)) PJ.nil)))))) pa_nil))))))), ?_⟩
  obtain ⟨s0, n, rs, Fs, rfl, t, q⟩ := h
  obtain ⟨dx, t1, t2, t3, xs, ys, f⟩ := t.f
  obtain ⟨_, rfl, g⟩ := f.g
  have n16 := t.n16
  obtain ⟨t1', xs1, e1, sx, ds⟩ : ∃ t1' xs1, V.ref t1 = .ref t1' ∧ SqT K H t1' xs1 ∧ Dqs K H xs1 (rs.map pairD) := by
    have z := f.rd
    cases z with
    | tup h hs => exact ⟨_, _, rfl, h, hs⟩
  cases e1
  have len : xs1.length = rs.length := by rw [ds.length, List.length_map]
  have few : rs.length ≤ 300 := by
    have z : (rs.map fun p => p.1 * 16 + p.2).length ≤ 256 := nodup_len (List.pairwise_map.mpr (t.good.nd.imp_of_mem fun {p q} hp hq ne e => ne (by
      have a := t.good.lt p hp
      have b := t.good.lt q hq
      refine Prod.ext ?_ ?_ <;> omega))) fun x hx => by
        obtain ⟨p, hp, rfl⟩ := List.mem_map.mp hx
        have a := t.good.lt p hp
        omega
    rw [List.length_map] at z; omega
  have at_ : ∀ k, k < rs.length → ∃ p tp, rs[k]? = some p ∧ nth xs1 k = .ref tp ∧ SqT K H tp [iV p.1, iV p.2] ∧ p.1 < 16 ∧ p.2 < 16 := fun k hk => by
    obtain ⟨d, h1, h2⟩ := dqs_nth ds (i := k) (by omega)
    rw [List.getElem?_map, List.getElem?_eq_getElem hk] at h1
    cases h1
    obtain ⟨tp, e, sp⟩ := pair_at h2
    have a := t.good.lt _ (List.getElem_mem hk)
    exact ⟨rs[k], tp, List.getElem?_eq_getElem hk, e, sp, by omega, by omega⟩
  refine ret_at ?_
  have sl : ∀ {k : Nat}, k ≤ 1000 → k ≤ sizeLine := fun {k} h => by rw [sizeLine_eq]; omega
  have l3 : ∀ {k : Nat}, k ≤ 16 → (TT.str k).length ≤ 3 := fun {k} h => str_len (by omega)
  refine ⟨⟨_, rfl⟩, ?_⟩
  refine ⟨_, rfl, s0, _, dx, _, _, rfl, g, cl_Tree T, no_Tree_houses T, rfl, .inr ⟨(n : Int), rfl, nat_log (by omega), TT.str n, rfl, ?_, ?_⟩⟩
  · rw [empty_app]; exact sl (by have := l3 n16; omega)
  refine ⟨Str.ofString ":", rfl, ?_, ?_⟩
  · rw [empty_app, app_len]; exact sl (by have := l3 n16; rw [colon_len]; omega)
  rw [empty_app]
  dsimp only [tJs, StX.tStar]
  refine lc_at (n := rs.length) (item := nth xs1) (fun _ => true) (fun i D y H' => y = .str (TT.str (rs[i]?.getD (0, 0)).1 ++ "-" ++ TT.str (rs[i]?.getD (0, 0)).2)) (line_big (by omega))
    (fun P q => ⟨_, rfl, s0, _, dx, _, _, rfl, g, cl_Tree T, no_Tree_roads T, rfl, t1, rfl, ⟨_, sx⟩, q _ _ (Ex.refl _) (len ▸ its_t sx)⟩) (fun _ _ _ _ _ _ h => h) (fun _ _ _ _ _ _ h => h) ?_ ?_
  · intro i D H2 hi hD e2 hacc Ny Nn hy _
    obtain ⟨p, tp, hp, en, sp, p1, p2⟩ := at_ i hi
    rw [en]
    refine ⟨tp, _, rfl, Evl.ex_t e2 sp, rfl, _, _, rfl, _, _, rfl, rfl, rfl, ?_⟩
    refine ⟨_, rfl, .inr ⟨(p.1 : Int), rfl, nat_log (by omega), TT.str p.1, rfl, ?_, ?_⟩⟩
    · rw [empty_app]; exact sl (by have := l3 (k := p.1) (by omega); omega)
    refine ⟨Str.ofString "-", rfl, ?_, ?_⟩
    · rw [empty_app, app_len]; exact sl (by have := l3 (k := p.1) (by omega); rw [dash_len]; omega)
    refine ⟨_, rfl, .inr ⟨(p.2 : Int), rfl, nat_log (by omega), TT.str p.2, rfl, ?_, ?_⟩⟩
    · rw [empty_app, app_len, app_len]; exact sl (by have := l3 (k := p.1) (by omega); have := l3 (k := p.2) (by omega); rw [dash_len]; omega)
    rw [empty_app]
    exact hy _ _ rfl (Ex.refl _) (by rw [hp]; rfl)
  · intro D ys H2 hD e2 hd2 f2
    rw [range_all] at f2
    have ey := F2.map_eq (f := fun i => V.str (TT.str (rs[i]?.getD (0, 0)).1 ++ "-" ++ TT.str (rs[i]?.getD (0, 0)).2)) f2
    have em : ys = (rs.map fun p => TT.str p.1 ++ "-" ++ TT.str p.2).map V.str := by
      rw [ey]
      refine List.ext_getElem? fun i => ?_
      rw [List.getElem?_map, List.getElem?_map, List.getElem?_map]
      by_cases c : i < rs.length
      · rw [List.getElem?_range c, List.getElem?_eq_getElem c, Option.map_some, Option.map_some, List.getElem?_eq_getElem c]; rfl
      · rw [List.getElem?_eq_none (Nat.le_of_not_lt c), List.getElem?_eq_none (by rw [List.length_range]; omega)]; rfl
    have el : TT.line n rs = Txt.join (Str.ofString " ") ((TT.str n ++ Str.ofString ":") :: (rs.map fun p => TT.str p.1 ++ "-" ++ TT.str p.2)) := rfl
    rw [el] at q
    have wl : ((rs.map fun p => TT.str p.1 ++ "-" ++ TT.str p.2).map (·.length)).sum ≤ rs.length * 10 := by
      have all : ∀ qs : List (Nat × Nat), (∀ p ∈ qs, p.1 < p.2 ∧ p.2 < n) → ((qs.map fun p => TT.str p.1 ++ "-" ++ TT.str p.2).map (·.length)).sum ≤ qs.length * 10 := fun qs => by
        induction qs with
        | nil => intro _; simp
        | cons p qs ih =>
          intro h
          have z := ih fun x hx => h x (List.mem_cons_of_mem _ hx)
          have b := h p List.mem_cons_self
          have l1 := l3 (k := p.1) (by omega)
          have l2 := l3 (k := p.2) (by omega)
          have l0 : (TT.str p.1 ++ "-" ++ TT.str p.2).length ≤ 7 := by rw [app_len, app_len, dash_len]; omega
          simp only [List.sum_cons, List.map_cons, List.length_cons]
          omega
      exact all rs t.good.lt
    have hl0 : (TT.str n ++ Str.ofString ":").length ≤ 4 := by have := l3 n16; rw [app_len, colon_len]; omega
    have wn : (rs.map fun p => TT.str p.1 ++ "-" ++ TT.str p.2).length = rs.length := List.length_map ..
    rw [em] at hd2
    clear el ey f2 em
    generalize (TT.str n ++ Str.ofString ":") = f0 at q hl0 ⊢
    generalize (rs.map fun p => TT.str p.1 ++ "-" ++ TT.str p.2) = ws0 at q wl wn hd2 ⊢
    refine ⟨D, ws0.map V.str, rfl, .inr (SqL.of hd2), ?_, fun l hl => ?_⟩
    · rw [List.length_cons, List.length_append, List.length_map, wn]; exact sl (by simp; omega)
    rw [List.append_nil]
    refine ⟨_, l, f0 :: ws0, rfl, rfl, .inl (SqL.of upd_same), ?_, q _ (e2.trans (Ex.new hl))⟩
    rw [List.map_cons, List.sum_cons, List.length_cons, wn]
    have : (Str.ofString " ").length = 1 := rfl
    rw [this]; omega
end

end T1

namespace T1
open PySem PySem.Spec PyProof.Rows L2 G
open Evl (Ex)
local macro_rules | `(tactic| walk_at "dd") => `(tactic| (dsimp only [tCB, tCons, tNil, tC, tOp, tUn, tTest, tB, tVar, tAndV, tOrV, tNotV, tIf, tAnd, tOr, tNot, tSeq, tRet, tRetN, tIfS, tAsg, gName, tDrop, tTup, tLst, tChain, tNext, tCall, L2.start]))
theorem ifs_at {t : L2.TT} {a b : TS} {D : Ends} {σ : L2.St} {H : Hp} (h : t σ H fun c H1 => if c = true then a D σ H1 else b D σ H1) : tIfS t a b D σ H := h
theorem not_at {t : L2.TT} {σ : L2.St} {H : Hp} {Q : Bool → Hp → Prop} (h : t σ H fun c H1 => Q (!c) H1) : tNot t σ H Q := h
theorem b_at {te : TE} {σ : L2.St} {H : Hp} {Q : Bool → Hp → Prop} (h : te σ H fun x H1 => ∃ c, x = .bl c ∧ Q c H1) : tB te σ H Q := h
theorem cb2_at {r : List V → Hp → VK → Prop} {te : TE} {c : V} {σ : L2.St} {H : Hp} {Q : VK} (h : te σ H fun v H1 => r [v, c] H1 Q) : tCB r (tCons te (tCons (tC c) tNil)) σ H Q := h
theorem nbs_ln {n : Nat} {rs : List (Nat × Nat)} : (nbs n rs).length = n := by unfold nbs; rw [List.length_map, List.length_range]
theorem tups_wD (w : Str) : tups (wD w) = true := by
  unfold wD
  rw [tups, tupsAll_iff]
  intro d hd
  obtain ⟨p, _, rfl⟩ := List.mem_map.mp hd
  cases TT.num p <;> rfl
theorem isT_str {d : PyData} (h : isT "str" d = true) : ∃ z, d = .str z := by
  cases d <;> first | exact ⟨_, rfl⟩ | cases h
def sp_read_tree (K : PySem.W.Frag) : Sp := sp1 fun a H Q E => ∃ d, Dq K H a d ∧ (∀ z, d = .str z → z.length ≤ 500) ∧ ((∀ z, d = .str z → ¬ ∃ n rs, Reads z n rs) → Err1 K E H "InvalidLine" "given" a) ∧
  (∀ z n rs Fs s H', d = .str z → Reads z n rs → Ex H H' → TreeAt K H' s n rs Fs → H s = none → Q (.ref s) H')
section
variable {K : PySem.W.Frag} {mg : Str → Option Value} {P : Program} {w : World} {base : Heap}
theorem ok_read_tree (T : Tx K mg) : Cal P w K mg base (L2.CX P w) 7 "read_tree" ["line"] (sp_read_tree K) := by
  refine cal_of (fD_read_tree T) (T.glo 19 rfl) sc_read_tree (fun _ _ _ _ _ _ us hl => match us, hl with | [_], _ => rfl) (fun vs H Q E h => len1 h) (fun f cdv A outer s H vs Q E hr h => ?_)
  obtain ⟨a, rfl, h⟩ := h
  refine ⟨_, (pss_cons (ps_if (pt_not (pt_val (pe_callB (call_isiK' (K := K)) (by rfl) (T.free 5 rfl) (by decide +kernel) (pa_cons (pv 0) (pa_cons (pe_bltn (v := .ty "str") (u := .type "str") (by rfl) (T.free 13 rfl) (by decide +kernel) rfl) pa_nil))))) (pss_one (ps_raise rfl (takes_of rfl rfl rfl rfl) (pmk_InvalidLine T hr rfl (pa_cons (pv 0) pa_nil)))) pss_nil)
      (pss_cons (ps_asg (pe_split (pv 0) pe_str) (pg_starK (K := K) rfl (pgs_cons (pg_name (i := 1) sc_read_tree.nd rfl (Or.inl rfl)) (pgs_starLast (pg_name (i := 2) sc_read_tree.nd rfl (Or.inl rfl))))))
      (pss_cons (ps_set (i := 3) sc_read_tree.nd rfl (Or.inl rfl) (pe_ifExp (pt_val (pe_m1 PySem.F.slot_str_endswith PySem.F.type_str_endswith mt_endswith (pv 1) pe_str)) (pe_c (ok_count_in T) (hr.mono (by decide)) rfl pass0 (pa_cons (pe_slice sl_str (pv 1) po_none (po_some (pe_un un_neg pe_int))) pa_nil)) pe_non))
      (pss_cons (ps_setLc (i := 4) (own := [("word", 5)]) rfl sc_read_tree.nd rfl rfl (sw_true rfl rfl rfl (by decide +kernel)) (pi_list (pv 2)) (blkOk_by (own := [("word", 5)]) (N := ["line", "first", "words", "houses", "roads", "word"]) (sc := defScope st_read_tree) (by decide +kernel)) (fun _ _ _ _ _ => (pg_name (i := 5) sc_read_tree.nd rfl (Or.inl rfl))) (fun _ _ _ _ _ => pts_nil) (fun _ _ _ _ _ => (pe_c (ok_numbers_in T) (hr.mono (by decide)) rfl pass0 (pa_cons (pv 5) pa_nil))))
      (pss_cons (ps_if (PW.pt (pw_or (pt_cmpR op_isN (pv 3) pe_non (nomark _)) (pw_or (pt_not (pt_chain op_le op_le pe_int (pv 3) (pe_glob (v := .int 16) rfl (T.con_MOST_HOUSES).choose_spec ⟨_, rfl⟩))) (pw_or1 (pt_not (pt_val (pe_c (ok_are_roads T) (hr.mono (by decide)) rfl pass0 (pa_cons (pv 4) (pa_cons (pv 3) pa_nil))))))))) (pss_one (ps_raise rfl (takes_of rfl rfl rfl rfl) (pmk_InvalidLine T hr rfl (pa_cons (pv 0) pa_nil)))) pss_nil)
      (pss_cons (ps_if (pt_cmpR (op_inT (K := K) (hu65 hr.r)) (pe_tup pa_nil) (pe_c (ok_ways_from T) (hr.mono (by decide)) rfl pass0 (pa_cons (pe_c (ok_joined_by T) (hr.mono (by decide)) rfl pass0 (pa_cons (pv 3) (pa_cons (pv 4) pa_nil))) (pa_cons pe_int pa_nil))) (by with_unfolding_all rfl)) (pss_one (ps_raise rfl (takes_of rfl rfl rfl rfl) (pmk_InvalidLine T hr rfl (pa_cons (pv 0) pa_nil)))) pss_nil)
      (pss_one (ps_ret (tree_mk (K := K) T (hr.mono (by decide)) rfl (pa_cons (pv 3) (pa_cons (pv 4) pa_nil))))))))))), ?_⟩
  obtain ⟨d, hd, hl, q1, q2⟩ := h
  refine seq_at ?_
  refine ifs_at (not_at (b_at (cb2_at ⟨_, rfl, isi_str hd ⟨_, rfl, ?_⟩⟩)))
  cases ed : isT "str" d with
  | false =>
    refine iteT ?_
    exact ⟨_, rfl, _, rfl, fun d' H' _ e' hx => q1 (fun z e => by rw [e] at ed; cases ed) d' H' e' hx⟩
  | true =>
  refine iteF ?_
  obtain ⟨z, rfl⟩ := isT_str ed
  cases hd
  have zl := hl z rfl
  replace q1 : (¬ ∃ n rs, Reads z n rs) → _ := fun h => q1 fun z' e => by cases e; exact h
  replace q2 := fun n rs Fs s H' => q2 z n rs Fs s H' rfl
  have sl := TT.split_len TT.tl_blank (by decide) z
  have sn := TT.split_ne TT.tl_blank (by decide) z
  have sp := TT.split_part TT.tl_blank (by decide) z
  obtain ⟨f, ws, es⟩ : ∃ f ws, Txt.split z " " = f :: ws := by
    cases e : Txt.split z " " with
    | nil => exact absurd e sn
    | cons f ws => exact ⟨f, ws, rfl⟩
  rw [es] at sl sp
  rw [List.length_cons] at sl
  dsimp only [tNext]
  refine seq_at (asg_at ?_)
  refine ⟨_, rfl, ⟨_, rfl⟩, z, Str.ofString " ", rfl, rfl, rfl, by have := line_big (n := z.length + 2) (by omega); omega, fun p hp => ?_⟩
  rw [es]
  refine ⟨p, .str f, ws.map V.str, rfl, SqL.of upd_same, by rw [List.length_map]; omega, fun l hl => ?_⟩
  refine ⟨_, _, rfl, _, _, rfl, rfl, ?_⟩
  have e1 : Ex H (upd (upd H p (.lst ((f :: ws).map V.str))) l (.lst (ws.map V.str))) := (Ex.new hp).trans (Ex.new hl)
  have hws : SqL K (upd (upd H p (.lst ((f :: ws).map V.str))) l (.lst (ws.map V.str))) l (ws.map V.str) := SqL.of upd_same
  dsimp only
  generalize (upd (upd H p (.lst ((f :: ws).map V.str))) l (.lst (ws.map V.str))) = H1 at e1 hws ⊢
  refine seq_at (asg_split (fun v H2 => v = optV (TT.first f) ∧ Ex H1 H2) ?_ ?_)
  rotate_left
  · intro R hR
    refine ⟨_, rfl, ⟨_, rfl⟩, f, Str.ofString ":", rfl, rfl, _, rfl, ?_⟩
    have fe := TT.first_eq f
    cases ce : Txt.endswith f ":" with
    | false =>
      refine iteF ?_
      exact hR _ _ ⟨by rw [fe, ce]; rfl, Ex.refl _⟩
    | true =>
      refine iteT ?_
      have fl : f.length ≤ 500 := Nat.le_trans (sp f List.mem_cons_self) zl
      refine ⟨_, rfl, 1, rfl, -1, rfl, f, rfl, Nat.le_of_lt (line_big (by omega)), _, rfl, _, rfl, Nat.le_trans (cutS_length f none (some (-1))) (by omega), fun H3 e3 => hR _ _ ⟨?_, e3⟩⟩
      rw [fe, ce]; rfl
  rintro _ H2 ⟨rfl, e2⟩
  dsimp only [gName]
  refine seq_at (asg_at ?_)
  have l2 : SqL K H2 l (ws.map V.str) := Evl.ex_l e2 hws
  refine lc_at (n := ws.length) (item := nth (ws.map V.str)) (fun _ => true) (fun i D y H' => Dq K (L2.del H' D) y (wD (ws[i]?.getD Str.empty))) (line_big (by omega)) (fun P q => ⟨_, rfl, l, rfl, ⟨_, l2⟩, q _ _ (Ex.refl _) (its_lm l2)⟩) ?_ ?_ ?_ ?_
  · intro i D y H' o _ h
    rw [del_upd]; exact h
  · exact fun i D y H' H'' e h => h.mono (Ex.del e)
  · intro i D H3 hi hD e3 ⟨ac, hac⟩ Ny Nn hy _
    have at_i : ws[i]? = some ws[i] := List.getElem?_eq_getElem hi
    rw [nth_map at_i]
    refine ⟨rfl, _, rfl, _, rfl, _, rfl, Nat.le_trans (sp _ (List.mem_cons_of_mem _ (List.getElem_mem hi))) (by omega), fun r H4 e4 hr => hy _ _ rfl e4 ?_⟩
    rw [at_i]
    exact hr.del (e4 _ _ hac) (tups_wD _)
  intro D ys H3 hD e3 hd3 f3
  rw [range_all] at f3
  have dqs : Dqs K H3 ys (ws.map wD) := by
    have g : ∀ (us : List Str) (js : List Nat) (vs : List V), F2 (fun i y => Dq K (L2.del H3 D) y (wD (ws[i]?.getD Str.empty))) js vs → (js.map fun i => ws[i]?.getD Str.empty) = us → Dqs K H3 vs (us.map wD) := by
      intro us js vs h
      induction h generalizing us with
      | nil => rintro rfl; exact .nil
      | cons h _ ih => rintro rfl; exact .cons (h.mono Ex.ofDel) (ih _ rfl)
    refine g ws _ ys f3 ?_
    refine List.ext_getElem? fun i => ?_
    rw [List.getElem?_map]
    by_cases c : i < ws.length
    · rw [List.getElem?_range c, List.getElem?_eq_getElem c, Option.map_some, List.getElem?_eq_getElem c]; rfl
    · rw [List.getElem?_eq_none (Nat.le_of_not_lt c), List.getElem?_eq_none (by rw [List.length_range]; omega)]; rfl
  have hds : Dq K H3 (.ref D) (wsD ws) := .lst (SqL.of hd3) dqs
  have e03 := (e1.trans e2).trans e3
  dsimp only [gName]
  have nope : (¬ ∃ n rs, Reads z n rs) → ∀ {H4}, Ex H3 H4 → ∀ d H', Ex H4 H' → H' d = some (.xd [("given", .str z)]) → E (.ref (He.ga K "InvalidLine")) (some d) H' := fun no H4 e4 d H' e' hx => q1 no d H' ((e03.trans e4).trans e') hx
  refine seq_at (ifs_at ?_)
  cases en : TT.first f with
  | none =>
    refine ⟨_, rfl, rfl, _, rfl, ?_⟩
    rw [decide_eq_true (show optV none = V.non from rfl)]
    refine iteT (iteT ?_)
    refine ⟨_, rfl, _, rfl, fun d H' _ e' hx => nope ?_ (Ex.refl _) d H' e' hx⟩
    rintro ⟨n, rs, f', ws', e, a, _⟩
    rw [es] at e
    cases e
    rw [en] at a
    cases a
  | some n =>
  refine ⟨_, rfl, rfl, _, rfl, ?_⟩
  rw [decide_eq_false (show ¬ optV (some n) = V.non from fun q => nomatch q)]
  refine iteF ?_
  have only : ∀ m rs, Reads z m rs → m = n ∧ 1 ≤ m ∧ m ≤ 16 ∧ areRds (wsD ws) n = true ∧ rs = rdsOf (wsD ws) ∧ Joined n (rdsOf (wsD ws)) := by
    rintro m rs ⟨f', ws', e, a, h1, h2, h3, R, J⟩
    rw [es] at e
    cases e
    rw [en] at a
    cases a
    exact ⟨rfl, h1, h2, areRds_iff.mpr ⟨h3, rs, R⟩, (rds_rs R).symm, (rds_rs R).symm ▸ J⟩
  refine ⟨_, rfl, 1, (n : Int), rfl, rfl, _, rfl, ?_⟩
  by_cases c1 : (1 : Int) ≤ n
  rotate_left
  · rw [decide_eq_false c1]
    refine iteF ⟨_, rfl, iteT (iteT ?_)⟩
    exact ⟨_, rfl, _, rfl, fun d H' _ e' hx => nope (fun ⟨m, rs, R⟩ => by have := only m rs R; omega) (Ex.refl _) d H' e' hx⟩
  rw [decide_eq_true c1]
  refine iteT ⟨(n : Int), 16, rfl, rfl, _, rfl, ?_⟩
  by_cases c2 : (n : Int) ≤ 16
  rotate_left
  · rw [decide_eq_false c2]
    refine iteT (iteT ?_)
    exact ⟨_, rfl, _, rfl, fun d H' _ e' hx => nope (fun ⟨m, rs, R⟩ => by have := only m rs R; omega) (Ex.refl _) d H' e' hx⟩
  rw [decide_eq_true c2]
  refine iteF ?_
  have few : (items (wsD ws)).length ≤ 100000 := by show (ws.map wD).length ≤ _; rw [List.length_map]; omega
  have few2 : ∀ x ∈ items (wsD ws), (items x).length ≤ 100000 := fun x hx => by
    obtain ⟨v, hv, rfl⟩ := List.mem_map.mp (show x ∈ ws.map wD from hx)
    show ((Txt.split v "-").map fun p => optD (TT.num p)).length ≤ _
    rw [List.length_map]
    have a := TT.split_len TT.tl_dash (by decide) v
    have b := sp v (List.mem_cons_of_mem _ hv)
    omega
  refine ⟨_, rfl, _, rfl, _, _, rfl, wsD ws, (n : Int), hds, rfl, few, few2, fun H4 e4 => ⟨_, rfl, ?_⟩⟩
  cases ar : areRds (wsD ws) n with
  | false =>
    refine iteT ?_
    exact ⟨_, rfl, _, rfl, fun d H' _ e' hx => nope (fun ⟨m, rs, R⟩ => by have z := (only m rs R).2.2.2.1; rw [ar] at z; cases z) e4 d H' e' hx⟩
  | true =>
  refine iteF ?_
  obtain ⟨isq, G, ie, rl⟩ := rds_good ar
  dsimp only [tNext]
  refine seq_at (ifs_at ?_)
  refine ⟨Nat.zero_le _, fun p0 hp0 => ?_⟩
  have e0 := Ex.new (o := .tup []) hp0
  have nl : (nbs n (rdsOf (wsD ws))).length = n := nbs_ln
  refine ⟨_, rfl, _, rfl, _, _, rfl, n, rdsOf (wsD ws), wsD ws, rfl, by omega, hds.mono (e4.trans e0), rfl, ie, by omega, G, fun r1 H5 e5 hr1 => ?_⟩
  refine ⟨_, _, rfl, nbs n (rdsOf (wsD ws)), 0, hr1, rfl, by omega, by omega, ?_, fun r2 H6 F e6 W hr2 _ _ => ?_⟩
  · rw [nl]
    intro l hl v hv
    obtain ⟨h, _, rfl⟩ := List.mem_map.mp hl
    unfold nb at hv
    exact List.mem_range.mp (List.mem_filter.mp hv).1
  have sh0 : SeqAt.shaped (.tuple (F.map rowD)) = true := shaped_rows F
  have lF : F.length = n := by rw [W.len, nl]
  refine ⟨.tuple [], F.map rowD, dp_tup (l := []) ((e5.trans e6) _ _ upd_same), hr2.dp (SeqAt.canLay_of_shaped sh0), (shaped_ints []).2, sh0, _, rfl, ?_⟩
  rw [any_row]
  have e46 := e4.trans (e0.trans (e5.trans e6))
  cases ea : F.any (·.isEmpty) with
  | true =>
    refine iteT ?_
    refine ⟨_, rfl, _, rfl, fun d H' _ e' hx => nope (fun ⟨m, rs, R⟩ => ?_) e46 d H' e' hx⟩
    have J := (joined_ways W).mp (only m rs R).2.2.2.2.2
    obtain ⟨q, hq, ee⟩ := List.any_eq_true.mp ea
    obtain ⟨k, hk, ek⟩ := List.getElem_of_mem hq
    have z := J k (by omega)
    rw [at_of (List.getElem?_eq_getElem hk), ek] at z
    exact z (List.isEmpty_iff.mp ee)
  | false =>
    refine iteF ?_
    have al : ∀ v, v < n → M.at_ F v ≠ [] := fun v hv q => by
      have hm : F[v]? = some F[v] := List.getElem?_eq_getElem (by omega)
      rw [at_of hm] at q
      have : F.any (·.isEmpty) = true := List.any_eq_true.mpr ⟨_, List.mem_of_getElem? hm, by rw [q]; rfl⟩
      rw [ea] at this; cases this
    have J := (joined_ways W).mpr al
    have R : Reads z n (rdsOf (wsD ws)) := by
      obtain ⟨h1, rs, h2⟩ := areRds_iff.mp ar
      rw [rds_rs h2] at J ⊢
      exact ⟨f, ws, es, en, by omega, by omega, h1, h2, J⟩
    dsimp only [tNext]
    refine ret_at ?_
    refine ⟨_, rfl, _, rfl, rfl, rfl, fun x dx hx hdx ne => ?_⟩
    have eX : Ex H6 (upd (upd H6 dx (.own x)) x (.ins (He.ga K "Tree") dx [])) := fun b z e => by rw [upd_ne (ne_of_none e hx), upd_ne (ne_of_none e hdx)]; exact e
    refine ⟨_, _, _, rfl, H6, x, dx, rfl, eX, hx, upd_same, .int (n : Int), wsD ws, .int _, hds.mono e46, few, few2, fun ok => ?_, fun m e1 m1 m16 ar' => ?_, fun m F' j e1 m1 m16 ar' W' jn z1 z2 => ?_, fun m Fs H' e1 ar' e t al => ?_⟩
    · exact absurd ok (by simp only [okN, Bool.and_eq_false_iff, decide_eq_false_iff_not]; omega)
    · have em : (n : Int) = m := PyData.int.inj e1
      have em' : n = m := by omega
      subst em'
      rw [ar] at ar'; cases ar'
    · have em : (n : Int) = m := PyData.int.inj e1
      have em' : n = m := by omega
      subst em'
      exact absurd z1 ((joined_ways W').mp J j jn)
    · have em : (n : Int) = m := PyData.int.inj e1
      have em' : n = m := by omega
      subst em'
      exact ⟨rfl, q2 n _ Fs x H' R ((e03.trans e46).trans e) t (Evl.fresh_back (e03.trans e46) hx)⟩
end

end T1

namespace T1
open PySem PySem.Spec PyProof.Rows L2 G
open Evl (Ex)
local macro_rules | `(tactic| walk_at "dd") => `(tactic| (dsimp only [tCB, tCons, tNil, tC, tOp, tUn, tTest, tB, tVar, tAndV, tOrV, tNotV, tIf, tAnd, tOr, tNot, tSeq, tRet, tRetN, tIfS, tAsg, gName, tDrop, tTup, tLst, tChain, tNext, tCall, L2.start]))
def edge (x y : Nat) : Nat × Nat := if x ≤ y then (x, y) else (y, x)
/-- a tree grown house by house: the k-th of ns hangs at an earlier one -/
def Grown (n : Nat) (rs : List (Nat × Nat)) : Prop := ∃ (ns : List Nat) (b : Nat → Nat), ns.Perm (List.range n) ∧ (∀ k, 1 ≤ k → k < n → b k < k) ∧ rs.Perm ((List.range (n - 1)).map fun k => edge (ns[k + 1]?.getD 0) (ns[b (k + 1)]?.getD 0))
def ltN (p q : Nat × Nat) : Bool := ltR ((p.1 : Int), (p.2 : Int)) ((q.1 : Int), (q.2 : Int))
structure WorldOk (n : Nat) (rs : List (Nat × Nat)) : Prop where
  n1 : 1 ≤ n
  n16 : n ≤ 16
  gr : Grown n rs
  as : rs.Pairwise fun p q => ltN q p = false
/-- a world stands at w, both lists made here (none of them in B) -/
structure WorldAt (K : PySem.W.Frag) (H : Hp) (w : V) (n : Nat) (rs : List (Nat × Nat)) : Prop where
  at_ : ∃ a s ts, w = .ref a ∧ H a = some (.lst [iV n, .ref s]) ∧ H s = some (.lst ts) ∧ F2 (fun p v => ∃ t, v = V.ref t ∧ H t = some (.tup [iV p.1, iV p.2])) rs ts
  ok : WorldOk n rs
theorem WorldAt.mono {K : PySem.W.Frag} {H H' : Hp} {w : V} {n : Nat} {rs} (e : Ex H H') (h : WorldAt K H w n rs) : WorldAt K H' w n rs :=
  let ⟨a, s, ts, h1, h2, h3, h4⟩ := h.at_; ⟨⟨a, s, ts, h1, e _ _ h2, e _ _ h3, h4.imp fun _ _ ⟨t, a, b⟩ => ⟨t, a, e _ _ b⟩⟩, h.ok⟩
/-- the pair p stands at v -/
def TP (H : Hp) (p : Nat × Nat) (v : V) : Prop := ∃ t, v = .ref t ∧ H t = some (.tup [iV p.1, iV p.2])
theorem TP.mono {H H' : Hp} {p : Nat × Nat} {v : V} (e : Ex H H') (h : TP H p v) : TP H' p v := let ⟨t, a, b⟩ := h; ⟨t, a, e _ _ b⟩
theorem TP.updL {H : Hp} {p : Nat × Nat} {v : V} {B : Addr} {ys zs : List V} (hB : H B = some (.lst ys)) (h : TP H p v) : TP (upd H B (.lst zs)) p v :=
  let ⟨t, a, b⟩ := h; ⟨t, a, by rw [upd_ne (ne_of b hB (by intro z; cases z))]; exact b⟩
theorem TP.take {H H' : Hp} {A : Addr} {l : List V} {p : Nat × Nat} {v : V} (hA : H A = some (.lst l)) (e : Ex (L2.del H A) H') (h : TP H p v) : TP H' p v :=
  let ⟨t, a, b⟩ := h; ⟨t, a, del_get e (ne_of b hA (by intro z; cases z)) b⟩
theorem sort2 {ns : List Int} {x y : Nat} (p : ns.Perm [(x : Int), (y : Int)]) (s : ns.Pairwise (· ≤ ·)) : ns = [((edge x y).1 : Int), ((edge x y).2 : Int)] := by
  refine sort_unique (p.trans ?_) s ?_
  · unfold edge; split
    · exact .refl _
    · exact List.Perm.swap ..
  · unfold edge; split
    · simp; omega
    · simp; omega
theorem range_snoc_map {α : Type} (f : Nat → α) (k : Nat) : (List.range (k + 1)).map f = (List.range k).map f ++ [f k] := by rw [List.range_succ, List.map_append]; rfl
theorem tp_all {H : Hp} {kf : V → Int × Int} (tpk : ∀ {p : Nat × Nat} {v : V}, TP H p v → kf v = ((p.1 : Int), (p.2 : Int))) : ∀ ys : List V, (∀ v ∈ ys, ∃ p, TP H p v) → F2 (TP H) (ys.map fun v => rdN (kf v)) ys
  | [], _ => .nil
  | v :: ys, h => by
    refine .cons ?_ (tp_all tpk ys fun u hu => h u (List.mem_cons_of_mem _ hu))
    obtain ⟨p, hp⟩ := h v List.mem_cons_self
    show TP H (rdN (kf v)) v
    rw [tpk hp]
    exact hp
theorem tp_dqs {K : PySem.W.Frag} {H : Hp} : ∀ {rs : List (Nat × Nat)} {ys : List V}, F2 (TP H) rs ys → Dqs K H ys (rs.map pairD)
  | _, _, .nil => .nil
  | _, _, .cons ⟨t, e, z⟩ h => .cons (e ▸ .tup (SqT.of z) (.cons (.int _) (.cons (.int _) .nil))) (tp_dqs h)
def sp__law_world (K : PySem.W.Frag) : Sp := sp1 fun a H Q E => ∃ (A : Addr) (c : Nat), a = .ref A ∧ c ≤ 900000 ∧ BoxAt H A c ∧ ∀ w n rs H', Ex (L2.del H A) H' → BoxAt H' A (c + 40) → WorldAt K H' w n rs → (∀ B l, H B = some (.lst l) → WorldAt K (L2.del H' B) w n rs) → Q w H'
section
variable {K : PySem.W.Frag} {mg : Str → Option Value} {P : Program} {w : World} {base : Heap}
theorem ok__law_world (T : Tx K mg) : Cal P w K mg base CX0 3 "_law_world" ["_law_box_here"] (sp__law_world K) := by
  refine cal_of (fD__law_world T) (T.glo 24 rfl) sc__law_world (fun _ _ _ _ _ _ us hl => match us, hl with | [_], _ => rfl) (fun vs H Q E h => len1 h) (fun f cdv A outer s H vs Q E hr h => ?_)
  obtain ⟨a, rfl, h⟩ := h
  refine ⟨_, (PSs.nox (pss_cons (ps_par (i := 1) (j := 2) rfl sc__law_world.nd rfl rfl (by decide) rfl rfl (pa_cons (pe_c (ok__law_take T) (hr.mono (by decide)) rfl pass0 (pa_cons (pv 0) (pa_cons pe_int pa_nil))) (pa_cons (pe_c (ok__law_take T) (hr.mono (by decide)) rfl pass0 (pa_cons (pv 0) (pa_cons pe_int pa_nil))) pa_nil)) (by rfl))
      (pss_cons (ps_set (i := 3) sc__law_world.nd rfl (Or.inl rfl) (pe_ifExp (pt_cmpR op_lt (pv 1) pe_int (nomark _)) (pe_ix (ix_listK (K := K)) (pe_lst (pa_cons pe_int (pa_cons pe_int (pa_cons pe_int (pa_cons pe_int (pa_cons pe_int (pa_cons pe_int (pa_cons pe_int pa_nil)))))))) (pv 1) (fun _ _ => rfl)) (pe_op op_add pe_int (pe_c (ok__law_take T) (hr.mono (by decide)) rfl pass0 (pa_cons (pv 0) (pa_cons pe_int pa_nil))))))
      (pss_cons (ps_par (i := 4) (j := 5) rfl sc__law_world.nd rfl rfl (by decide) rfl rfl (pa_cons (pe_c (ok__law_mixed T) (hr.mono (by decide)) rfl pass0 (pa_cons (pv 0) (pa_cons (pe_listRg rfl rfl (T.free 7 rfl) (prg_1 rfl (T.free 10 rfl) (pv 3))) pa_nil))) (pa_cons (pe_lst pa_nil) pa_nil)) (by rfl))
      (pss_cons (ps_for PassesOwn.never rfl (pi_range2 (by rfl) (T.free 10 rfl) (pa_cons pe_int (pa_cons (pv 3) pa_nil))) (pg_name (i := 6) sc__law_world.nd rfl (Or.inl rfl)) (pss_cons (ps_set (i := 7) sc__law_world.nd rfl (Or.inl rfl) (pe_ifExp (pt_cmpR op_eq (pv 2) pe_int (nomark _)) (pe_c (ok__law_take T) (hr.mono (by decide)) rfl pass0 (pa_cons (pv 0) (pa_cons (pv 6) pa_nil))) (pe_ix (ix_listK (K := K)) (pe_lst (pa_cons (pe_op op_sub (pv 6) pe_int) (pa_cons pe_int (pa_cons pe_int (pa_cons (pe_callB (call_max2 rfl) (by rfl) (T.free 8 rfl) (by decide +kernel) (pa_cons pe_int (pa_cons (pe_op op_sub (pv 6) pe_int) pa_nil))) pa_nil))))) (pv 2) (fun _ _ => rfl))))
      (pss_one (ps_expr (pe_bm PySem.F.plainAttrs_list PySem.F.slot_list_append PySem.F.type_list_append mt_append (pv 5) (pa_cons (pe_callTy (call_tupK (K := K)) (by rfl) (T.free 15 rfl) (by decide +kernel) (pa_cons (pe_callB (cr_sortedIK (K := K)) (by rfl) (T.free 12 rfl) (by decide +kernel) (pa_cons (pe_lst (pa_cons (pe_ix (ix_listK (K := K)) (pv 4) (pv 6) (fun _ _ => rfl)) (pa_cons (pe_ix (ix_listK (K := K)) (pv 4) (pv 7) (fun _ _ => rfl)) pa_nil))) pa_nil)) pa_nil)) pa_nil))))))
      (pss_one (ps_ret (pe_lst (pa_cons (pv 3) (pa_cons (pe_callB (cr_sortedPOK (K := K)) (by rfl) (T.free 12 rfl) (by decide +kernel) (pa_cons (pv 5) pa_nil)) pa_nil)))))))))), ?_⟩
  obtain ⟨A, c, rfl, c9, hb, q⟩ := h
  have m8 : ∀ {j : Nat}, j ≤ 16 → j ≤ 1000000 := fun h => by omega
  refine seq_at ?_
  refine ⟨_, rfl, _, _, rfl, A, 8, c, rfl, rfl, by decide, by decide, by omega, hb, fun w1 H1 hw e1 hb1 => ?_⟩
  refine ⟨_, rfl, _, _, rfl, A, 4, c + 1, rfl, rfl, by decide, by decide, by omega, hb1, fun kd H2 hkd e2 hb2 => ⟨_, _, rfl, ?_⟩⟩
  have e02 := ex_of_del e1 del_same e2
  dsimp only
  refine seq_at (asg_split (fun v H3 => ∃ m : Nat, v = iV m ∧ 1 ≤ m ∧ m ≤ 16 ∧ Ex (L2.del H A) H3 ∧ BoxAt H3 A (c + 3)) ?_ ?_)
  rotate_left
  · intro R hR
    refine ⟨_, rfl, _, _, rfl, rfl, _, rfl, ?_⟩
    by_cases w7 : (w1 : Int) < 7
    · rw [decide_eq_true w7]
      refine iteT ?_
      refine ⟨(by show 7 ≤ sizeLine; decide), fun l hl => ?_⟩
      obtain ⟨m, hm, m1, m2⟩ : ∃ m : Nat, [V.int 3, V.int 4, V.int 11, V.int 16, V.int 5, V.int 1, V.int 2][w1]? = some (iV m) ∧ 1 ≤ m ∧ m ≤ 16 := by
        have w7' : w1 < 7 := by omega
        match w1, w7' with
        | 0, _ => exact ⟨3, rfl, by decide, by decide⟩
        | 1, _ => exact ⟨4, rfl, by decide, by decide⟩
        | 2, _ => exact ⟨11, rfl, by decide, by decide⟩
        | 3, _ => exact ⟨16, rfl, by decide, by decide⟩
        | 4, _ => exact ⟨5, rfl, by decide, by decide⟩
        | 5, _ => exact ⟨1, rfl, by decide, by decide⟩
        | 6, _ => exact ⟨2, rfl, by decide, by decide⟩
      have el := Evl.Ex.new (o := .lst [V.int 3, V.int 4, V.int 11, V.int 16, V.int 5, V.int 1, V.int 2]) hl
      exact ⟨_, rfl, l, _, _, _, rfl, rfl, SqL.of upd_same, atI_nat hm, hR _ _ ⟨m, rfl, m1, m2, e02.trans el, (hb2.mono el).up (by omega)⟩⟩
    · rw [decide_eq_false w7]
      refine iteF ?_
      refine ⟨_, rfl, _, _, rfl, A, 16, c + 2, rfl, rfl, by decide, by decide, by omega, hb2, fun i H3 hi e3 hb3 => ?_⟩
      refine ⟨_, _, rfl, rfl, hR _ _ ⟨i + 1, ?_, by omega, by omega, ex_of_del e02 del_same e3, hb3⟩⟩
      show V.int (1 + (i : Int)) = V.int ((i + 1 : Nat) : Int)
      rw [show (1 + (i : Int)) = ((i + 1 : Nat) : Int) by omega]
  rintro _ H3 ⟨m, rfl, m1, m2, e3, hb3⟩
  dsimp only [gName]
  refine seq_at ?_
  obtain ⟨lA, hlA⟩ := hb3.some
  refine ⟨_, rfl, _, rfl, m, rfl, ⟨by decide, by decide, by omega, by omega, by omega⟩, fun p hp => ⟨_, _, rfl, A, p, List.range m, c + 3, rfl, rfl, SqL.of (by rw [upd_same, rgV_nat]; rfl), by rw [List.length_range]; omega, by rw [List.length_range]; omega, hb3.mono (Evl.Ex.new hp), fun f ms H5 pm hf e5 hms hb5 => ⟨Nat.zero_le _, fun P hP => ⟨_, _, rfl, ?_⟩⟩⟩⟩
  have e3p := e3.trans (Evl.Ex.new (o := .lst (rgV 0 (m : Int))) hp)
  have e05 := ex_of_del e3p del_same e5
  have pA : upd H3 p (.lst (rgV 0 (m : Int))) A = some (.lst lA) := Evl.Ex.new hp _ _ hlA
  have fA : f ≠ A := fun z => by rw [z, pA] at hf; cases hf
  obtain ⟨l5, hl5⟩ := hb5.some
  have PA' : P ≠ A := fun z => by rw [z, hl5] at hP; cases hP
  have Pf : P ≠ f := fun z => by rw [z, hms] at hP; cases hP
  have Pd : L2.del H A P = none := Evl.fresh_back e05 hP
  rw [List.length_range] at hb5
  have ml : ms.length = m := by rw [pm.length_eq, List.length_range]
  dsimp only
  refine seq_at ?_
  refine for_at (B := L2.del H A) (n := m - 1) (item := fun i => .int (1 + i)) (fun P q => ⟨_, rfl, 1, m, rfl, ⟨by decide, by decide, by omega, by omega⟩, (by rw [show ((m : Int) - 1).toNat = m - 1 by omega]; exact q _ _ (Evl.Ex.refl _) (its_r 1 (m - 1)))⟩)
    (fun k σ' H' => ∃ (b : Nat → Nat) (ts : List V) (s6 s7 : Option V), σ' = [some (.ref A), some (.int (w1 : Int)), some (.int (kd : Int)), some (iV m), some (.ref f), some (.ref P), s6, s7] ∧ Ex (L2.del H A) H' ∧ BoxAt H' A (c + 3 + m + k) ∧ H' f = some (.lst (ms.map iV)) ∧ H' P = some (.lst ts) ∧ (∀ j, 1 ≤ j → j ≤ k → b j < j) ∧
      F2 (TP H') ((List.range k).map fun j => edge (ms[j + 1]?.getD 0) (ms[b (j + 1)]?.getD 0)) ts) ?_ ?_ ?_ ?_
  · intro H7 e7
    have e6 := Evl.Ex.new (o := .lst []) hP
    exact ⟨fun _ => 0, [], _, _, rfl, (e05.trans e6).trans e7, (hb5.mono e6).mono e7, e7 _ _ (e6 _ _ hms), e7 _ _ upd_same, by omega, .nil⟩
  · rintro k σ' H' ⟨_, _, _, _, _, e, _⟩; exact e
  · rintro k σ' H' hk ⟨b, ts, s6, s7, rfl, e, hbx, hfx, hPx, hbj, tp⟩
    have ek : (1 : Int) + (k : Int) = ((k + 1 : Nat) : Int) := by omega
    rw [ek]
    dsimp only [gName]
    have tl : ts.length = k := by rw [← tp.length, List.length_map, List.length_range]
    refine seq_at (asg_split (fun v H7 => ∃ bk : Nat, v = iV bk ∧ bk < k + 1 ∧ Ex (L2.del H A) H7 ∧ BoxAt H7 A (c + 3 + m + (k + 1)) ∧ H7 f = some (.lst (ms.map iV)) ∧ H7 P = some (.lst ts) ∧ F2 (TP H7) ((List.range k).map fun j => edge (ms[j + 1]?.getD 0) (ms[b (j + 1)]?.getD 0)) ts) ?_ ?_)
    rotate_left
    · intro R hR
      refine ⟨_, rfl, rfl, _, rfl, ?_⟩
      by_cases k2 : kd = 2
      · rw [decide_eq_true (show V.int (kd : Int) = V.int 2 by rw [k2]; rfl)]
        refine iteT ?_
        obtain ⟨lx, hlx⟩ := hbx.some
        refine ⟨_, rfl, _, rfl, _, _, rfl, A, k + 1, c + 3 + m + k, rfl, rfl, by omega, by omega, by omega, hbx, fun i H7 hi e7 hb7 => hR _ _ ⟨i, rfl, hi, ex_of_del e del_same e7, hb7, del_get e7 fA hfx, del_get e7 PA' hPx, tp.imp fun _ _ z => z.take hlx e7⟩⟩
      · rw [decide_eq_false (show ¬ V.int (kd : Int) = V.int 2 from fun z => k2 (by have := V.int.inj z; omega))]
        refine iteF ?_
        refine ⟨_, rfl, _, _, rfl, rfl, _, rfl, _, _, rfl, rfl, _, _, rfl, (by show 4 ≤ sizeLine; decide), fun l hl => ?_⟩
        have el := Evl.Ex.new (H := H') (o := .lst [V.int (((k + 1 : Nat) : Int) - 1), V.int 0, V.int 0, V.int (if ((k + 1 : Nat) : Int) - 2 > 0 then ((k + 1 : Nat) : Int) - 2 else 0)]) hl
        obtain ⟨bk, hbk, lbk⟩ : ∃ bk : Nat, [V.int (((k + 1 : Nat) : Int) - 1), V.int 0, V.int 0, V.int (if ((k + 1 : Nat) : Int) - 2 > 0 then ((k + 1 : Nat) : Int) - 2 else 0)][kd]? = some (iV bk) ∧ bk < k + 1 := by
          match kd, hkd with
          | 0, _ => exact ⟨k, by show some (V.int (((k + 1 : Nat) : Int) - 1)) = some (V.int (k : Int)); rw [show (((k + 1 : Nat) : Int) - 1) = (k : Int) by omega], by omega⟩
          | 1, _ => exact ⟨0, rfl, by omega⟩
          | 2, _ => exact absurd rfl k2
          | 3, _ =>
            by_cases c3 : ((k + 1 : Nat) : Int) - 2 > 0
            · exact ⟨k - 1, by rw [if_pos c3]; show some (V.int (((k + 1 : Nat) : Int) - 2)) = some (V.int ((k - 1 : Nat) : Int)); rw [show (((k + 1 : Nat) : Int) - 2) = ((k - 1 : Nat) : Int) by omega], by omega⟩
            · exact ⟨0, by rw [if_neg c3]; rfl, by omega⟩
        exact ⟨_, rfl, l, _, _, _, rfl, rfl, SqL.of upd_same, atI_nat hbk, hR _ _ ⟨bk, rfl, lbk, e.trans el, (hbx.mono el).up (by omega), el _ _ hfx, el _ _ hPx, tp.imp fun _ _ z => z.mono el⟩⟩
    rintro _ H7 ⟨bk, rfl, lbk, e7, hb7, hf7, hP7, tp7⟩
    dsimp only [gName]
    obtain ⟨x, hx⟩ : ∃ x, ms[k + 1]? = some x := ⟨_, List.getElem?_eq_getElem (by omega)⟩
    obtain ⟨y, hy⟩ : ∃ y, ms[bk]? = some y := ⟨_, List.getElem?_eq_getElem (by omega)⟩
    have gx : (ms.map iV)[k + 1]? = some (iV x) := by rw [List.getElem?_map, hx]; rfl
    have gy : (ms.map iV)[bk]? = some (iV y) := by rw [List.getElem?_map, hy]; rfl
    refine ⟨_, rfl, .inl ⟨rfl, _, SqL.of hP7⟩, _, rfl, _, rfl, f, _, _, _, rfl, rfl, SqL.of hf7, atI_nat gx, _, rfl, _, rfl, f, _, _, _, rfl, rfl, SqL.of hf7, atI_nat gy, (by show 2 ≤ sizeLine; decide), fun l hl => ⟨l, [(x : Int), (y : Int)], rfl, SqL.of upd_same, fun ns' q0 pn sn hq => ⟨q0, _, rfl, .inl ⟨SqL.of upd_same, fun t ht => ?_⟩⟩⟩⟩
    rw [sort2 pn sn] at ht ⊢
    have ex := ((Evl.Ex.new (o := .lst [iV x, iV y]) hl).trans (Evl.Ex.new (o := .lst ([((edge x y).1 : Int), ((edge x y).2 : Int)].map V.int)) hq)).trans (Evl.Ex.new (o := .tup ([((edge x y).1 : Int), ((edge x y).2 : Int)].map V.int)) ht)
    refine ⟨P, ts, _, rfl, rfl, ex _ _ hP7, line_big (by omega), ?_⟩
    refine ⟨fun j => if j = k + 1 then bk else b j, ts ++ [.ref t], _, _, rfl, Evl.Ex.mut (e7.trans ex) Pd, ?_, ?_, upd_same, ?_, ?_⟩
    · obtain ⟨x0, b0, y0, k0, z, r⟩ := hb7.mono ex
      exact ⟨x0, b0, y0, k0, by rw [upd_ne PA'.symm]; exact z, r⟩
    · rw [upd_ne Pf.symm]; exact ex _ _ hf7
    · intro j j1 jk
      by_cases c : j = k + 1
      · show (if j = k + 1 then bk else b j) < j
        rw [if_pos c]; omega
      · show (if j = k + 1 then bk else b j) < j
        rw [if_neg c]; exact hbj j j1 (by omega)
    · rw [range_snoc_map]
      have em : (List.range k).map (fun j => edge (ms[j + 1]?.getD 0) (ms[(if j + 1 = k + 1 then bk else b (j + 1))]?.getD 0)) = (List.range k).map fun j => edge (ms[j + 1]?.getD 0) (ms[b (j + 1)]?.getD 0) :=
        List.map_congr_left fun j hj => by rw [if_neg (by have := List.mem_range.mp hj; omega)]
      rw [em]
      refine F2.snoc ?_ (tp7.imp fun _ _ z => (z.mono ex).updL (ex _ _ hP7))
      have eb : (fun j => if j = k + 1 then bk else b j) (k + 1) = bk := if_pos rfl
      rw [hx, eb, hy]
      exact TP.updL (ex _ _ hP7) ⟨t, rfl, upd_same⟩
  · rintro σ' H' ⟨b, ts, s6, s7, rfl, e, hbx, hfx, hPx, hbj, tp⟩
    dsimp only
    refine ret_at ?_
    have kT : ∀ {t : Addr} {i j : Int}, H' t = some (.tup [.int i, .int j]) → (fun v : V => match v with | .ref t => (match H' t with | some (.tup [.int i, .int j]) => (i, j) | _ => (0, 0)) | _ => ((0, 0) : Int × Int)) (.ref t) = (i, j) := fun h => by simp only [h]
    generalize (fun v : V => match v with | .ref t => (match H' t with | some (.tup [.int i, .int j]) => (i, j) | _ => (0, 0)) | _ => ((0, 0) : Int × Int)) = kf at kT
    have tpk : ∀ {p : Nat × Nat} {v : V}, TP H' p v → kf v = ((p.1 : Int), (p.2 : Int)) := fun h => by obtain ⟨t, rfl, z⟩ := h; exact kT z
    have gm : ∀ {ps : List (Nat × Nat)} {vs : List V}, F2 (TP H') ps vs → (∀ v ∈ vs, ∃ p, TP H' p v) ∧ vs.map (fun v => rdN (kf v)) = ps := by
      intro ps vs h
      induction h with
      | nil => exact ⟨by simp, rfl⟩
      | cons h _ ih =>
        refine ⟨fun v hv => ?_, ?_⟩
        · rcases List.mem_cons.mp hv with rfl | hv
          · exact ⟨_, h⟩
          · exact ih.1 v hv
        · rw [List.map_cons, ih.2, tpk h]; rfl
    obtain ⟨g1, g2⟩ := gm tp
    refine ⟨_, rfl, _, rfl, P, ts, kf, rfl, SqL.of hPx, fun v hv => ?_, fun ys q0 hs hst hq => ?_⟩
    · obtain ⟨p, hp⟩ := g1 v hv
      have z := tpk hp
      obtain ⟨t, rfl, ht⟩ := hp
      exact ⟨t, rfl, by rw [z]; exact ht⟩
    refine ⟨(by show 2 ≤ sizeLine; decide), fun w hw => ?_⟩
    have ey := (Evl.Ex.new (o := .lst ys) hq).trans (Evl.Ex.new (o := .lst [iV m, .ref q0]) hw)
    have all : ∀ v ∈ ys, ∃ p, TP H' p v := fun v hv => g1 v (hst.perm.mem_iff.mp hv)
    have tps := tp_all tpk ys all
    have ok : WorldOk m (ys.map fun v => rdN (kf v)) := by
      refine ⟨m1, m2, ⟨ms, b, pm, fun k k1 km => hbj k k1 (by omega), ?_⟩, ?_⟩
      · rw [← g2]; exact hst.perm.map _
      · rw [List.pairwise_map]
        refine hs.imp_of_mem fun {x y} hx hy z => ?_
        obtain ⟨p, hp⟩ := g1 x (hst.perm.mem_iff.mp hx)
        obtain ⟨p', hp'⟩ := g1 y (hst.perm.mem_iff.mp hy)
        have z' : SrtO.lexB (kf y) (kf x) = false := z
        rw [tpk hp, tpk hp'] at z'
        rw [tpk hp, tpk hp']
        have no := SrtO.lexB_no.mp z'
        unfold ltN ltR rdN
        simp only [Int.toNat_natCast, Bool.or_eq_false_iff, Bool.and_eq_false_iff, decide_eq_false_iff_not] at no ⊢
        omega
    refine q (.ref w) m (ys.map fun v => rdN (kf v)) _ (e.trans ey) ((hbx.mono ey).up (by omega)) ⟨⟨w, q0, ys, rfl, upd_same, Evl.Ex.new hw _ _ upd_same, tps.imp fun _ _ z => z.mono ey⟩, ok⟩ fun B l hB => ⟨⟨w, q0, ys, rfl, ?_, ?_, tps.imp fun _ _ ⟨t, z1, z2⟩ => ⟨t, z1, ?_⟩⟩, ok⟩
    all_goals
      obtain ⟨l', hB'⟩ : ∃ l', H' B = some (.lst l') := by
        by_cases z : B = A
        · obtain ⟨l', z'⟩ := hbx.some
          exact ⟨l', by rw [z]; exact z'⟩
        · exact ⟨l, e B _ (by rw [del_ne z]; exact hB)⟩
    · rw [del_ne (fun z => by rw [z, Evl.Ex.new hq _ _ hB'] at hw; cases hw)]; exact upd_same
    · rw [del_ne (fun z => by rw [z, hB'] at hq; cases hq)]; exact Evl.Ex.new hw _ _ upd_same
    · rw [del_ne (fun z => by rw [z, hB'] at z2; cases z2)]; exact ey _ _ z2
end

end T1

namespace T1
open PySem PySem.Spec PyProof.Rows L2 G
open Evl (Ex)
local macro_rules | `(tactic| walk_at "dd") => `(tactic| (dsimp only [tCB, tCons, tNil, tC, tOp, tUn, tTest, tB, tVar, tAndV, tOrV, tNotV, tIf, tAnd, tOr, tNot, tSeq, tRet, tRetN, tIfS, tAsg, gName, tDrop, tTup, tLst, tChain, tNext, tCall, L2.start]))
open M (at_)
theorem nbs_at {rs : List (Nat × Nat)} {n a x : Nat} (h : x ∈ M.at_ (nbs n rs) a) : a < n ∧ x < n ∧ adj rs a x = true := by
  unfold M.at_ nbs at h
  rw [List.getElem?_map] at h
  by_cases c : a < n
  · rw [List.getElem?_range c] at h
    have h' : x ∈ nb rs n a := h
    unfold nb at h'
    rw [List.mem_filter, List.mem_range] at h'
    exact ⟨c, h'⟩
  · rw [List.getElem?_eq_none (by rw [List.length_range]; omega)] at h
    cases h
theorem mem_nbs {rs : List (Nat × Nat)} {n a x : Nat} : x ∈ at_ (nbs n rs) a ↔ a < n ∧ x < n ∧ adj rs a x = true := by
  refine ⟨nbs_at, fun ⟨h1, h2, h3⟩ => ?_⟩
  unfold M.at_ nbs
  rw [List.getElem?_map, List.getElem?_range h1]
  show x ∈ nb rs n a
  unfold nb
  rw [List.mem_filter, List.mem_range]
  exact ⟨h2, h3⟩
theorem adj_sym {rs : List (Nat × Nat)} {a x : Nat} (h : adj rs a x = true) : adj rs x a = true := by
  unfold adj at *
  rw [Bool.or_comm]; exact h
structure TreeG (n : Nat) (rs : List (Nat × Nat)) : Prop where
  sym : ∀ a b, b ∈ at_ (nbs n rs) a → a ∈ at_ (nbs n rs) b
  one : M.OneWay (nbs n rs)
  con : ∀ x y, x < n → y < n → ∃ p, M.Path (nbs n rs) x y p
theorem edge_mem {x y u v : Nat} : edge x y = (u, v) ∨ edge x y = (v, u) ↔ (x = u ∧ y = v) ∨ (x = v ∧ y = u) := by
  unfold edge
  split <;> simp only [Prod.mk.injEq] <;> omega
theorem grown_adj {n : Nat} {rs : List (Nat × Nat)} {ns : List Nat} {b : Nat → Nat} (pe : rs.Perm ((List.range (n - 1)).map fun k => edge (ns[k + 1]?.getD 0) (ns[b (k + 1)]?.getD 0))) {u v : Nat} :
    adj rs u v = true ↔ ∃ k, k + 1 < n ∧ ((ns[k + 1]?.getD 0 = u ∧ ns[b (k + 1)]?.getD 0 = v) ∨ (ns[k + 1]?.getD 0 = v ∧ ns[b (k + 1)]?.getD 0 = u)) := by
  unfold adj
  rw [Bool.or_eq_true, List.contains_iff_mem, List.contains_iff_mem, pe.mem_iff, pe.mem_iff, List.mem_map, List.mem_map]
  constructor
  · rintro (⟨k, hk, e⟩ | ⟨k, hk, e⟩)
    · exact ⟨k, by have := List.mem_range.mp hk; omega, edge_mem.mp (.inl e)⟩
    · exact ⟨k, by have := List.mem_range.mp hk; omega, edge_mem.mp (.inr e)⟩
  · rintro ⟨k, hk, e⟩
    rcases edge_mem.mpr e with e | e
    · exact .inl ⟨k, List.mem_range.mpr (by omega), e⟩
    · exact .inr ⟨k, List.mem_range.mpr (by omega), e⟩
theorem TreeG.of {n : Nat} {rs : List (Nat × Nat)} (g : Grown n rs) : TreeG n rs := by
  obtain ⟨ns, b, pm, hb, pe⟩ := g
  have nd : ns.Nodup := pm.nodup_iff.mpr List.nodup_range
  have ln : ns.length = n := by rw [pm.length_eq, List.length_range]
  have at_k : ∀ k, k < n → ns[k]? = some (ns[k]?.getD 0) := fun k hk => by rw [List.getElem?_eq_getElem (by omega)]; rfl
  have rank : ∀ k, k < n → ns.idxOf (ns[k]?.getD 0) = k := fun k hk => by
    have hk' : k < ns.length := by omega
    rw [List.getElem?_eq_getElem hk']
    exact nd.idxOf_getElem k hk'
  have ed : ∀ {u v}, v ∈ at_ (nbs n rs) u → ∃ k, k + 1 < n ∧ b (k + 1) < k + 1 ∧ ((ns[k + 1]?.getD 0 = u ∧ ns[b (k + 1)]?.getD 0 = v ∧ ns.idxOf u = k + 1 ∧ ns.idxOf v = b (k + 1)) ∨ (ns[k + 1]?.getD 0 = v ∧ ns[b (k + 1)]?.getD 0 = u ∧ ns.idxOf v = k + 1 ∧ ns.idxOf u = b (k + 1))) := fun {u v} h => by
    obtain ⟨k, hk, e⟩ := (grown_adj pe).mp (mem_nbs.mp h).2.2
    have lb := hb (k + 1) (by omega) hk
    have r1 := rank (k + 1) hk
    have r2 := rank (b (k + 1)) (by omega)
    refine ⟨k, hk, lb, ?_⟩
    rcases e with ⟨e1, e2⟩ | ⟨e1, e2⟩
    · rw [e1] at r1; rw [e2] at r2; exact .inl ⟨e1, e2, r1, r2⟩
    · rw [e1] at r1; rw [e2] at r2; exact .inr ⟨e1, e2, r1, r2⟩
  have sym : ∀ a c, c ∈ at_ (nbs n rs) a → a ∈ at_ (nbs n rs) c := fun a c h => by
    obtain ⟨h1, h2, h3⟩ := mem_nbs.mp h
    exact mem_nbs.mpr ⟨h2, h1, adj_sym h3⟩
  have R : M.Ranked (nbs n rs) ns.idxOf := by
    refine ⟨sym, fun a c h => ?_, fun a c d h1 h2 l1 l2 => ?_⟩
    · obtain ⟨k, _, _, ⟨_, _, e1, e2⟩ | ⟨_, _, e1, e2⟩⟩ := ed h <;> omega
    · obtain ⟨k, _, _, ⟨p1, p2, e1, e2⟩ | ⟨_, _, e1, e2⟩⟩ := ed h1
      · obtain ⟨k', _, _, ⟨q1, q2, f1, f2⟩ | ⟨_, _, f1, f2⟩⟩ := ed h2
        · have : k = k' := by omega
          subst this
          exact p2.symm.trans q2
        · omega
      · omega
  have mem_n : ∀ x, x < n → ∃ k, k < n ∧ ns[k]?.getD 0 = x := fun x hx => by
    obtain ⟨k, hk, e⟩ := List.getElem_of_mem (pm.mem_iff.mpr (List.mem_range.mpr hx))
    exact ⟨k, by omega, by rw [List.getElem?_eq_getElem hk, e]; rfl⟩
  have lt_n : ∀ k, k < n → ns[k]?.getD 0 < n := fun k hk => List.mem_range.mp (pm.mem_iff.mp (List.mem_of_getElem? (at_k k hk)))
  have root : ∀ k, k < n → ∃ p, M.Walk (nbs n rs) (ns[0]?.getD 0) (ns[k]?.getD 0) p := by
    intro k
    induction k using Nat.strongRecOn with
    | _ k ih =>
      intro hk
      cases k with
      | zero => exact ⟨_, .one _⟩
      | succ k =>
        have lb := hb (k + 1) (by omega) hk
        obtain ⟨p, w⟩ := ih (b (k + 1)) lb (by omega)
        have e : ns[k + 1]?.getD 0 ∈ at_ (nbs n rs) (ns[b (k + 1)]?.getD 0) := mem_nbs.mpr ⟨lt_n _ (by omega), lt_n _ hk, (grown_adj pe).mpr ⟨k, hk, .inr ⟨rfl, rfl⟩⟩⟩
        obtain ⟨z, wz, _⟩ := w.join (.cons e (.one _))
        exact ⟨z, wz⟩
  refine ⟨sym, R.oneWay, fun x y hx hy => ?_⟩
  obtain ⟨i, hi, rfl⟩ := mem_n x hx
  obtain ⟨j, hj, rfl⟩ := mem_n y hy
  obtain ⟨p, wp⟩ := root i hi
  obtain ⟨q, wq⟩ := root j hj
  obtain ⟨p', P, _⟩ := wp.path
  obtain ⟨z, wz, _⟩ := (P.rev sym).walk.join wq
  obtain ⟨r, Rp, _⟩ := wz.path
  exact ⟨r, Rp⟩
theorem WorldOk.sub {n : Nat} {rs : List (Nat × Nat)} (w : WorldOk n rs) : (∀ p ∈ rs, p.1 < p.2 ∧ p.2 < n) ∧ rs.Nodup := by
  obtain ⟨ns, b, pm, hb, pe⟩ := w.gr
  have nd : ns.Nodup := pm.nodup_iff.mpr List.nodup_range
  have ln : ns.length = n := by rw [pm.length_eq, List.length_range]
  have rank : ∀ k, k < n → ns.idxOf (ns[k]?.getD 0) = k := fun k hk => by
    have hk' : k < ns.length := by omega
    rw [List.getElem?_eq_getElem hk']
    exact nd.idxOf_getElem k hk'
  have lt_n : ∀ k, k < n → ns[k]?.getD 0 < n := fun k hk => by
    have hk' : k < ns.length := by omega
    rw [List.getElem?_eq_getElem hk']
    exact List.mem_range.mp (pm.mem_iff.mp (List.getElem_mem hk'))
  constructor
  · intro p hp
    obtain ⟨k, hk, rfl⟩ := List.mem_map.mp (pe.mem_iff.mp hp)
    have hk' := List.mem_range.mp hk
    have lb := hb (k + 1) (by omega) (by omega)
    have r1 := rank (k + 1) (by omega)
    have r2 := rank (b (k + 1)) (by omega)
    have ne : ns[k + 1]?.getD 0 ≠ ns[b (k + 1)]?.getD 0 := fun e => by rw [e, r2] at r1; omega
    have l1 := lt_n (k + 1) (by omega)
    have l2 := lt_n (b (k + 1)) (by omega)
    unfold edge
    split <;> simp only <;> omega
  · refine pe.nodup_iff.mpr ?_
    rw [List.Nodup, List.pairwise_map]
    refine List.nodup_range.imp_of_mem fun {k k'} hk hk' ne e => ne ?_
    have h1 := List.mem_range.mp hk
    have h2 := List.mem_range.mp hk'
    have lb := hb (k + 1) (by omega) (by omega)
    have lb' := hb (k' + 1) (by omega) (by omega)
    have r1 := rank (k + 1) (by omega)
    have r2 := rank (b (k + 1)) (by omega)
    have r3 := rank (k' + 1) (by omega)
    have r4 := rank (b (k' + 1)) (by omega)
    rcases edge_mem.mp (show edge (ns[k + 1]?.getD 0) (ns[b (k + 1)]?.getD 0) = ((edge (ns[k' + 1]?.getD 0) (ns[b (k' + 1)]?.getD 0)).1, (edge (ns[k' + 1]?.getD 0) (ns[b (k' + 1)]?.getD 0)).2) ∨ _ from .inl e) with ⟨e1, e2⟩ | ⟨e1, e2⟩
    all_goals
      unfold edge at e1 e2
      split at e1
      all_goals
        split at e2
        all_goals
          simp only at e1 e2
          first
            | omega
            | (rw [e1] at r1; rw [e2] at r2; omega)
theorem WorldOk.good {n : Nat} {rs : List (Nat × Nat)} (w : WorldOk n rs) : Good n rs := ⟨w.sub.1, w.sub.2⟩
theorem WorldOk.rl {n : Nat} {rs : List (Nat × Nat)} (w : WorldOk n rs) : rs.length = n - 1 := by
  obtain ⟨_, _, _, _, pe⟩ := w.gr
  rw [pe.length_eq, List.length_map, List.length_range]
theorem WorldOk.are {n : Nat} {rs : List (Nat × Nat)} (w : WorldOk n rs) {d : PyData} (hs : isSeq d = true) (hi : items d = rs.map pairD) : areRds d n = true := by
  have rl := w.rl
  have n1 := w.n1
  unfold areRds
  simp only [hs, hi, Bool.true_and, Bool.and_eq_true, decide_eq_true_eq, List.all_eq_true, List.length_map]
  refine ⟨by omega, fun x hx => ?_, ?_⟩
  · obtain ⟨p, hp, rfl⟩ := List.mem_map.mp hx
    obtain ⟨h1, h2⟩ := w.sub.1 p hp
    simp only [pairD, intD, isRd, Bool.and_eq_true, decide_eq_true_eq]
    omega
  · unfold asc
    rw [all_range_map, decide_eq_true_eq]
    intro i hi
    simp only [List.length_map] at hi
    have z := List.pairwise_iff_getElem.mp w.as i (i + 1) (by omega) (by omega) (by omega)
    have ne : rs[i]'(by omega) ≠ rs[i + 1]'(by omega) := List.pairwise_iff_getElem.mp w.sub.2 i (i + 1) (by omega) (by omega) (by omega)
    have g : ∀ j, (hj : j < rs.length) → ((rs.map pairD).map rd)[j]?.getD (0, 0) = (((rs[j]).1 : Int), ((rs[j]).2 : Int)) := fun j hj => by
      rw [List.getElem?_map, List.getElem?_map, List.getElem?_eq_getElem hj]; rfl
    rw [g i (by omega), g (i + 1) (by omega)]
    unfold ltN ltR at z
    unfold ltR
    have ne' : ¬ ((rs[i]'(by omega)).1 = (rs[i + 1]'(by omega)).1 ∧ (rs[i]'(by omega)).2 = (rs[i + 1]'(by omega)).2) := fun ⟨a, b⟩ => ne (Prod.ext a b)
    simp only [Bool.or_eq_true, Bool.and_eq_true, decide_eq_true_eq, Bool.or_eq_false_iff, Bool.and_eq_false_iff, decide_eq_false_iff_not] at z ⊢
    omega
theorem okN_nat {n : Nat} (h1 : 1 ≤ n) (h2 : n ≤ 16) : okN (.int (n : Int)) = true := by
  simp only [okN, Bool.and_eq_true, decide_eq_true_eq]; omega
theorem tree_made {K : PySem.W.Frag} {H : Hp} {a b : V} {d2 : PyData} {n : Nat} {Q : Addr → Hp → Prop} (ha : Dq K H a (.int (n : Int))) (hb : Dq K H b d2) (ar : areRds d2 n = true) (n1 : 1 ≤ n) (n16 : n ≤ 16) (b1 : (items d2).length ≤ 100000) (b2 : ∀ x ∈ items d2, (items x).length ≤ 100000)
    (con : ∀ F, M.Ways (nbs n (rdsOf d2)) 0 F → ∀ v, v < n → M.at_ F v ≠ []) (q : ∀ t H' Fs, Ex H H' → H t = none → TreeAt K H' t n (rdsOf d2) Fs → Q t H') :
    ∀ x dx, H x = none → H dx = none → dx ≠ x → sp_Tree___init__ K [.ref x, a, b] (upd (upd H dx (.own x)) x (.ins (He.ga K "Tree") dx [])) (fun v H3 => v = .non ∧ Q x H3) E0 := by
  intro x dx hx hdx ne
  have eX : Ex H (upd (upd H dx (.own x)) x (.ins (He.ga K "Tree") dx [])) := fun b z e => by rw [upd_ne (ne_of_none e hx), upd_ne (ne_of_none e hdx)]; exact e
  refine ⟨_, _, _, rfl, H, x, dx, rfl, eX, hx, upd_same, _, d2, ha, hb, b1, b2, fun ok => ?_, fun m e1 _ _ ar' => ?_, fun m F j e1 _ _ _ W jn z _ => ?_, fun m Fs H' e1 ar' e t al => ?_⟩
  · rw [okN_nat n1 n16] at ok; cases ok
  · have : m = n := by injection e1 with e1; omega
    subst this
    rw [ar] at ar'; cases ar'
  · have : m = n := by injection e1 with e1; omega
    subst this
    exact absurd z (con F W j jn)
  · have : m = n := by injection e1 with e1; omega
    subst this
    exact ⟨rfl, q x H' Fs e hx t⟩
theorem rdsOf_pairs {d : PyData} {rs : List (Nat × Nat)} (hi : items d = rs.map pairD) : rdsOf d = rs := by
  unfold rdsOf
  rw [hi, List.map_map]
  exact (List.map_congr_left fun p _ => by show (((p.1 : Int)).toNat, ((p.2 : Int)).toNat) = p; simp).trans (List.map_id _)
theorem world_tree {K : PySem.W.Frag} {H : Hp} {a b : V} {d2 : PyData} {n : Nat} {rs : List (Nat × Nat)} {Q : Addr → Hp → Prop} (wo : WorldOk n rs) (ha : Dq K H a (.int (n : Int))) (hb : Dq K H b d2) (hs : isSeq d2 = true) (hi : items d2 = rs.map pairD) (q : ∀ t H' Fs, Ex H H' → H t = none → TreeAt K H' t n rs Fs → Q t H') :
    ∀ x dx, H x = none → H dx = none → dx ≠ x → sp_Tree___init__ K [.ref x, a, b] (upd (upd H dx (.own x)) x (.ins (He.ga K "Tree") dx [])) (fun v H3 => v = .non ∧ Q x H3) E0 := by
  have er := rdsOf_pairs hi
  have n16 := wo.n16
  have rl := wo.rl
  refine tree_made ha hb (wo.are hs hi) wo.n1 n16 (by rw [hi, List.length_map]; omega) (fun x hx => ?_) (fun F W v hv => ?_) (by rw [er]; exact q)
  · rw [hi] at hx
    obtain ⟨p, _, rfl⟩ := List.mem_map.mp hx
    show (2 : Nat) ≤ 100000
    decide
  · rw [er] at W
    obtain ⟨p, P⟩ := (TreeG.of wo.gr).con 0 v (by have := wo.n1; omega) hv
    exact W.reach P
def numI (w : Str) : Int := match TT.num w with
  | none => -1
  | some n => (n : Int)
def sp__law_number (K : PySem.W.Frag) : Sp := sp1 fun a H Q E => ∃ w : Str, a = .str w ∧ w.length ≤ 600 ∧ ∀ H', Ex H H' → Q (.int (numI w)) H'
section
variable {K : PySem.W.Frag} {mg : Str → Option Value} {P : Program} {w : World} {base : Heap}
theorem ok__law_number (T : Tx K mg) : Cal P w K mg base CX0 1 "_law_number" ["_law_word"] (sp__law_number K) := by
  refine cal_of (fD__law_number T) (T.glo 27 rfl) sc__law_number (fun _ _ _ _ _ _ us hl => match us, hl with | [_], _ => rfl) (fun vs H Q E h => len1 h) (fun f cdv A outer s H vs Q E hr h => ?_)
  obtain ⟨a, rfl, h⟩ := h
  refine ⟨_, (PSs.nox (pss_cons (ps_if (PW.pt (pw_or (pt_cmpR op_eq (pv 0) pe_str (nomark _)) (pw_or1 (pt_cmpR (op_neNil (K := K) (hu0 hr.r)) (pe_lc (own := [("_law_sign_here", 1)]) rfl sc__law_number.nd (pi_str (pv 0)) (blkOk_by (own := [("_law_sign_here", 1)]) (N := ["_law_word", "_law_sign_here"]) (sc := defScope st__law_number) (by decide +kernel)) (fun _ _ _ _ _ => (pg_name (i := 1) sc__law_number.nd rfl (Or.inl rfl))) (fun _ _ _ _ _ => (pts_one (pt_cmpR op_notIn_sign (pv 1) pe_str (by with_unfolding_all rfl)))) (fun _ _ _ _ _ => (pv 1))) (pe_lst pa_nil) (nomark _))))) (pss_one (ps_ret (pe_un un_neg pe_int))) pss_nil)
      (pss_one (ps_ret (pe_ifExp (PW.pt (pw_and (pt_cmpR op_gt (pe_callB call_len_str (by rfl) (T.free 6 rfl) (by decide +kernel) (pa_cons (pv 0) pa_nil)) pe_int (nomark _)) (pw_and1 (pt_cmpR op_eq (pe_ix ix_str (pv 0) pe_int (fun _ _ => rfl)) pe_str (nomark _))))) (pe_un un_neg pe_int) (pe_callTy call_int_str (by rfl) (T.free 4 rfl) (by decide +kernel) (pa_cons (pv 0) pa_nil))))))), ?_⟩
  obtain ⟨w, rfl, hl, q⟩ := h
  obtain ⟨n1, n2, n3⟩ := num_cases w
  have none_ : TT.num w = none → ∀ H', Ex H H' → Q (.int (-1)) H' := fun e H' e' => by
    have z := q H' e'
    unfold numI at z
    rw [e] at z
    exact z
  refine seq_at ?_
  refine ⟨_, rfl, rfl, ?_⟩
  refine ⟨_, rfl, ?_⟩
  by_cases c0 : w = Str.ofString ""
  · rw [decide_eq_true (show V.str w = V.str (Str.ofString "") by rw [c0])]
    refine iteT (iteT ?_)
    exact ⟨_, rfl, none_ (n1 c0) H (Ex.refl _)⟩
  · rw [decide_eq_false (show ¬ V.str w = V.str (Str.ofString "") from fun z => c0 (V.str.inj z))]
    refine iteF ?_
    walk_at "dd"
    have ln : (TL.tl w).length = w.cps.size := (TL.len_tl w).symm
    have at_ : ∀ i, i < w.cps.size → ∃ c, (TL.tl w)[i]? = some c := fun i hi => ⟨_, List.getElem?_eq_getElem (by omega)⟩
    refine lc_at (fun i => !TT.dig ((TL.tl w)[i]?.getD 0)) (fun i D y H' => True) (line_big (n := w.cps.size) (by rw [len_size]; omega)) (fun P q => l_str rfl q) (fun _ _ _ _ _ _ h => h) (fun _ _ _ _ _ _ h => h) ?_ ?_
    · intro i D H2 hi hD e2 hacc Ny Nn hy hn
      refine ⟨rfl, ?_⟩
      obtain ⟨c, hc⟩ := at_ i hi
      refine ⟨_, rfl, c, _, by rw [sgn_at hc], rfl, _, rfl, ?_⟩
      rw [dig_mem]
      cases d : TT.dig c with
      | true => refine iteF ?_; exact hn _ (by rw [hc]; show (!TT.dig c) = false; rw [d]; rfl) (Ex.refl _)
      | false => refine iteT ?_; exact ⟨_, rfl, hy _ _ (by rw [hc]; show (!TT.dig c) = true; rw [d]; rfl) (Ex.refl _) trivial⟩
    · intro D ys H2 hD e2 hd2 f
      have yl := f.length
      refine ⟨Nat.zero_le _, fun p hp => ?_⟩
      refine ⟨D, ys, p, rfl, rfl, Evl.ex_l (Ex.new hp) (SqL.of hd2), SqL.of upd_same, _, rfl, ?_⟩
      have e3 := e2.trans (Ex.new (o := .lst []) hp)
      cases al : (TL.tl w).all TT.dig with
      | false =>
        have ne : ys.isEmpty = false := by
          obtain ⟨c, hc, cd⟩ := List.all_eq_false.mp al
          obtain ⟨i, hi, ei⟩ := List.getElem_of_mem hc
          have m : i ∈ (List.range w.cps.size).filter fun i => !TT.dig ((TL.tl w)[i]?.getD 0) := List.mem_filter.mpr ⟨List.mem_range.mpr (by omega), by
            rw [List.getElem?_eq_getElem hi, ei]; show (!TT.dig c) = true; cases d : TT.dig c with
            | true => exact absurd d cd
            | false => rfl⟩
          cases ys with
          | nil => rw [List.length_eq_zero_iff.mp yl] at m; cases m
          | cons => rfl
        rw [ne]
        refine iteT ?_
        exact ⟨_, rfl, none_ (n2 al) _ e3⟩
      | true =>
        have em : ys = [] := by
          refine List.length_eq_zero_iff.mp (yl.symm.trans (List.length_eq_zero_iff.mpr (List.filter_eq_nil_iff.mpr fun i hi => ?_)))
          obtain ⟨c, hc⟩ := at_ i (List.mem_range.mp hi)
          have d := List.all_eq_true.mp al c (List.mem_of_getElem? hc)
          rw [hc]
          show ¬ (!TT.dig c) = true
          rw [d]; simp
        rw [em]
        refine iteF ?_
        obtain ⟨c, ⟨hc, it⟩ | big⟩ := n3 c0 al
        rotate_left
        · omega
        have num_is : TT.num w = if ((TL.tl w).tail.isEmpty || c != 48) = true then some (NumText.digitsVal (TL.tl w)) else none := by
          unfold TT.num
          cases e : TL.tl w with
          | nil => rw [e] at hc; cases hc
          | cons c' r =>
            rw [e] at hc al
            cases hc
            rw [TT.numS_cons, al, Bool.true_and]; rfl
        have e4 := e3
        have fine : TT.num w = some (NumText.digitsVal (TL.tl w)) → ∀ H', Ex H H' → Q (V.int ((NumText.digitsVal (TL.tl w) : Nat) : Int)) H' := fun e H' e' => by
          have z := q H' e'
          unfold numI at z
          rw [e] at z
          exact z
        have wl : w.length ≤ sizeLine := Nat.le_of_lt (line_big (by omega))
        have tl_ : (TL.tl w).tail.isEmpty = decide (w.length ≤ 1) := by
          have lw := TL.len_tl w
          cases e : TL.tl w with
          | nil => rw [e] at hc; cases hc
          | cons c' r =>
            rw [e] at lw
            cases r with
            | nil => rw [lw]; rfl
            | cons d r => rw [lw]; simp
        refine ⟨_, rfl, w, rfl, wl, _, _, rfl, rfl, _, rfl, ?_⟩
        by_cases l1 : (1 : Int) < w.length
        · rw [decide_eq_true l1]
          refine iteT ⟨_, rfl, w, 0, c, rfl, rfl, wl, atI_nat (j := 0) hc, rfl, _, rfl, ?_⟩
          rw [decide_eq_false (show ¬ w.length ≤ 1 by omega)] at tl_
          by_cases c48 : c = 48
          · subst c48
            rw [decide_eq_true (show V.str (⟨#[48]⟩ : Str) = V.str (Str.ofString "0") by decide +kernel)]
            refine iteT ⟨1, rfl, none_ ?_ _ e3⟩
            rw [num_is, tl_]; rfl
          · rw [decide_eq_false (show ¬ V.str (⟨#[c]⟩ : Str) = V.str (Str.ofString "0") from fun z => c48 (by
                have y : (⟨#[c]⟩ : Str) = ⟨#[48]⟩ := (V.str.inj z).trans (show Str.ofString "0" = ⟨#[48]⟩ by decide +kernel)
                exact one_str.mp y))]
            refine iteF ⟨_, rfl, _, _, rfl, it, by omega, fine ?_ _ e3⟩
            rw [num_is, if_pos]
            rw [Bool.or_eq_true]
            exact .inr (by simpa using c48)
        · rw [decide_eq_false l1]
          rw [decide_eq_true (show w.length ≤ 1 by omega)] at tl_
          refine iteF (iteF ⟨_, rfl, _, _, rfl, it, by omega, fine ?_ _ e3⟩)
          rw [num_is, tl_]; rfl
end
theorem num_I {w : Str} : (0 ≤ numI w → ∃ n : Nat, TT.num w = some n ∧ numI w = n) ∧ (numI w < 0 → TT.num w = none) := by
  unfold numI
  cases TT.num w with
  | none => exact ⟨fun h => absurd h (by decide), fun _ => rfl⟩
  | some n => exact ⟨fun _ => ⟨n, rfl, rfl⟩, fun h => by simp only at h; omega⟩

end T1

namespace T1
open PySem PySem.Spec PyProof.Rows L2 G
open Evl (Ex)
local macro_rules | `(tactic| walk_at "dd") => `(tactic| (dsimp only [tCB, tCons, tNil, tC, tOp, tUn, tTest, tB, tVar, tAndV, tOrV, tNotV, tIf, tAnd, tOr, tNot, tSeq, tRet, tRetN, tIfS, tAsg, gName, tDrop, tTup, tLst, tChain, tNext, tCall, L2.start]))
/-- what a line writes, of pairs that need not be right -/
def sp__law_written (K : PySem.W.Frag) : Sp := sp2 fun a b H Q E => ∃ (n : Nat) (p : Addr) (xs : List V) (rs : List (Nat × Nat)), a = .int (n : Int) ∧ n < 1000 ∧ b = .ref p ∧ SqL K H p xs ∧ Dqs K H xs (rs.map pairD) ∧ rs.length ≤ 300 ∧ (∀ q ∈ rs, q.1 < 1000 ∧ q.2 < 1000) ∧ ∀ H', Ex H H' → Q (.str (TT.line n rs)) H'
section
variable {K : PySem.W.Frag} {mg : Str → Option Value} {P : Program} {w : World} {base : Heap}
theorem ok__law_written (T : Tx K mg) : Cal P w K mg base CX0 1 "_law_written" ["_law_many", "_law_pairs"] (sp__law_written K) := by
  refine cal_of (fD__law_written T) (T.glo 25 rfl) sc__law_written (fun _ _ _ _ _ _ us hl => match us, hl with | [_, _], _ => rfl) (fun vs H Q E h => len2 h) (fun f cdv A outer s H vs Q E hr h => ?_)
  obtain ⟨a, b, rfl, h⟩ := h
  refine ⟨_, (PSs.nox (pss_one (ps_ret (pe_joinK (K := K) pe_str (pe_op op_cat (pe_lst (pa_cons (pe_op op_add_str (pe_callTy call_str_int (by rfl) (T.free 13 rfl) (by decide +kernel) (pa_cons (pv 0) pa_nil)) pe_str) pa_nil)) (pe_lc (own := [("_law_one", 2), ("_law_other", 3)]) rfl sc__law_written.nd (pi_list (pv 1)) (blkOk_by (own := [("_law_one", 2), ("_law_other", 3)]) (N := ["_law_many", "_law_pairs", "_law_one", "_law_other"]) (sc := defScope st__law_written) (by decide +kernel)) (fun _ _ _ _ _ => (pg_tupK (K := K) (n := 2) rfl (pgs_cons (pg_name (i := 2) sc__law_written.nd rfl (Or.inl rfl) (.inr rfl)) (pgs_cons (pg_name (i := 3) sc__law_written.nd rfl (Or.inl rfl) (.inr rfl)) pgs_nil)))) (fun _ _ _ _ _ => pts_nil) (fun _ _ _ _ _ => (pe_op op_add_str (pe_op op_add_str (pe_callTy call_str_int (by rfl) (T.free 13 rfl) (by decide +kernel) (pa_cons (pv 2) pa_nil)) pe_str) (pe_callTy call_str_int (by rfl) (T.free 13 rfl) (by decide +kernel) (pa_cons (pv 3) pa_nil)))))))))), ?_⟩
  obtain ⟨n, p, xs, rs, rfl, hn, rfl, hp, ds, few, lt, q⟩ := h
  have len : xs.length = rs.length := by rw [ds.length, List.length_map]
  have sl : ∀ {k : Nat}, k ≤ 10000 → k ≤ sizeLine := fun {k} h => by rw [sizeLine_eq]; omega
  have l3 : ∀ {k : Nat}, k < 1000 → (TT.str k).length ≤ 3 := fun {k} h => str_len (by omega)
  have at_ : ∀ k, k < rs.length → ∃ p tp, rs[k]? = some p ∧ nth xs k = .ref tp ∧ SqT K H tp [iV p.1, iV p.2] ∧ p.1 < 1000 ∧ p.2 < 1000 := fun k hk => by
    obtain ⟨d, h1, h2⟩ := dqs_nth ds (i := k) (by omega)
    rw [List.getElem?_map, List.getElem?_eq_getElem hk] at h1
    cases h1
    obtain ⟨tp, e, sp⟩ := pair_at h2
    have a := lt _ (List.getElem_mem hk)
    exact ⟨rs[k], tp, List.getElem?_eq_getElem hk, e, sp, a.1, a.2⟩
  have hn3 := l3 hn
  have el : TT.line n rs = Txt.join (Str.ofString " ") ((TT.str n ++ Str.ofString ":") :: (rs.map fun p => TT.str p.1 ++ Str.ofString "-" ++ TT.str p.2)) := rfl
  rw [el] at q
  have hf0 : (TT.str n ++ Str.ofString ":").length ≤ 4 := by rw [app_len, colon_len]; omega
  refine ret_at ?_
  refine ⟨⟨_, rfl⟩, ?_⟩
  refine ⟨_, rfl, (n : Int), rfl, nat_log hn, TT.str n, Str.ofString ":", rfl, rfl, by rw [colon_len]; exact sl (by omega), (by show 1 ≤ sizeLine; exact sl (by omega)), fun l0 hl0 => ?_⟩
  have e1 := Ex.new (o := .lst [V.str (TT.str n ++ Str.ofString ":")]) hl0
  have hL0 : (upd H l0 (.lst [V.str (TT.str n ++ Str.ofString ":")])) l0 = some (.lst [V.str (TT.str n ++ Str.ofString ":")]) := upd_same
  generalize upd H l0 (.lst [V.str (TT.str n ++ Str.ofString ":")]) = H1 at e1 hL0 ⊢
  refine lc_at (n := rs.length) (item := nth xs) (fun _ => true) (fun i D y H' => y = .str (TT.str (rs[i]?.getD (0, 0)).1 ++ Str.ofString "-" ++ TT.str (rs[i]?.getD (0, 0)).2)) (line_big (by omega))
    (fun P q => ⟨_, rfl, p, rfl, ⟨_, Evl.ex_l e1 hp⟩, q _ _ (Ex.refl _) (len ▸ its_l (Evl.ex_l e1 hp))⟩) (fun _ _ _ _ _ _ h => h) (fun _ _ _ _ _ _ h => h) ?_ ?_
  · intro i D H2 hi hD e2 hacc Ny Nn hy _
    obtain ⟨p, tp, hp, en, sp, p1, p2⟩ := at_ i hi
    have a1 := l3 p1
    have a2 := l3 p2
    rw [en]
    refine ⟨tp, _, rfl, Evl.ex_t (e1.trans e2) sp, rfl, _, _, rfl, _, _, rfl, rfl, rfl, ?_⟩
    refine ⟨_, rfl, (p.1 : Int), rfl, nat_log p1, TT.str p.1, Str.ofString "-", rfl, rfl, by rw [dash_len]; exact sl (by omega), ?_⟩
    refine ⟨_, rfl, (p.2 : Int), rfl, nat_log p2, TT.str p.1 ++ Str.ofString "-", TT.str p.2, rfl, rfl, by rw [app_len, dash_len]; exact sl (by omega), ?_⟩
    exact hy _ _ rfl (Ex.refl _) (by rw [hp]; rfl)
  · intro D ys H2 hD e2 hd2 f2
    rw [range_all] at f2
    have ey := F2.map_eq (f := fun i => V.str (TT.str (rs[i]?.getD (0, 0)).1 ++ Str.ofString "-" ++ TT.str (rs[i]?.getD (0, 0)).2)) f2
    have em : ys = (rs.map fun p => TT.str p.1 ++ Str.ofString "-" ++ TT.str p.2).map V.str := by
      rw [ey]
      refine List.ext_getElem? fun i => ?_
      rw [List.getElem?_map, List.getElem?_map, List.getElem?_map]
      by_cases c : i < rs.length
      · rw [List.getElem?_range c, List.getElem?_eq_getElem c, Option.map_some, Option.map_some, List.getElem?_eq_getElem c]; rfl
      · rw [List.getElem?_eq_none (Nat.le_of_not_lt c), List.getElem?_eq_none (by rw [List.length_range]; omega)]; rfl
    have wl : ((rs.map fun p => TT.str p.1 ++ Str.ofString "-" ++ TT.str p.2).map (·.length)).sum ≤ rs.length * 10 := by
      have all : ∀ qs : List (Nat × Nat), (∀ p ∈ qs, p.1 < 1000 ∧ p.2 < 1000) → ((qs.map fun p => TT.str p.1 ++ Str.ofString "-" ++ TT.str p.2).map (·.length)).sum ≤ qs.length * 10 := fun qs => by
        induction qs with
        | nil => intro _; simp
        | cons p qs ih =>
          intro h
          have z := ih fun x hx => h x (List.mem_cons_of_mem _ hx)
          have b := h p List.mem_cons_self
          have l1 := l3 b.1
          have l2 := l3 b.2
          have l0 : (TT.str p.1 ++ Str.ofString "-" ++ TT.str p.2).length ≤ 7 := by rw [app_len, app_len, dash_len]; omega
          simp only [List.sum_cons, List.map_cons, List.length_cons]
          omega
      exact all rs lt
    have wn : (rs.map fun p => TT.str p.1 ++ Str.ofString "-" ++ TT.str p.2).length = rs.length := List.length_map ..
    rw [em] at hd2
    have hL2 := e2 _ _ hL0
    clear el ey f2 em
    generalize (TT.str n ++ Str.ofString ":") = f0 at q hf0 hL2 ⊢
    generalize (rs.map fun p => TT.str p.1 ++ Str.ofString "-" ++ TT.str p.2) = ws0 at q wl wn hd2 ⊢
    refine ⟨l0, D, _, _, rfl, rfl, hL2, hd2, by rw [List.length_map, wn]; exact sl (by simp; omega), fun l hl => ?_⟩
    refine ⟨_, l, f0 :: ws0, rfl, rfl, .inl (SqL.of upd_same), ?_, q _ ((e1.trans e2).trans (Ex.new hl))⟩
    rw [List.map_cons, List.sum_cons, List.length_cons, wn]
    have : (Str.ofString " ").length = 1 := rfl
    rw [this]; omega
end

end T1

namespace T1
open PySem PySem.Spec PyProof.Rows L2 G
open Evl (Ex)
local macro_rules | `(tactic| walk_at "dd") => `(tactic| (dsimp only [tCB, tCons, tNil, tC, tOp, tUn, tTest, tB, tVar, tAndV, tOrV, tNotV, tIf, tAnd, tOr, tNot, tSeq, tRet, tRetN, tIfS, tAsg, gName, tDrop, tTup, tLst, tChain, tNext, tCall, L2.start]))
open M (at_)
/-- a search of the houses from 0 on: k are done, R are reached, S of them wait -/
structure SI (n : Nat) (rs : List (Nat × Nat)) (k : Nat) (R S : List Nat) : Prop where
  nd : R.Nodup
  zr : 0 ∈ R
  lt : ∀ v ∈ R, v < n
  sn : S.Nodup
  sr : ∀ v ∈ S, v ∈ R
  ln : R.length = k + S.length
  pa : ∀ v ∈ R, ∃ p, M.Walk (nbs n rs) 0 v p
  cl : ∀ v ∈ R, v ∉ S → ∀ w, w ∈ at_ (nbs n rs) v → w ∈ R
/-- .. at the house a, of whose edges D are looked at -/
structure SJ (n : Nat) (rs : List (Nat × Nat)) (k a : Nat) (D : List (Nat × Nat)) (R S : List Nat) : Prop where
  nd : R.Nodup
  zr : 0 ∈ R
  lt : ∀ v ∈ R, v < n
  sn : S.Nodup
  sr : ∀ v ∈ S, v ∈ R
  ln : R.length = k + 1 + S.length
  pa : ∀ v ∈ R, ∃ p, M.Walk (nbs n rs) 0 v p
  cl : ∀ v ∈ R, v ∉ S → v ≠ a → ∀ w, w ∈ at_ (nbs n rs) v → w ∈ R
  ar : a ∈ R
  dn : ∀ q ∈ D, q.1 = a → q.2 ∈ R
theorem si_start {n : Nat} {rs : List (Nat × Nat)} (h : 1 ≤ n) : SI n rs 0 [0] [0] :=
  ⟨by simp, by simp, fun v hv => by rw [List.mem_singleton.mp hv]; omega, by simp, fun v hv => hv, rfl, fun v hv => by rw [List.mem_singleton.mp hv]; exact ⟨_, .one _⟩, fun v hv hn => absurd hv hn⟩
theorem sj_start {n k a : Nat} {rs : List (Nat × Nat)} {R S : List Nat} (h : SI n rs k R (S ++ [a])) : SJ n rs k a [] R S := by
  have sn := h.sn
  rw [List.nodup_append] at sn
  refine ⟨h.nd, h.zr, h.lt, sn.1, fun v hv => h.sr v (by simp [hv]), ?_, h.pa, fun v hv hs ha => h.cl v hv (by simp [hs, ha]), h.sr a (by simp), by simp⟩
  have := h.ln
  rw [List.length_append, List.length_singleton] at this
  omega
theorem sj_skip {n k a x y : Nat} {rs D : List (Nat × Nat)} {R S : List Nat} (h : SJ n rs k a D R S) (no : x = a → y ∈ R) : SJ n rs k a (D ++ [(x, y)]) R S :=
  ⟨h.nd, h.zr, h.lt, h.sn, h.sr, h.ln, h.pa, h.cl, h.ar, fun q hq e => by
    obtain hq | hq := List.mem_append.mp hq
    · exact h.dn q hq e
    · rw [List.mem_singleton.mp hq] at e ⊢; exact no e⟩
theorem sj_add {n k a y : Nat} {rs D : List (Nat × Nat)} {R S : List Nat} (h : SJ n rs k a D R S) (e : y ∈ at_ (nbs n rs) a) (no : y ∉ R) : SJ n rs k a (D ++ [(a, y)]) (R ++ [y]) (S ++ [y]) := by
  have yl : y < n := (mem_nbs.mp e).2.1
  refine ⟨?_, by simp [h.zr], fun v hv => ?_, ?_, fun v hv => ?_, ?_, fun v hv => ?_, fun v hv hs ha w hw => ?_, by simp [h.ar], fun q hq ea => ?_⟩
  · rw [List.nodup_append]; exact ⟨h.nd, by simp, fun u hu v hv e => no (by rw [← List.mem_singleton.mp hv, ← e]; exact hu)⟩
  · obtain hv | hv := List.mem_append.mp hv
    · exact h.lt v hv
    · rw [List.mem_singleton.mp hv]; exact yl
  · rw [List.nodup_append]; exact ⟨h.sn, by simp, fun u hu v hv e => no (by rw [← List.mem_singleton.mp hv, ← e]; exact h.sr u hu)⟩
  · obtain hv | hv := List.mem_append.mp hv
    · exact List.mem_append_left _ (h.sr v hv)
    · exact List.mem_append_right _ hv
  · have := h.ln
    rw [List.length_append, List.length_append, List.length_singleton]; omega
  · obtain hv | hv := List.mem_append.mp hv
    · exact h.pa v hv
    · rw [List.mem_singleton.mp hv]
      obtain ⟨p, P⟩ := h.pa a h.ar
      obtain ⟨z, Z, _⟩ := P.join (.cons e (.one _))
      exact ⟨z, Z⟩
  · obtain hv | hv := List.mem_append.mp hv
    · exact List.mem_append_left _ (h.cl v hv (fun z => hs (List.mem_append_left _ z)) ha w hw)
    · exact absurd (List.mem_append_right _ hv) hs
  · obtain hq | hq := List.mem_append.mp hq
    · exact List.mem_append_left _ (h.dn q hq ea)
    · rw [List.mem_singleton.mp hq]; simp
/-- both ways round -/
def both (rs : List (Nat × Nat)) : List (Nat × Nat) := rs.flatMap fun p => [(p.1, p.2), (p.2, p.1)]
theorem both_snoc (rs : List (Nat × Nat)) (p : Nat × Nat) : both (rs ++ [p]) = both rs ++ [(p.1, p.2)] ++ [(p.2, p.1)] := by
  unfold both
  rw [List.flatMap_append]; simp
theorem mem_both {rs : List (Nat × Nat)} {x y : Nat} : (x, y) ∈ both rs ↔ adj rs x y = true := by
  unfold both adj
  rw [List.mem_flatMap, Bool.or_eq_true, List.contains_iff_mem, List.contains_iff_mem]
  constructor
  · rintro ⟨⟨a, b⟩, h, e⟩
    obtain e | e := List.mem_cons.mp e
    · cases e; exact .inl h
    · cases List.mem_singleton.mp e; exact .inr h
  · rintro (h | h)
    · exact ⟨_, h, by simp⟩
    · exact ⟨_, h, by simp⟩
theorem sj_end {n k a : Nat} {rs : List (Nat × Nat)} {R S : List Nat} (h : SJ n rs k a (both rs) R S) : SI n rs (k + 1) R S :=
  ⟨h.nd, h.zr, h.lt, h.sn, h.sr, h.ln, h.pa, fun v hv hs w hw => by
    by_cases c : v = a
    · exact h.dn (v, w) (mem_both.mpr (mem_nbs.mp hw).2.2) c
    · exact h.cl v hv hs c w hw⟩
theorem si_len {n k : Nat} {rs : List (Nat × Nat)} {R S : List Nat} (h : SI n rs k R S) : R.length ≤ n := nodup_len h.nd h.lt
theorem si_all {n k : Nat} {rs : List (Nat × Nat)} {R S : List Nat} (h : SI n rs k R S) (e : R.length = n) : Joined n rs := fun v hv => by
  have m : v ∈ R := by
    refine Decidable.byContradiction fun no => ?_
    have z := nodup_len (n := n) (l := v :: R) (List.nodup_cons.mpr ⟨no, h.nd⟩) fun x hx => by
      obtain rfl | hx := List.mem_cons.mp hx
      · exact hv
      · exact h.lt x hx
    rw [List.length_cons] at z
    omega
  obtain ⟨p, P⟩ := h.pa v m
  obtain ⟨q, Q, _⟩ := P.path
  exact ⟨q, Q⟩
theorem walk_in {ls : M.Rows} {R : List Nat} (cl : ∀ v ∈ R, ∀ w, w ∈ at_ ls v → w ∈ R) {h v : Nat} {p : List Nat} (W : M.Walk ls h v p) : h ∈ R → v ∈ R := by
  induction W with
  | one _ => exact id
  | cons e _ ih => exact fun m => ih (cl _ m _ e)
theorem sub_len : ∀ {l m : List Nat}, l.Nodup → (∀ x ∈ l, x ∈ m) → l.length ≤ m.length
  | [], m, _, _ => m.length.zero_le
  | a :: l, m, nd, h => by
    have n2 := List.nodup_cons.mp nd
    have am := h a List.mem_cons_self
    have z := sub_len (m := m.erase a) n2.2 fun x hx => (List.mem_erase_of_ne (show x ≠ a from fun e => n2.1 (by rw [← e]; exact hx))).mpr (h x (List.mem_cons_of_mem _ hx))
    rw [List.length_erase_of_mem am] at z
    have := List.length_pos_of_mem am
    rw [List.length_cons]; omega
theorem si_done {n k : Nat} {rs : List (Nat × Nat)} {R : List Nat} (h : SI n rs k R []) (J : Joined n rs) : R.length = n := by
  have all : ∀ v, v < n → v ∈ R := fun v hv => by
    obtain ⟨p, P⟩ := J v hv
    exact walk_in (fun u hu w hw => h.cl u hu (by simp) w hw) P.walk h.zr
  have le := si_len h
  have ge : n ≤ R.length := by
    have := sub_len (l := List.range n) (m := R) List.nodup_range fun x hx => all x (List.mem_range.mp hx)
    rwa [List.length_range] at this
  omega
theorem si_full {n : Nat} {rs : List (Nat × Nat)} {R S : List Nat} (h : SI n rs n R S) : R.length = n ∧ Joined n rs := by
  have a := si_len h
  have b := h.ln
  have e : R.length = n := by omega
  exact ⟨e, si_all h e⟩
theorem w_rngB {H B : Hp} {ta : TA} {σ : L2.St} {n : Nat} {P : It → Hp → Prop} (h : ∀ Q : List V → Hp → Prop, Q [.int (n : Int)] H → ta σ H Q) (hn : n ≤ 100000) (q : ∀ J H1, Ex H H1 → ItS J B n (fun i => .int (0 + i)) → P J H1) : iRng1 ta σ H P :=
  h _ ⟨_, rfl, by omega, by omega, (show ((n : Int)).toNat = n by omega) ▸ q _ _ (Ex.refl _) (its_r 0 n)⟩

end T1

namespace T1
open PySem PySem.Spec PyProof.Rows L2 G
open Evl (Ex)
local macro_rules | `(tactic| walk_at "dd") => `(tactic| (dsimp only [tCB, tCons, tNil, tC, tOp, tUn, tTest, tB, tVar, tAndV, tOrV, tNotV, tIf, tAnd, tOr, tNot, tSeq, tRet, tRetN, tIfS, tAsg, gName, tDrop, tTup, tLst, tChain, tNext, tCall, L2.start]))
open M (at_)
def sp__law_joined (K : PySem.W.Frag) : Sp := sp2 fun a b H Q E => ∃ (n : Nat) (p : Addr) (xs : List V) (rs : List (Nat × Nat)), a = .int (n : Int) ∧ 1 ≤ n ∧ n ≤ 16 ∧ b = .ref p ∧ SqL K H p xs ∧ Dqs K H xs (rs.map pairD) ∧ rs.length ≤ 300 ∧ (∀ q ∈ rs, q.1 < n ∧ q.2 < n) ∧ ∀ b H', Ex H H' → (b = true ↔ Joined n rs) → Q (.bl b) H'
section
variable {K : PySem.W.Frag} {mg : Str → Option Value} {P : Program} {w : World} {base : Heap}
theorem ok__law_joined (T : Tx K mg) : Cal P w K mg base CX0 1 "_law_joined" ["_law_many", "_law_pairs"] (sp__law_joined K) := by
  refine cal_of (fD__law_joined T) (T.glo 26 rfl) sc__law_joined (fun _ _ _ _ _ _ us hl => match us, hl with | [_, _], _ => rfl) (fun vs H Q E h => len2 h) (fun f cdv A outer s H vs Q E hr h => ?_)
  obtain ⟨a, b, rfl, h⟩ := h
  refine ⟨_, (PSs.nox (pss_cons (ps_par (i := 2) (j := 3) rfl sc__law_joined.nd rfl rfl (by decide) rfl rfl (pa_cons (pe_lst (pa_cons pe_int pa_nil)) (pa_cons (pe_lst (pa_cons pe_int pa_nil)) pa_nil)) (by rfl))
      (pss_cons (ps_for PassesOwn.never rfl (pi_range1 (by rfl) (T.free 10 rfl) (pa_cons (pv 0) pa_nil)) (pg_name (i := 4) sc__law_joined.nd rfl (Or.inl rfl)) (pss_cons (ps_if (pt_cmpR (op_eqNil (K := K) (hu0 hr.r)) (pv 3) (pe_lst pa_nil) (nomark _)) (pss_one (ps_ret (pe_cmpR op_eq (pe_callB (call_lenK (K := K)) (by rfl) (T.free 6 rfl) (by decide +kernel) (pa_cons (pv 2) pa_nil)) (pv 0) (nomark _)))) pss_nil)
      (pss_cons (ps_set (i := 5) sc__law_joined.nd rfl (Or.inl rfl) (pe_bm0 PySem.F.plainAttrs_list PySem.F.slot_list_pop PySem.F.type_list_pop mt_pop (pv 3)))
      (pss_one (ps_for PassesOwn.never rfl (pi_list (pv 1)) (pg_name (i := 6) sc__law_joined.nd rfl (Or.inl rfl)) (pss_one (ps_for PassesOwn.never rfl (pi_list (pe_lst (pa_cons (pv 6) (pa_cons (pe_tup (pa_cons (pe_ix (ix_tupK (K := K)) (pv 6) pe_int (fun _ _ => rfl)) (pa_cons (pe_ix (ix_tupK (K := K)) (pv 6) pe_int (fun _ _ => rfl)) pa_nil))) pa_nil)))) (pg_tup (n := 2) rfl (pgs_cons (pg_name (i := 7) sc__law_joined.nd rfl (Or.inl rfl)) (pgs_cons (pg_name (i := 8) sc__law_joined.nd rfl (Or.inl rfl)) pgs_nil))) (pss_one (ps_if (PW.pt (pw_and (pt_cmpR op_eq (pv 7) (pv 5) (nomark _)) (pw_and1 (pt_cmpR (op_ninK (K := K)) (pv 8) (pv 2) (by with_unfolding_all rfl))))) (pss_cons (ps_expr (pe_bm PySem.F.plainAttrs_list PySem.F.slot_list_append PySem.F.type_list_append mt_append (pv 2) (pa_cons (pv 8) pa_nil)))
      (pss_one (ps_expr (pe_bm PySem.F.plainAttrs_list PySem.F.slot_list_append PySem.F.type_list_append mt_append (pv 3) (pa_cons (pv 8) pa_nil))))) pss_nil)))))))))
      (pss_one (ps_ret (pe_cmpR op_eq (pe_callB (call_lenK (K := K)) (by rfl) (T.free 6 rfl) (by decide +kernel) (pa_cons (pv 2) pa_nil)) (pv 0) (nomark _))))))), ?_⟩
  obtain ⟨n, p, xs, rs, rfl, n1, n16, rfl, hp, ds, few, lt, q⟩ := h
  have len : xs.length = rs.length := by rw [ds.length, List.length_map]
  have at_ : ∀ k, k < rs.length → ∃ p tp, rs[k]? = some p ∧ nth xs k = .ref tp ∧ SqT K H tp [iV p.1, iV p.2] ∧ p.1 < n ∧ p.2 < n := fun k hk => by
    obtain ⟨d, h1, h2⟩ := dqs_nth ds (i := k) (by omega)
    rw [List.getElem?_map, List.getElem?_eq_getElem hk] at h1
    cases h1
    obtain ⟨tp, e, sp⟩ := pair_at h2
    have a := lt _ (List.getElem_mem hk)
    exact ⟨rs[k], tp, List.getElem?_eq_getElem hk, e, sp, a.1, a.2⟩
  have line : ∀ {k : Nat}, k ≤ 5000 → k < sizeLine := fun {k} hk => by rw [sizeLine_eq]; omega
  refine seq_at ?_
  refine ⟨by show 1 ≤ sizeLine; exact Nat.le_of_lt (line (by omega)), fun A hA => ⟨by show 1 ≤ sizeLine; exact Nat.le_of_lt (line (by omega)), fun B hB => ⟨_, _, rfl, ?_⟩⟩⟩
  have AB : A ≠ B := fun z => by rw [← z, upd_same] at hB; cases hB
  have hB0 : H B = none := by rw [upd_ne AB.symm] at hB; exact hB
  have hA0 := hA
  have eAB : Ex H (upd (upd H A (.lst [V.int 0])) B (.lst [V.int 0])) := (Ex.new hA).trans (Ex.new hB)
  have hA1 : (upd (upd H A (.lst [V.int 0])) B (.lst [V.int 0])) A = some (.lst ([0].map iV)) := by rw [upd_ne AB]; exact upd_same
  have hB1 : (upd (upd H A (.lst [V.int 0])) B (.lst [V.int 0])) B = some (.lst ([0].map iV)) := upd_same
  generalize (upd (upd H A (.lst [V.int 0])) B (.lst [V.int 0])) = H1 at eAB hA1 hB1 ⊢
  dsimp only
  refine seq_at ?_
  refine for_at (B := H) (n := n) (item := fun i => .int (0 + i)) (fun P q => w_rngB (fun Q q => ⟨_, rfl, q⟩) (by omega) q)
    (fun k σ' H' => ∃ R S s4 s5 s6 s7 s8, σ' = [some (iV n), some (.ref p), some (.ref A), some (.ref B), s4, s5, s6, s7, s8] ∧ Ex H H' ∧ H' A = some (.lst (R.map iV)) ∧ H' B = some (.lst (S.map iV)) ∧ SI n rs k R S) ?_ ?_ ?_ ?_
  · intro H2 e2
    exact ⟨[0], [0], _, _, _, _, _, rfl, eAB.trans e2, e2 _ _ hA1, e2 _ _ hB1, si_start n1⟩
  · rintro k σ' H' ⟨_, _, _, _, _, _, _, _, e, _⟩; exact e
  · rintro k σ' H' hk ⟨R, S, s4, s5, s6, s7, s8, rfl, e, hAR, hBS, si⟩
    dsimp only [gName]
    have Rl := si_len si
    have Sl := si.ln
    refine seq_at ?_
    refine ⟨_, rfl, Nat.zero_le _, fun d hd => ?_⟩
    have ed := Ex.new (o := .lst []) hd
    have hAd := ed _ _ hAR
    have hBd := ed _ _ hBS
    refine ⟨B, _, d, rfl, rfl, SqL.of hBd, SqL.of upd_same, _, rfl, ?_⟩
    by_cases c : S = []
    · subst c
      refine iteT ?_
      refine ret_at ?_
      refine ⟨_, rfl, A, _, rfl, .inl (SqL.of hAd), _, rfl, rfl, ?_⟩
      by_cases f1 : R.length = n
      · rw [decide_eq_true (show V.int ((R.map iV).length : Int) = iV n by rw [List.length_map, f1]; rfl)]
        exact q _ _ (e.trans ed) ⟨fun _ => si_all si f1, fun _ => rfl⟩
      · rw [decide_eq_false (show ¬ V.int ((R.map iV).length : Int) = iV n from fun z => f1 (by have := V.int.inj z; rw [List.length_map] at this; omega))]
        exact q _ _ (e.trans ed) ⟨fun z => absurd z Bool.false_ne_true, fun J => absurd (si_done si J) f1⟩
    obtain ⟨S', a, rfl⟩ : ∃ S' a, S = S' ++ [a] := ⟨S.dropLast, S.getLast c, (List.dropLast_concat_getLast c).symm⟩
    have ne : ((S' ++ [a]).map iV).isEmpty = false := by cases S' <;> rfl
    rw [ne]
    refine iteF ?_
    dsimp only [tNext]
    refine seq_at (asg_at ?_)
    have eB : (S' ++ [a]).map iV = S'.map iV ++ [iV a] := by rw [List.map_append]; rfl
    rw [eB] at hBd
    refine ⟨_, rfl, .inl ⟨rfl, _, SqL.of hBd⟩, B, _, iV a, rfl, rfl, hBd, by simp, ?_⟩
    rw [List.dropLast_concat]
    dsimp only [gName]
    have sj0 := sj_start si
    have e4 : Ex H (upd (upd H' d (.lst [])) B (.lst (S'.map iV))) := Evl.Ex.mut (e.trans ed) hB0
    have hA4 : (upd (upd H' d (.lst [])) B (.lst (S'.map iV))) A = some (.lst (R.map iV)) := by rw [upd_ne AB]; exact hAd
    have hB4 : (upd (upd H' d (.lst [])) B (.lst (S'.map iV))) B = some (.lst (S'.map iV)) := upd_same
    generalize (upd (upd H' d (.lst [])) B (.lst (S'.map iV))) = H4 at e4 hA4 hB4 ⊢
    refine for_at (B := H) (n := rs.length) (item := nth xs) (fun P q => w_list rfl (Evl.ex_l (Ex.refl H) hp) (Evl.ex_l e4 hp) (len ▸ q))
      (fun j σ' H' => ∃ R S s6 s7 s8, σ' = [some (iV n), some (.ref p), some (.ref A), some (.ref B), some (.int (0 + (k : Int))), some (iV a), s6, s7, s8] ∧ Ex H H' ∧ H' A = some (.lst (R.map iV)) ∧ H' B = some (.lst (S.map iV)) ∧ SJ n rs k a (both (rs.take j)) R S) ?_ ?_ ?_ ?_
    · intro H5 e5
      exact ⟨R, S', _, _, _, rfl, e4.trans e5, e5 _ _ hA4, e5 _ _ hB4, sj0⟩
    · rintro j σ' H' ⟨_, _, _, _, _, _, e, _⟩; exact e
    · rintro j σ' H5 hj ⟨R5, S5, s6, s7, s8, rfl, e5, hA5, hB5, sj5⟩
      obtain ⟨pr, tp, hpr, en, sp, p1, p2⟩ := at_ j hj
      rw [en]
      dsimp only [gName]
      have sp5 := Evl.ex_t e5 sp
      refine ⟨_, rfl, _, rfl, tp, _, 1, iV pr.2, rfl, rfl, sp5, rfl, _, rfl, tp, _, 0, iV pr.1, rfl, rfl, sp5, rfl, (by show 2 ≤ sizeLine; exact Nat.le_of_lt (line (by omega))), fun tq htq => ⟨(by show 2 ≤ sizeLine; exact Nat.le_of_lt (line (by omega))), fun l hl => ⟨l, rfl, ⟨_, SqL.of upd_same⟩, ?_⟩⟩⟩
      have e6 : Ex H5 (upd (upd H5 tq (.tup [iV pr.2, iV pr.1])) l (.lst [.ref tp, .ref tq])) := (Ex.new htq).trans (Ex.new hl)
      have hq6 : (upd (upd H5 tq (.tup [iV pr.2, iV pr.1])) l (.lst [.ref tp, .ref tq])) tq = some (.tup [iV pr.2, iV pr.1]) := Ex.new hl _ _ upd_same
      have hl6 : (upd (upd H5 tq (.tup [iV pr.2, iV pr.1])) l (.lst [.ref tp, .ref tq])) l = some (.lst [.ref tp, .ref tq]) := upd_same
      have lA : l ≠ A := fun z => by rw [z, upd_ne (ne_of_none hA5 htq), hA5] at hl; cases hl
      have lB : l ≠ B := fun z => by rw [z, upd_ne (ne_of_none hB5 htq), hB5] at hl; cases hl
      generalize (upd (upd H5 tq (.tup [iV pr.2, iV pr.1])) l (.lst [.ref tp, .ref tq])) = H6 at e6 hq6 hl6 ⊢
      have sp6 := Evl.ex_t e6 sp5
      have hA6 := e6 _ _ hA5
      have hB6 := e6 _ _ hB5
      have dA : ∀ x, x ≠ A → x ≠ B → L2.del (L2.del H6 A) B x = H6 x := fun x h1 h2 => by rw [del_ne h2, del_ne h1]
      have spB : SqT K (L2.del (L2.del H6 A) B) tp [iV pr.1, iV pr.2] := SqT.del (SqT.del sp6 hA6) (by rw [del_ne AB.symm]; exact hB6)
      have sqB : SqT K (L2.del (L2.del H6 A) B) tq [iV pr.2, iV pr.1] := SqT.del (SqT.del (SqT.of hq6) hA6) (by rw [del_ne AB.symm]; exact hB6)
      have slB : SqL K (L2.del (L2.del H6 A) B) l [.ref tp, .ref tq] := SqL.of (by rw [dA l lA lB]; exact hl6)
      have nA : L2.del (L2.del H6 A) B A = none := by rw [del_ne AB]; exact del_same
      have nB : L2.del (L2.del H6 A) B B = none := del_same
      refine for_gen (its_l slB)
        (fun i σ' H' => ∃ R S s7 s8, σ' = [some (iV n), some (.ref p), some (.ref A), some (.ref B), some (.int (0 + (k : Int))), some (iV a), some (.ref tp), s7, s8] ∧ Ex H H' ∧ Ex (L2.del (L2.del H6 A) B) H' ∧ H' A = some (.lst (R.map iV)) ∧ H' B = some (.lst (S.map iV)) ∧
          SJ n rs k a (both (rs.take j) ++ [(pr.1, pr.2), (pr.2, pr.1)].take i) R S) ?_ ?_ ?_ ?_
      · exact ⟨R5, S5, _, _, rfl, e5.trans e6, (Ex.ofDel.trans Ex.ofDel : Ex (L2.del (L2.del H6 A) B) H6), hA6, hB6, by rw [List.take_zero, List.append_nil]; exact sj5⟩
      · rintro i σ' H' ⟨_, _, _, _, _, _, e, _⟩; exact e
      · rintro i σ' H7 hi ⟨R7, S7, s7, s8, rfl, e7, eb7, hA7, hB7, sj7⟩
        obtain ⟨x, y, t, et, st, ed, ax, yl⟩ : ∃ x y t, nth [V.ref tp, V.ref tq] i = .ref t ∧ SqT K (L2.del (L2.del H6 A) B) t [iV x, iV y] ∧ [(pr.1, pr.2), (pr.2, pr.1)][i]? = some (x, y) ∧ adj rs x y = true ∧ y < n := by
          have m : pr ∈ rs := List.mem_of_getElem? hpr
          have ad : adj rs pr.1 pr.2 = true := by unfold adj; rw [Bool.or_eq_true, List.contains_iff_mem]; exact .inl m
          match i, hi with
          | 0, _ => exact ⟨pr.1, pr.2, tp, rfl, spB, rfl, ad, p2⟩
          | 1, _ => exact ⟨pr.2, pr.1, tq, rfl, sqB, rfl, adj_sym ad, p1⟩
        have tk : both (rs.take j) ++ [(pr.1, pr.2), (pr.2, pr.1)].take (i + 1) = (both (rs.take j) ++ [(pr.1, pr.2), (pr.2, pr.1)].take i) ++ [(x, y)] := by
          rw [take_snoc' ed, List.append_assoc]
        rw [et]
        refine ⟨t, _, rfl, Evl.ex_t eb7 st, rfl, _, _, rfl, _, _, rfl, rfl, ?_⟩
        have Rl : R7.length ≤ 16 := by have := nodup_len sj7.nd sj7.lt; omega
        have Sl : S7.length ≤ 16 := by have := sj7.ln; omega
        refine ⟨_, rfl, _, rfl, rfl, _, rfl, ?_⟩
        by_cases xa : x = a
        · subst xa
          rw [decide_eq_true (show iV x = iV x from rfl)]
          refine iteT ⟨_, rfl, _, rfl, A, _, rfl, .inl (SqL.of hA7), rfl, flat_iV _, _, rfl, ?_⟩
          show if (!inV (iV y) (R7.map iV)) = true then _ else _
          rw [inV_iff]
          cases ec : R7.contains y with
          | true =>
            refine iteF ?_
            exact ⟨R7, S7, _, _, rfl, e7, eb7, hA7, hB7, by rw [tk]; exact sj_skip sj7 fun _ => List.contains_iff_mem.mp ec⟩
          | false =>
            refine iteT ?_
            refine ⟨_, rfl, .inl ⟨rfl, _, SqL.of hA7⟩, _, rfl, A, _, _, rfl, rfl, hA7, by rw [List.length_map]; exact line (by omega), ?_⟩
            have hB8 : (upd H7 A (.lst (R7.map iV ++ [iV y]))) B = some (.lst (S7.map iV)) := by rw [upd_ne AB.symm]; exact hB7
            refine ⟨_, rfl, .inl ⟨rfl, _, SqL.of hB8⟩, _, rfl, B, _, _, rfl, rfl, hB8, by rw [List.length_map]; exact line (by omega), ?_⟩
            refine ⟨R7 ++ [y], S7 ++ [y], _, _, rfl, Evl.Ex.mut (Evl.Ex.mut e7 hA0) hB0, Evl.Ex.mut (Evl.Ex.mut eb7 nA) nB, ?_, ?_, ?_⟩
            · rw [upd_ne AB, upd_same, List.map_append]; rfl
            · rw [upd_same, List.map_append]; rfl
            · rw [tk]
              exact sj_add sj7 (mem_nbs.mpr ⟨sj7.lt _ sj7.ar, yl, ax⟩) fun m => by rw [List.contains_iff_mem.mpr m] at ec; cases ec
        · rw [decide_eq_false (show ¬ iV x = iV a from fun z => xa (by have := V.int.inj z; omega))]
          refine iteF (iteF ?_)
          exact ⟨R7, S7, _, _, rfl, e7, eb7, hA7, hB7, by rw [tk]; exact sj_skip sj7 fun z => absurd z xa⟩
      · rintro σ' H7 ⟨R7, S7, s7, s8, rfl, e7, eb7, hA7, hB7, sj7⟩
        refine ⟨R7, S7, _, _, _, rfl, e7, hA7, hB7, ?_⟩
        rw [take_snoc' hpr, both_snoc, List.append_assoc]
        exact sj7
    · rintro σ' H5 ⟨R5, S5, s6, s7, s8, rfl, e5, hA5, hB5, sj5⟩
      rw [List.take_length] at sj5
      exact ⟨R5, S5, _, _, _, _, _, rfl, e5, hA5, hB5, sj_end sj5⟩
  · rintro σ' H' ⟨R, S, s4, s5, s6, s7, s8, rfl, e, hAR, hBS, si⟩
    dsimp only
    refine ret_at ?_
    obtain ⟨f1, f2⟩ := si_full si
    refine ⟨_, rfl, A, _, rfl, .inl (SqL.of hAR), _, rfl, rfl, ?_⟩
    rw [decide_eq_true (show V.int ((R.map iV).length : Int) = iV n by rw [List.length_map, f1]; rfl)]
    exact q _ _ e ⟨fun _ => f2, fun _ => rfl⟩
end

end T1

namespace T1
open PySem PySem.Spec PyProof.Rows L2 G
open Evl (Ex)
local macro_rules | `(tactic| walk_at "dd") => `(tactic| (dsimp only [tCB, tCons, tNil, tC, tOp, tUn, tTest, tB, tVar, tAndV, tOrV, tNotV, tIf, tAnd, tOr, tNot, tSeq, tRet, tRetN, tIfS, tAsg, gName, tDrop, tTup, tLst, tChain, tNext, tCall, L2.start]))
open M (at_)
theorem le2 (a b c d : Int) : Ob.lexAt (fun j => decide ([a, b].getD j 0 = [c, d].getD j 0)) (fun j => decide ([a, b].getD j 0 ≤ [c, d].getD j 0)) (decide ([a, b].length ≤ [c, d].length)) 0 (min [a, b].length [c, d].length) = !ltR (c, d) (a, b) := by
  show (if decide (a = c) = true then (if decide (b = d) = true then true else decide (b ≤ d)) else decide (a ≤ c)) = _
  unfold ltR
  by_cases h1 : a = c
  · subst h1
    by_cases h2 : b = d
    · subst h2; simp
    · rw [if_pos (by simp), if_neg (by simpa using h2), Bool.eq_iff_iff]
      simp
  · rw [if_neg (by simpa using h1), Bool.eq_iff_iff]
    simp
    omega
theorem colon_end (f : Str) : decide (V.str (cutS f (some (-1)) none) = V.str (Str.ofString ":")) = decide ((TL.tl f).getLast? = some 58) := by
  have e := TT.cut_end f
  have c : TL.tl (Str.ofString ":") = [58] := TT.tl_colon
  refine Bool.eq_iff_iff.mpr ?_; rw [decide_eq_true_eq, decide_eq_true_eq]
  constructor
  · intro h
    have h' := V.str.inj h
    rw [h', c] at e
    cases g : (TL.tl f).getLast? with
    | none => rw [g] at e; cases e
    | some k => rw [g] at e; simp at e; rw [← e]
  · intro h
    rw [h] at e
    exact congrArg V.str (TL.ext_tl (e.trans c.symm))
/-- the number that a line's first word writes, as the law reads it -/
def firstI (f : Str) : Int := match TT.first f with
  | none => -1
  | some n => (n : Int)
theorem firstI_eq (f : Str) : firstI f = if (TL.tl f).getLast? = some 58 then numI (cutS f none (some (-1))) else -1 := by
  unfold firstI
  rw [TT.first_eq, TT.ends_one TT.tl_colon]
  by_cases c : (TL.tl f).getLast? = some 58
  · rw [if_pos c, if_pos (decide_eq_true c)]; rfl
  · rw [if_neg c, if_neg (by rw [decide_eq_false c]; exact Bool.false_ne_true)]
def sp__law_tree_of (K : PySem.W.Frag) : Sp := sp1 fun a H Q E => ∃ z : Str, a = .str z ∧ z.length ≤ 500 ∧ ((¬ ∃ n rs, Reads z n rs) → ∀ H', Ex H H' → Q .non H') ∧
  (∀ n rs l p xs H', Reads z n rs → Ex H H' → H' l = some (.lst [iV n, .ref p]) → H' p = some (.lst xs) → F2 (TP H') rs xs → Q (.ref l) H')
section
variable {K : PySem.W.Frag} {mg : Str → Option Value} {P : Program} {w : World} {base : Heap}
theorem ok__law_tree_of (T : Tx K mg) : Cal P w K mg base CX0 2 "_law_tree_of" ["_law_text"] (sp__law_tree_of K) := by
  refine cal_of (fD__law_tree_of T) (T.glo 28 rfl) sc__law_tree_of (fun _ _ _ _ _ _ us hl => match us, hl with | [_], _ => rfl) (fun vs H Q E h => len1 h) (fun f cdv A outer s H vs Q E hr h => ?_)
  obtain ⟨a, rfl, h⟩ := h
  refine ⟨_, (PSs.nox (pss_cons (ps_par (i := 1) (j := 2) rfl sc__law_tree_of.nd rfl rfl (by decide) rfl rfl (pa_cons (pe_split (pv 0) pe_str) (pa_cons (pe_lst pa_nil) pa_nil)) (by rfl))
      (pss_cons (ps_set (i := 3) sc__law_tree_of.nd rfl (Or.inl rfl) (pe_ifExp (pt_cmpR op_eq (pe_slice sl_str (pe_ix (ix_listK (K := K)) (pv 1) pe_int (fun _ _ => rfl)) (po_some (pe_un un_neg pe_int)) po_none) pe_str (nomark _)) (pe_c (ok__law_number T) (hr.mono (by decide)) rfl pass0 (pa_cons (pe_slice sl_str (pe_ix (ix_listK (K := K)) (pv 1) pe_int (fun _ _ => rfl)) po_none (po_some (pe_un un_neg pe_int))) pa_nil)) (pe_un un_neg pe_int)))
      (pss_cons (ps_if (PW.pt (pw_or (pt_cmpR op_lt (pv 3) pe_int (nomark _)) (pw_or (pt_cmpR op_gt (pv 3) pe_int (nomark _)) (pw_or1 (pt_cmpR op_ne (pe_callB (call_lenK (K := K)) (by rfl) (T.free 6 rfl) (by decide +kernel) (pa_cons (pv 1) pa_nil)) (pv 3) (nomark _)))))) (pss_one (ps_ret pe_non)) pss_nil)
      (pss_cons (ps_for PassesOwn.never rfl (pi_list (pe_slice (sl_listK (K := K)) (pv 1) (po_some pe_int) po_none)) (pg_name (i := 4) sc__law_tree_of.nd rfl (Or.inl rfl)) (pss_cons (ps_set (i := 5) sc__law_tree_of.nd rfl (Or.inl rfl) (pe_split (pv 4) pe_str))
      (pss_cons (ps_if (pt_cmpR op_ne (pe_callB (call_lenK (K := K)) (by rfl) (T.free 6 rfl) (by decide +kernel) (pa_cons (pv 5) pa_nil)) pe_int (nomark _)) (pss_one (ps_ret pe_non)) pss_nil)
      (pss_cons (ps_set (i := 6) sc__law_tree_of.nd rfl (Or.inl rfl) (pe_tup (pa_cons (pe_c (ok__law_number T) (hr.mono (by decide)) rfl pass0 (pa_cons (pe_ix (ix_listK (K := K)) (pv 5) pe_int (fun _ _ => rfl)) pa_nil)) (pa_cons (pe_c (ok__law_number T) (hr.mono (by decide)) rfl pass0 (pa_cons (pe_ix (ix_listK (K := K)) (pv 5) pe_int (fun _ _ => rfl)) pa_nil)) pa_nil))))
      (pss_cons (ps_if (PW.pt (pw_or (pt_cmpR op_lt (pe_ix (ix_tupK (K := K)) (pv 6) pe_int (fun _ _ => rfl)) pe_int (nomark _)) (pw_or (pt_cmpR op_le (pe_ix (ix_tupK (K := K)) (pv 6) pe_int (fun _ _ => rfl)) (pe_ix (ix_tupK (K := K)) (pv 6) pe_int (fun _ _ => rfl)) (nomark _)) (pw_or (pt_cmpR op_ge (pe_ix (ix_tupK (K := K)) (pv 6) pe_int (fun _ _ => rfl)) (pv 3) (nomark _)) (pw_or1 (PW.pt (pw_and (pt_cmpR (op_neNil (K := K) (hu0 hr.r)) (pv 2) (pe_lst pa_nil) (nomark _)) (pw_and1 (pt_cmpR (op_leT (hu0 hr.r)) (pv 6) (pe_ix (ix_listK (K := K)) (pv 2) (pe_un un_neg pe_int) (fun _ _ => rfl)) (nomark _)))))))))) (pss_one (ps_ret pe_non)) pss_nil)
      (pss_one (ps_expr (pe_bm PySem.F.plainAttrs_list PySem.F.slot_list_append PySem.F.type_list_append mt_append (pv 2) (pa_cons (pv 6) pa_nil)))))))))
      (pss_one (ps_ret (pe_ifExp (pt_val (pe_c (ok__law_joined T) (hr.mono (by decide)) rfl pass0 (pa_cons (pv 3) (pa_cons (pv 2) pa_nil)))) (pe_lst (pa_cons (pv 3) (pa_cons (pv 2) pa_nil))) pe_non)))))))), ?_⟩
  obtain ⟨z, rfl, zl, q1, q2⟩ := h
  have sl := TT.split_len TT.tl_blank (by decide) z
  have sn := TT.split_ne TT.tl_blank (by decide) z
  have sp := TT.split_part TT.tl_blank (by decide) z
  obtain ⟨f, ws, es⟩ : ∃ f ws, Txt.split z " " = f :: ws := by
    cases e : Txt.split z " " with
    | nil => exact absurd e sn
    | cons f ws => exact ⟨f, ws, rfl⟩
  rw [es] at sl sp
  rw [List.length_cons] at sl
  have fl : f.length ≤ 500 := Nat.le_trans (sp f List.mem_cons_self) zl
  refine seq_at ?_
  refine ⟨_, rfl, ⟨_, rfl⟩, z, Str.ofString " ", rfl, rfl, rfl, by have := line_big (n := z.length + 2) (by omega); omega, fun W hW => ⟨Nat.zero_le _, fun Pp hP => ⟨_, _, rfl, ?_⟩⟩⟩
  rw [es] at hP ⊢
  have hP0 : H Pp = none := by
    have ne : Pp ≠ W := fun z => by rw [z, upd_same] at hP; cases hP
    rw [upd_ne ne] at hP; exact hP
  have WP : W ≠ Pp := fun z => by rw [← z, upd_same] at hP; cases hP
  have e1 : Ex H (upd (upd H W (.lst ((f :: ws).map V.str))) Pp (.lst [])) := (Ex.new hW).trans (Ex.new hP)
  have hW1 : (upd (upd H W (.lst ((f :: ws).map V.str))) Pp (.lst [])) W = some (.lst ((f :: ws).map V.str)) := by rw [upd_ne WP]; exact upd_same
  have hP1 : (upd (upd H W (.lst ((f :: ws).map V.str))) Pp (.lst [])) Pp = some (.lst []) := upd_same
  generalize (upd (upd H W (.lst ((f :: ws).map V.str))) Pp (.lst [])) = H1 at e1 hW1 hP1 ⊢
  dsimp only
  refine seq_at (asg_split (fun v H2 => v = .int (firstI f) ∧ Ex H1 H2) ?_ ?_)
  rotate_left
  · intro R hR
    refine ⟨_, rfl, W, _, 0, .str f, rfl, rfl, SqL.of hW1, atI_nat (j := 0) rfl, 1, rfl, -1, rfl, f, rfl, Nat.le_of_lt (line_big (by omega)), rfl, _, rfl, ?_⟩
    rw [colon_end]
    have fe := firstI_eq f
    by_cases c : (TL.tl f).getLast? = some 58
    · rw [if_pos c] at fe
      rw [decide_eq_true c]
      refine iteT ?_
      refine ⟨_, rfl, W, _, 0, .str f, rfl, rfl, SqL.of hW1, atI_nat (j := 0) rfl, 1, rfl, -1, rfl, f, rfl, Nat.le_of_lt (line_big (by omega)), _, rfl, _, rfl, Nat.le_trans (cutS_length f none (some (-1))) (by omega), fun H2 e2 => hR _ _ ⟨by rw [fe], e2⟩⟩
    · rw [if_neg c] at fe
      rw [decide_eq_false c]
      refine iteF ?_
      exact ⟨1, rfl, hR _ _ ⟨by rw [fe], Ex.refl _⟩⟩
  rintro _ H2 ⟨rfl, e2⟩
  dsimp only [gName]
  have hW2 := e2 _ _ hW1
  have hP2 := e2 _ _ hP1
  have only : ∀ m rs, Reads z m rs → firstI f = m ∧ 1 ≤ m ∧ m ≤ 16 ∧ ws.length + 1 = m ∧ TT.Roads m ws rs ∧ Joined m rs := by
    rintro m rs ⟨f', ws', e, a, h1, h2, h3, R, J⟩
    rw [es] at e
    cases e
    exact ⟨by unfold firstI; rw [a], h1, h2, h3, R, J⟩
  have e02 := e1.trans e2
  have nope : (∀ m rs, Reads z m rs → False) → ∀ {H'}, Ex H H' → Q .non H' := fun h H' e => q1 (fun ⟨m, rs, R⟩ => h m rs R) H' e
  refine seq_at (ifs_at ?_)
  refine ⟨_, rfl, _, _, rfl, rfl, _, rfl, ?_⟩
  by_cases c1 : firstI f < 1
  · rw [decide_eq_true c1]
    refine iteT (iteT ?_)
    exact nope (fun m rs R => by have := only m rs R; omega) e02
  rw [decide_eq_false c1]
  refine iteF ?_
  refine ⟨_, rfl, _, _, rfl, rfl, _, rfl, ?_⟩
  by_cases c2 : 16 < firstI f
  · rw [decide_eq_true c2]
    refine iteT (iteT ?_)
    exact nope (fun m rs R => by have := only m rs R; omega) e02
  rw [decide_eq_false c2]
  refine iteF ?_
  refine ⟨_, rfl, W, _, rfl, .inl (SqL.of hW2), _, rfl, rfl, _, rfl, ?_⟩
  have wl : (((f :: ws).map V.str).length : Int) = ws.length + 1 := by simp
  rw [wl]
  by_cases c3 : (ws.length : Int) + 1 = firstI f
  rotate_left
  · rw [decide_eq_false (show ¬ V.int ((ws.length : Int) + 1) = V.int (firstI f) from fun z => c3 (V.int.inj z))]
    refine iteT ?_
    exact nope (fun m rs R => by have := only m rs R; omega) e02
  rw [decide_eq_true (show V.int ((ws.length : Int) + 1) = V.int (firstI f) by rw [c3])]
  refine iteF ?_
  obtain ⟨n, en⟩ : ∃ n : Nat, firstI f = n := ⟨(firstI f).toNat, by omega⟩
  have n16 : n ≤ 16 := by omega
  have n1 : 1 ≤ n := by omega
  have wn : ws.length + 1 = n := by omega
  rw [en] at c1 c2 c3 ⊢
  have uni : ∀ m rs, Reads z m rs → m = n ∧ TT.Roads n ws rs ∧ Joined n rs := fun m rs R => by
    obtain ⟨a, _, _, _, R', J⟩ := only m rs R
    have : m = n := by omega
    subst this
    exact ⟨rfl, R', J⟩
  dsimp only [tNext]
  refine seq_at ?_
  have cut : cutV ((f :: ws).map V.str) (some 1) none = ws.map V.str := by
    unfold cutV
    have a : HT.sIx ((f :: ws).map V.str).length 0 (some 1) = 1 := by
      have z := HT.sIx_nat ((f :: ws).map V.str).length 0 1
      rw [show (some ((1 : Nat) : Int)) = (some (1 : Int)) from rfl] at z
      rw [z, List.length_map, List.length_cons]; omega
    rw [a, HT.sIx_none, List.length_map, List.length_cons]
    refine List.take_of_length_le ?_; simp
  refine ⟨_, rfl, 1, rfl, W, _, rfl, SqL.of hW2, fun L hL => ⟨L, rfl, ⟨_, SqL.of upd_same⟩, ?_⟩⟩
  rw [cut]
  have e3 := Ex.new (o := .lst (ws.map V.str)) hL
  have hL3 : SqL K (upd H2 L (.lst (ws.map V.str))) L (ws.map V.str) := SqL.of upd_same
  have hP3 := e3 _ _ hP2
  have LP : L ≠ Pp := fun z => by rw [z, hP2] at hL; cases hL
  have hLB : SqL K (L2.del (upd H2 L (.lst (ws.map V.str))) Pp) L (ws.map V.str) := SqL.of (by rw [del_ne LP]; exact upd_same)
  generalize (upd H2 L (.lst (ws.map V.str))) = H3 at e3 hL3 hP3 hLB ⊢
  have nP : L2.del H3 Pp Pp = none := del_same
  refine for_gen (its_lm hLB)
    (fun i σ' H' => ∃ qs xs s4 s5 s6, σ' = [some (.str z), some (.ref W), some (.ref Pp), some (.int (n : Int)), s4, s5, s6] ∧ Ex H H' ∧ Ex (L2.del H3 Pp) H' ∧ H' Pp = some (.lst xs) ∧ F2 (TP H') qs xs ∧ (ws.take i).map TT.road = qs.map some ∧ (∀ q ∈ qs, q.1 < q.2 ∧ q.2 < n) ∧ qs.Pairwise fun p q => TT.ltP p q = true) ?_ ?_ ?_ ?_
  · exact ⟨[], [], _, _, _, rfl, e02.trans e3, Ex.ofDel, hP3, .nil, by simp, by simp, .nil⟩
  · rintro i σ' H' ⟨_, _, _, _, _, _, _, e, _⟩; exact e
  · rintro i σ' H' hi ⟨qs, xs, s4, s5, s6, rfl, e4, eb4, hP4, tp, rd_, lt, up⟩
    obtain ⟨w, at_i⟩ : ∃ w, ws[i]? = some w := ⟨_, List.getElem?_eq_getElem hi⟩
    have wz : w.length ≤ 500 := Nat.le_trans (sp w (List.mem_cons_of_mem _ (List.mem_of_getElem? at_i))) zl
    rw [nth_map at_i]
    dsimp only [gName]
    have bad : (∀ p, TT.road w = some p → p.1 < p.2 → p.2 < n → (∀ q ∈ qs, TT.ltP q p = true) → False) → ∀ {H'}, Ex H H' → Q .non H' := fun h H' e => nope (fun m rs R => by
      have R' := (uni m rs R).2.1
      have ei := congrArg (fun l => l[i]?) R'.eq
      simp only [List.getElem?_map, at_i, Option.map_some] at ei
      obtain ⟨p, hp, er⟩ := Option.map_eq_some_iff.mp ei.symm
      have tk : qs = rs.take i := TT.map_some_inj (by rw [← rd_, List.map_take, R'.eq, List.map_take])
      have l2 := R'.lt p (List.mem_of_getElem? hp)
      refine h p er.symm l2.1 l2.2 fun q hq => ?_
      rw [tk] at hq
      obtain ⟨j, hj, ej⟩ := List.getElem_of_mem hq
      rw [List.getElem_take] at ej
      have jl : j < i := by rw [List.length_take] at hj; omega
      obtain ⟨il, ep⟩ := List.getElem?_eq_some_iff.mp hp
      have z := List.pairwise_iff_getElem.mp R'.up j i (by omega) il jl
      rw [ej, ep] at z
      exact z) e
    refine seq_at (asg_at ?_)
    refine ⟨_, rfl, ⟨_, rfl⟩, w, Str.ofString "-", rfl, rfl, rfl, by have := line_big (n := w.length + 2) (by omega); omega, fun pa hpa => ?_⟩
    have pne : pa ≠ Pp := (ne_of_none hP4 hpa).symm
    have e5 := Ex.new (o := .lst ((Txt.split w (Str.ofString "-")).map V.str)) hpa
    have hp5 : (upd H' pa (.lst ((Txt.split w (Str.ofString "-")).map V.str))) pa = some (.lst ((Txt.split w (Str.ofString "-")).map V.str)) := upd_same
    generalize (upd H' pa (.lst ((Txt.split w (Str.ofString "-")).map V.str))) = H5 at e5 hp5 ⊢
    dsimp only [gName]
    refine seq_at (ifs_at ?_)
    refine ⟨_, rfl, pa, _, rfl, .inl (SqL.of hp5), rfl, _, rfl, ?_⟩
    by_cases c5 : (Txt.split w (Str.ofString "-")).length = 2
    rotate_left
    · rw [decide_eq_false (show ¬ V.int (((Txt.split w (Str.ofString "-")).map V.str).length : Int) = V.int 2 from fun z => c5 (by have := V.int.inj z; rw [List.length_map] at this; omega))]
      refine iteT ?_
      refine bad (fun p hp _ _ _ => c5 ?_) (e4.trans e5)
      rw [show Txt.split w (Str.ofString "-") = [TT.str p.1, TT.str p.2] from (TT.road_back hp).1]; rfl
    rw [decide_eq_true (show V.int (((Txt.split w (Str.ofString "-")).map V.str).length : Int) = V.int 2 by rw [List.length_map, c5]; rfl)]
    refine iteF ?_
    obtain ⟨p0, p1, ep⟩ := two_of c5
    have l01 : p0.length ≤ 500 ∧ p1.length ≤ 500 := by
      have z := TT.split_part TT.tl_dash (by decide) w
      rw [show Txt.split w "-" = [p0, p1] from ep] at z
      have a := z p0 (by simp)
      have b := z p1 (by simp)
      omega
    have rdw : TT.road w = match [TT.num p0, TT.num p1] with | [some a, some b] => some (a, b) | _ => none := by
      unfold TT.road
      rw [show Txt.split w "-" = [p0, p1] from ep]; rfl
    rw [ep] at hp5
    dsimp only [tNext]
    refine seq_at (asg_at ?_)
    refine ⟨_, rfl, pa, _, 0, .str p0, rfl, rfl, SqL.of hp5, atI_nat (j := 0) rfl, _, rfl, p0, rfl, by omega, fun H6 e6 => ⟨_, rfl, pa, _, 1, .str p1, rfl, rfl, SqL.of (e6 _ _ hp5), atI_nat (j := 1) rfl, _, rfl, p1, rfl, by omega, fun H7 e7 => ⟨(by show 2 ≤ sizeLine; exact Nat.le_of_lt (line_big (by omega))), fun tq htq => ?_⟩⟩⟩
    have e8 : Ex H' (upd H7 tq (.tup [.int (numI p0), .int (numI p1)])) := ((e5.trans e6).trans e7).trans (Ex.new htq)
    have hq8 : SqT K (upd H7 tq (.tup [.int (numI p0), .int (numI p1)])) tq ([numI p0, numI p1].map V.int) := SqT.of upd_same
    have hq8' : (upd H7 tq (.tup [.int (numI p0), .int (numI p1)])) tq = some (.tup [.int (numI p0), .int (numI p1)]) := upd_same
    generalize (upd H7 tq (.tup [.int (numI p0), .int (numI p1)])) = H8 at e8 hq8 hq8' ⊢
    dsimp only [gName]
    refine seq_at (ifs_at ?_)
    have at0 : atI ([numI p0, numI p1].map V.int) 0 = some (.int (numI p0)) := atI_nat (j := 0) rfl
    have at1 : atI ([numI p0, numI p1].map V.int) 1 = some (.int (numI p1)) := atI_nat (j := 1) rfl
    have I0 := num_I (w := p0)
    have I1 := num_I (w := p1)
    refine ⟨_, rfl, tq, _, 0, _, rfl, rfl, hq8, at0, _, _, rfl, rfl, _, rfl, ?_⟩
    by_cases c6 : numI p0 < 0
    · rw [decide_eq_true c6]
      refine iteT (iteT ?_)
      refine bad (fun p hp _ _ _ => ?_) (e4.trans e8)
      rw [rdw, I0.2 c6] at hp
      cases hp
    rw [decide_eq_false c6]
    refine iteF ?_
    obtain ⟨a, na, ea⟩ := I0.1 (by omega)
    refine ⟨_, rfl, tq, _, 1, _, rfl, rfl, hq8, at1, _, rfl, tq, _, 0, _, rfl, rfl, hq8, at0, _, _, rfl, rfl, _, rfl, ?_⟩
    by_cases c7 : numI p1 ≤ numI p0
    · rw [decide_eq_true c7]
      refine iteT (iteT ?_)
      refine bad (fun p hp lt' _ _ => ?_) (e4.trans e8)
      rw [rdw, na] at hp
      cases nb : TT.num p1 with
      | none => rw [nb] at hp; cases hp
      | some b =>
        rw [nb] at hp
        cases hp
        have : numI p1 = b := by unfold numI; rw [nb]
        simp only at lt'
        omega
    rw [decide_eq_false c7]
    refine iteF ?_
    obtain ⟨b, nb, eb⟩ := I1.1 (by omega)
    have rw_ : TT.road w = some (a, b) := by rw [rdw, na, nb]
    refine ⟨_, rfl, tq, _, 1, _, rfl, rfl, hq8, at1, _, rfl, _, _, rfl, rfl, _, rfl, ?_⟩
    by_cases c8 : (n : Int) ≤ numI p1
    · rw [decide_eq_true c8]
      refine iteT (iteT ?_)
      refine bad (fun p hp _ lt' _ => ?_) (e4.trans e8)
      rw [rw_] at hp
      cases hp
      simp only at lt'
      omega
    rw [decide_eq_false c8]
    refine iteF ?_
    rw [ea, eb] at hq8 hq8'
    have hP8 := e8 _ _ hP4
    have tp8 : F2 (TP H8) qs xs := tp.imp fun _ _ h => h.mono e8
    have fin : (∀ q ∈ qs, TT.ltP q (a, b) = true) → ∀ H9, Ex H8 H9 → H9 Pp = some (.lst xs) → ∃ qs xs' s4 s5 s6, [some (V.str z), some (V.ref W), some (V.ref Pp), some (V.int (n : Int)), some (V.str w), some (V.ref pa), some (V.ref tq)] = [some (.str z), some (.ref W), some (.ref Pp), some (.int (n : Int)), s4, s5, s6] ∧
        Ex H (upd H9 Pp (.lst (xs ++ [.ref tq]))) ∧ Ex (L2.del H3 Pp) (upd H9 Pp (.lst (xs ++ [.ref tq]))) ∧ (upd H9 Pp (.lst (xs ++ [.ref tq]))) Pp = some (.lst xs') ∧ F2 (TP (upd H9 Pp (.lst (xs ++ [.ref tq])))) qs xs' ∧ (ws.take (i + 1)).map TT.road = qs.map some ∧ (∀ q ∈ qs, q.1 < q.2 ∧ q.2 < n) ∧ qs.Pairwise fun p q => TT.ltP p q = true := by
      intro all H9 e9 hP9
      refine ⟨qs ++ [(a, b)], xs ++ [.ref tq], _, _, _, rfl, Evl.Ex.mut ((e4.trans e8).trans e9) hP0, Evl.Ex.mut ((eb4.trans e8).trans e9) nP, upd_same, ?_, ?_, ?_, ?_⟩
      · refine F2.snoc ?_ (tp8.imp fun _ _ h => (h.mono e9).updL hP9)
        exact TP.updL hP9 ⟨tq, rfl, e9 _ _ hq8'⟩
      · rw [take_snoc' at_i, List.map_append, List.map_append, rd_]
        show qs.map some ++ [TT.road w] = qs.map some ++ [some (a, b)]
        rw [rw_]
      · intro q hq
        obtain hq | hq := List.mem_append.mp hq
        · exact lt q hq
        · rw [List.mem_singleton.mp hq]; simp only
          omega
      · rw [List.pairwise_append]
        exact ⟨up, by simp, fun p hp q hq => by rw [List.mem_singleton.mp hq]; exact all p hp⟩
    have xl : xs.length ≤ 500 := by
      rw [← tp8.length]
      have := congrArg List.length rd_
      rw [List.length_map, List.length_map, List.length_take] at this
      omega
    refine ⟨_, rfl, Nat.zero_le _, fun d hd => ?_⟩
    have ed := Ex.new (o := .lst []) hd
    have hPd := ed _ _ hP8
    refine ⟨Pp, xs, d, rfl, rfl, SqL.of hPd, SqL.of upd_same, _, rfl, ?_⟩
    by_cases q0 : qs = []
    · subst q0
      have x0 : xs = [] := List.length_eq_zero_iff.mp tp8.length.symm
      subst x0
      refine iteF (iteF ?_)
      refine ⟨_, rfl, .inl ⟨rfl, _, SqL.of hPd⟩, _, rfl, Pp, _, _, rfl, rfl, hPd, line_big (by simp), ?_⟩
      exact fin (by simp) _ ed hPd
    obtain ⟨qs', c, rfl⟩ : ∃ qs' c, qs = qs' ++ [c] := ⟨qs.dropLast, qs.getLast q0, (List.dropLast_concat_getLast q0).symm⟩
    obtain ⟨v, hv, tv, rfl, hc⟩ := F2.get tp8 (i := qs'.length) (a := c) (by simp)
    have lx : xs.length = qs'.length + 1 := by rw [← tp8.length]; simp
    have xne : xs.isEmpty = false := by cases xs with
      | nil => simp at lx
      | cons => rfl
    rw [xne]
    refine iteT ?_
    have al : atI xs (-1) = some (.ref tv) := by
      have z := take_snoc' hv
      rw [← lx, List.take_length] at z
      rw [z]
      exact atI_last _ _
    refine ⟨_, rfl, _, rfl, 1, rfl, Pp, xs, -1, _, rfl, rfl, SqL.of hPd, al, tq, tv, [(a : Int), (b : Int)], [(c.1 : Int), (c.2 : Int)], rfl, rfl, Evl.ex_t ed hq8, SqT.of (ed _ _ hc), _, rfl, ?_⟩
    rw [le2, ltP_R c (a, b)]
    cases lc : TT.ltP c (a, b) with
    | false =>
      refine iteT ?_
      refine bad (fun p hp _ _ al => ?_) ((e4.trans e8).trans ed)
      rw [rw_] at hp
      cases hp
      have := al c (by simp)
      rw [lc] at this
      cases this
    | true =>
      refine iteF ?_
      refine ⟨_, rfl, .inl ⟨rfl, _, SqL.of hPd⟩, _, rfl, Pp, _, _, rfl, rfl, hPd, line_big (by omega), ?_⟩
      refine fin (fun q hq => ?_) _ ed hPd
      obtain hq | hq := List.mem_append.mp hq
      · have z := (List.pairwise_append.mp up).2.2 q hq c (by simp)
        unfold TT.ltP at z lc ⊢
        simp at z lc ⊢
        omega
      · rw [List.mem_singleton.mp hq]; exact lc
  · rintro σ' H' ⟨qs, xs, s4, s5, s6, rfl, e4, eb4, hP4, tp, rd_, lt, up⟩
    rw [List.take_length] at rd_
    have R : TT.Roads n ws qs := ⟨rd_, lt, up⟩
    dsimp only
    refine ret_at ?_
    have ql : qs.length = ws.length := by have := congrArg List.length rd_; rw [List.length_map, List.length_map] at this; exact this.symm
    refine ⟨_, rfl, _, rfl, _, _, rfl, n, Pp, xs, qs, rfl, n1, n16, rfl, SqL.of hP4, tp_dqs tp, by omega, fun q hq => by have := lt q hq; omega, fun b H9 e9 hb => ⟨_, rfl, ?_⟩⟩
    cases b with
    | false =>
      refine iteF ?_
      exact nope (fun m rs R' => by
        obtain ⟨_, R2, J⟩ := uni m rs R'
        rw [R2.one R] at J
        exact absurd (hb.mpr J) Bool.false_ne_true) (e4.trans e9)
    | true =>
      refine iteT ?_
      refine ⟨_, rfl, _, rfl, (by show 2 ≤ sizeLine; exact Nat.le_of_lt (line_big (by omega))), fun l hl => ?_⟩
      have el := Ex.new (o := .lst [.int (n : Int), .ref Pp]) hl
      have RD : Reads z n qs := by
        have fe : TT.first f = some n := by
          unfold firstI at en
          cases e : TT.first f with
          | none => rw [e] at en; simp only at en; omega
          | some m => rw [e] at en; simp only at en; rw [show m = n by omega]
        exact ⟨f, ws, es, fe, n1, n16, wn, R, hb.mp rfl⟩
      exact q2 n qs l Pp xs _ RD ((e4.trans e9).trans el) upd_same (el _ _ (e9 _ _ hP4)) (tp.imp fun _ _ h => h.mono (e9.trans el))
end

end T1

namespace T1
open PySem PySem.Spec PyProof.Rows L2 G
open Evl (Ex)
local macro_rules | `(tactic| walk_at "dd") => `(tactic| (dsimp only [tCB, tCons, tNil, tC, tOp, tUn, tTest, tB, tVar, tAndV, tOrV, tNotV, tIf, tAnd, tOr, tNot, tSeq, tRet, tRetN, tIfS, tAsg, gName, tDrop, tTup, tLst, tChain, tNext, tCall, L2.start]))
open M (at_)
theorem sorted_tp {K : PySem.W.Frag} {H : Hp} {P : Addr} {ts : List V} {ps : List (Nat × Nat)} {Q : VK} (hP : H P = some (.lst ts)) (tp : F2 (TP H) ps ts)
    (q : ∀ ys q0 qs, H q0 = none → qs.Perm ps → (qs.Pairwise fun p q => ltN q p = false) → F2 (TP H) qs ys → Q (.ref q0) (upd H q0 (.lst ys))) : rSortedPO K [.ref P] H Q := by
  have kT : ∀ {t : Addr} {i j : Int}, H t = some (.tup [.int i, .int j]) → (fun v : V => match v with | .ref t => (match H t with | some (.tup [.int i, .int j]) => (i, j) | _ => (0, 0)) | _ => ((0, 0) : Int × Int)) (.ref t) = (i, j) := fun h => by simp only [h]
  generalize (fun v : V => match v with | .ref t => (match H t with | some (.tup [.int i, .int j]) => (i, j) | _ => (0, 0)) | _ => ((0, 0) : Int × Int)) = kf at kT
  have tpk : ∀ {p : Nat × Nat} {v : V}, TP H p v → kf v = ((p.1 : Int), (p.2 : Int)) := fun h => by obtain ⟨t, rfl, z⟩ := h; exact kT z
  have gm : ∀ {ps : List (Nat × Nat)} {vs : List V}, F2 (TP H) ps vs → (∀ v ∈ vs, ∃ p, TP H p v) ∧ vs.map (fun v => rdN (kf v)) = ps := by
    intro ps vs h
    induction h with
    | nil => exact ⟨by simp, rfl⟩
    | cons h _ ih =>
      refine ⟨fun v hv => ?_, ?_⟩
      · rcases List.mem_cons.mp hv with rfl | hv
        · exact ⟨_, h⟩
        · exact ih.1 v hv
      · rw [List.map_cons, ih.2, tpk h]; rfl
  obtain ⟨g1, g2⟩ := gm tp
  refine ⟨P, ts, kf, rfl, SqL.of hP, fun v hv => ?_, fun ys q0 hs hst hq => ?_⟩
  · obtain ⟨p, hp⟩ := g1 v hv
    have z := tpk hp
    obtain ⟨t, rfl, ht⟩ := hp
    exact ⟨t, rfl, by rw [z]; exact ht⟩
  have all : ∀ v ∈ ys, ∃ p, TP H p v := fun v hv => g1 v (hst.perm.mem_iff.mp hv)
  refine q ys q0 (ys.map fun v => rdN (kf v)) hq ?_ ?_ (tp_all tpk ys all)
  · rw [← g2]; exact hst.perm.map _
  · rw [List.pairwise_map]
    refine hs.imp_of_mem fun {x y} hx hy z => ?_
    obtain ⟨p, hp⟩ := g1 x (hst.perm.mem_iff.mp hx)
    obtain ⟨p', hp'⟩ := g1 y (hst.perm.mem_iff.mp hy)
    have z' : SrtO.lexB (kf y) (kf x) = false := z
    rw [tpk hp, tpk hp'] at z'
    rw [tpk hp, tpk hp']
    have no := SrtO.lexB_no.mp z'
    unfold ltN ltR rdN
    simp only [Int.toNat_natCast, Bool.or_eq_false_iff, Bool.and_eq_false_iff, decide_eq_false_iff_not] at no ⊢
    omega
/-! other trees -/
/-- plain signs, L of them at most -/
structure Tx8 (L : Nat) (z : Str) : Prop where
  ln : z.length ≤ L
  as : TT.Asc z
theorem at_str {S : Str} {i : Nat} (h : i < S.length) : ∃ c, atI S.cps.toList (i : Int) = some c ∧ c ∈ TL.tl S := by
  have hl : i < (TL.tl S).length := by rw [← TL.len_tl]; exact h
  exact ⟨(TL.tl S)[i], atI_nat (j := i) (List.getElem?_eq_getElem hl), List.getElem_mem hl⟩
theorem tx_one {c : Nat} {S : Str} (h : TT.Asc S) (m : c ∈ TL.tl S) : Tx8 1 (⟨#[c]⟩ : Str) := ⟨Nat.le_refl 1, fun d hd => by
  have : d ∈ [c] := hd
  rw [List.mem_singleton.mp this]; exact h c m⟩
def sp__law_sign (K : PySem.W.Frag) : Sp := sp1 fun a H Q E => ∃ (A : Addr) (c : Nat), a = .ref A ∧ c ≤ 900000 ∧ BoxAt H A c ∧ ∀ z H', Ex (L2.del H A) H' → BoxAt H' A (c + 2) → Tx8 1 z → Q (.str z) H'
section
variable {K : PySem.W.Frag} {mg : Str → Option Value} {P : Program} {w : World} {base : Heap}
theorem ok__law_sign (T : Tx K mg) : Cal P w K mg base CX0 2 "_law_sign" ["_law_box_here"] (sp__law_sign K) := by
  refine cal_of (fD__law_sign T) (T.glo 29 rfl) sc__law_sign (fun _ _ _ _ _ _ us hl => match us, hl with | [_], _ => rfl) (fun vs H Q E h => len1 h) (fun f cdv A outer s H vs Q E hr h => ?_)
  obtain ⟨a, rfl, h⟩ := h
  refine ⟨_, (PSs.nox (pss_cons (ps_set (i := 1) sc__law_sign.nd rfl (Or.inl rfl) pe_str)
      (pss_cons (ps_if (pt_cmpR op_gt (pe_c (ok__law_take T) (hr.mono (by decide)) rfl pass0 (pa_cons (pv 0) (pa_cons pe_int pa_nil))) pe_int (nomark _)) (pss_one (ps_set (i := 1) sc__law_sign.nd rfl (Or.inl rfl) pe_str)) pss_nil)
      (pss_one (ps_ret (pe_ix ix_str (pv 1) (pe_c (ok__law_take T) (hr.mono (by decide)) rfl pass0 (pa_cons (pv 0) (pa_cons (pe_callB call_len_str (by rfl) (T.free 6 rfl) (by decide +kernel) (pa_cons (pv 1) pa_nil)) pa_nil))) (fun _ _ => rfl))))))), ?_⟩
  obtain ⟨A, c, rfl, c9, hb, q⟩ := h
  have m8 : ∀ {j : Nat}, j ≤ 200 → j ≤ 1000000 := fun h => by omega
  refine seq_at (asg_at ?_)
  dsimp only [tC, gName]
  refine seq_at (ifs_at ?_)
  refine ⟨_, rfl, _, _, rfl, A, 3, c, rfl, rfl, by decide, by decide, by omega, hb, fun w1 H1 hw e1 hb1 => ?_⟩
  refine ⟨_, _, rfl, rfl, _, rfl, ?_⟩
  by_cases c1 : (0 : Int) < (w1 : Int)
  · rw [decide_eq_true c1]
    refine iteT ?_
    refine asg_at ?_
    dsimp only [tC, gName]
    refine ret_at ?_
    refine ⟨_, rfl, _, rfl, _, rfl, _, rfl, Nat.le_of_lt (line_big (by decide +kernel)), _, _, rfl, A, _, c + 1, rfl, rfl, by decide +kernel, by decide +kernel, by omega, hb1, fun i H2 hi e2 hb2 => ?_⟩
    obtain ⟨ch, hc, mc⟩ := at_str hi
    exact ⟨_, _, ch, rfl, rfl, Nat.le_of_lt (line_big (by decide +kernel)), hc, q _ H2 (ex_of_del e1 del_same e2) hb2 (tx_one (TT.asc_of (by decide +kernel)) mc)⟩
  · rw [decide_eq_false c1]
    refine iteF ?_
    dsimp only [tNext]
    refine ret_at ?_
    refine ⟨_, rfl, _, rfl, _, rfl, _, rfl, Nat.le_of_lt (line_big (by decide +kernel)), _, _, rfl, A, _, c + 1, rfl, rfl, by decide +kernel, by decide +kernel, by omega, hb1, fun i H2 hi e2 hb2 => ?_⟩
    obtain ⟨ch, hc, mc⟩ := at_str hi
    exact ⟨_, _, ch, rfl, rfl, Nat.le_of_lt (line_big (by decide +kernel)), hc, q _ H2 (ex_of_del e1 del_same e2) hb2 (tx_one (TT.asc_of (by decide +kernel)) mc)⟩
end

end T1

namespace T1
open PySem PySem.Spec PyProof.Rows L2 G
open Evl (Ex)
local macro_rules | `(tactic| walk_at "dd") => `(tactic| (dsimp only [tCB, tCons, tNil, tC, tOp, tUn, tTest, tB, tVar, tAndV, tOrV, tNotV, tIf, tAnd, tOr, tNot, tSeq, tRet, tRetN, tIfS, tAsg, gName, tDrop, tTup, tLst, tChain, tNext, tCall, L2.start]))
open M (at_)
theorem edge_lt {x y n : Nat} (h : x < n) (g : y < n) : (edge x y).1 < n ∧ (edge x y).2 < n := by unfold edge; split <;> exact ⟨by assumption, by assumption⟩
theorem tp_dqs' {K : PySem.W.Frag} {H : Hp} {rs : List (Nat × Nat)} {ys : List V} (h : F2 (TP H) rs ys) : Dqs K H ys (rs.map pairD) := tp_dqs h
theorem tx_line {n : Nat} {rs : List (Nat × Nat)} (hn : n < 100) (h : ∀ p ∈ rs, p.1 < 100 ∧ p.2 < 100) (l : rs.length ≤ 16) : Tx8 100 (TT.line n rs) :=
  ⟨Nat.le_trans (TT.line_len hn h) (by omega), TT.asc_line n rs⟩
def sp__law_moved (K : PySem.W.Frag) : Sp := sp2 fun a b H Q E => ∃ (A : Addr) (c n : Nat) (rs : List (Nat × Nat)), a = .ref A ∧ c ≤ 900000 ∧ BoxAt H A c ∧ WorldAt K (L2.del H A) b n rs ∧ ∀ z H', Ex (L2.del H A) H' → BoxAt H' A (c + 3) → Tx8 100 z → Q (.str z) H'
section
variable {K : PySem.W.Frag} {mg : Str → Option Value} {P : Program} {w : World} {base : Heap}
theorem ok__law_moved (T : Tx K mg) : Cal P w K mg base CX0 4 "_law_moved" ["_law_box_here", "_law_world_here"] (sp__law_moved K) := by
  refine cal_of (fD__law_moved T) (T.glo 30 rfl) sc__law_moved (fun _ _ _ _ _ _ us hl => match us, hl with | [_, _], _ => rfl) (fun vs H Q E h => len2 h) (fun f cdv A outer s H vs Q E hr h => ?_)
  obtain ⟨a, b, rfl, h⟩ := h
  refine ⟨_, (PSs.nox (pss_cons (ps_par (i := 2) (j := 3) rfl sc__law_moved.nd rfl rfl (by decide) rfl rfl (pa_cons (pe_ix (ix_listK (K := K)) (pv 1) pe_int (fun _ _ => rfl)) (pa_cons (pe_callTy (call_listK (K := K)) (by rfl) (T.free 7 rfl) (by decide +kernel) (pa_cons (pe_ix (ix_listK (K := K)) (pv 1) pe_int (fun _ _ => rfl)) pa_nil)) pa_nil)) (by rfl))
      (pss_cons (ps_if (pt_cmpR (op_eqNil (K := K) (hu0 hr.r)) (pv 3) (pe_lst pa_nil) (nomark _)) (pss_one (ps_ret (pe_c (ok__law_written T) (hr.mono (by decide)) rfl pass0 (pa_cons (pe_op op_add (pv 2) pe_int) (pa_cons (pe_lst (pa_cons (pe_tup (pa_cons pe_int (pa_cons (pv 2) pa_nil))) pa_nil)) pa_nil))))) pss_nil)
      (pss_cons (ps_par (i := 4) (j := 5) rfl sc__law_moved.nd rfl rfl (by decide) rfl rfl (pa_cons (pe_c (ok__law_take T) (hr.mono (by decide)) rfl pass0 (pa_cons (pv 0) (pa_cons (pe_callB (call_lenK (K := K)) (by rfl) (T.free 6 rfl) (by decide +kernel) (pa_cons (pv 3) pa_nil)) pa_nil))) (pa_cons (pe_c (ok__law_take T) (hr.mono (by decide)) rfl pass0 (pa_cons (pv 0) (pa_cons (pv 2) pa_nil))) pa_nil)) (by rfl))
      (pss_cons (ps_asg (pe_callTy (call_tupK (K := K)) (by rfl) (T.free 15 rfl) (by decide +kernel) (pa_cons (pe_callB (cr_sortedIK (K := K)) (by rfl) (T.free 12 rfl) (by decide +kernel) (pa_cons (pe_lst (pa_cons (pe_ix (ix_tupK (K := K)) (pe_ix (ix_listK (K := K)) (pv 3) (pv 4) (fun _ _ => rfl)) (pe_c (ok__law_take T) (hr.mono (by decide)) rfl pass0 (pa_cons (pv 0) (pa_cons pe_int pa_nil))) (fun _ _ => rfl)) (pa_cons (pv 5) pa_nil))) pa_nil)) pa_nil)) (pg_sub (pv 3) (pv 4) set_list))
      (pss_one (ps_ret (pe_c (ok__law_written T) (hr.mono (by decide)) rfl pass0 (pa_cons (pv 2) (pa_cons (pe_callB (cr_sortedPOK (K := K)) (by rfl) (T.free 12 rfl) (by decide +kernel) (pa_cons (pv 3) pa_nil)) pa_nil)))))))))), ?_⟩
  obtain ⟨A, c, n, rs, rfl, c9, hb, wo, q⟩ := h
  obtain ⟨wa, s0, ts, rfl, hw, hs, tp⟩ := wo.at_
  have ok := wo.ok
  have n16 := ok.n16
  have n1 := ok.n1
  have rl := ok.rl
  have lt := ok.sub.1
  have e0 : Ex (L2.del H A) H := Ex.ofDel
  obtain ⟨lA, hA⟩ := hb.some
  refine seq_at ?_
  refine ⟨_, rfl, wa, _, 0, _, rfl, rfl, SqL.of (e0 _ _ hw), atI_nat (j := 0) rfl, _, rfl, wa, _, 1, _, rfl, rfl, SqL.of (e0 _ _ hw), atI_nat (j := 1) rfl, s0, ts, rfl, .inl (SqL.of (e0 _ _ hs)), fun P hP => ⟨_, _, rfl, ?_⟩⟩
  have PA : P ≠ A := (ne_of_none hA hP).symm
  have e1 : Ex (L2.del H A) (upd H P (.lst ts)) := e0.trans (Ex.new hP)
  have hP1 : (upd H P (.lst ts)) P = some (.lst ts) := upd_same
  have hb1 := hb.mono (Ex.new (o := .lst ts) hP)
  have nP : L2.del H A P = none := by rw [del_ne PA]; exact hP
  generalize (upd H P (.lst ts)) = H1 at e1 hP1 hb1 ⊢
  have tl : ts.length = rs.length := tp.length.symm
  dsimp only
  refine seq_at (ifs_at ?_)
  refine ⟨_, rfl, Nat.zero_le _, fun d hd => ?_⟩
  have ed := Ex.new (o := .lst []) hd
  have hPd := ed _ _ hP1
  refine ⟨P, ts, d, rfl, rfl, SqL.of hPd, SqL.of upd_same, _, rfl, ?_⟩
  have hbd := hb1.mono ed
  have e2 := e1.trans ed
  generalize (upd H1 d (.lst [])) = H2 at ed hPd hbd e2 ⊢
  by_cases r0 : rs = []
  · subst r0
    have t0 : ts = [] := List.length_eq_zero_iff.mp tl
    subst t0
    refine iteT ?_
    refine ret_at ?_
    refine ⟨_, rfl, _, _, rfl, rfl, _, rfl, (by show 2 ≤ sizeLine; exact Nat.le_of_lt (line_big (by omega))), fun t ht => ⟨(by show 1 ≤ sizeLine; exact Nat.le_of_lt (line_big (by omega))), fun l hl => ?_⟩⟩
    have e3 := (Ex.new (o := .tup [V.int 0, V.int (n : Int)]) ht).trans (Ex.new (o := .lst [V.ref t]) hl)
    refine ⟨_, _, rfl, n + 1, l, [.ref t], [(0, n)], rfl, by omega, rfl, SqL.of upd_same, ?_, by simp, by simp; omega, fun H' e' => q _ H' ((e2.trans e3).trans e') (((hbd.mono e3).mono e').up (by omega)) (tx_line (by omega) (by simp; omega) (by simp))⟩
    exact tp_dqs (.cons ⟨t, rfl, Ex.new hl _ _ upd_same⟩ .nil)
  have rp : 1 ≤ rs.length := by cases rs with
    | nil => exact absurd rfl r0
    | cons => simp
  have te : ts.isEmpty = false := by cases ts with
    | nil => simp at tl; omega
    | cons => rfl
  rw [te]
  refine iteF ?_
  dsimp only [tNext]
  refine seq_at ?_
  refine ⟨_, rfl, _, rfl, P, _, rfl, .inl (SqL.of hPd), _, _, rfl, A, ts.length, c, rfl, rfl, by omega, by omega, by omega, hbd, fun i H3 hi e3 hb3 => ⟨_, rfl, _, rfl, _, _, rfl, A, n, c + 1, rfl, rfl, by omega, by omega, by omega, hb3, fun j H4 hj e4 hb4 => ⟨_, _, rfl, ?_⟩⟩⟩
  dsimp only
  refine seq_at (asg_at ?_)
  have e24 : Ex (L2.del H A) H4 := ex_of_del (ex_of_del e2 del_same e3) del_same e4
  have hP4 : H4 P = some (.lst ts) := del_get e4 PA (del_get e3 PA hPd)
  obtain ⟨pr, hpr⟩ : ∃ pr, rs[i]? = some pr := ⟨_, List.getElem?_eq_getElem (by omega)⟩
  obtain ⟨v, hv, t, rfl, ht⟩ := F2.get tp hpr
  have lp := lt pr (List.mem_of_getElem? hpr)
  refine ⟨_, rfl, _, rfl, P, ts, _, _, rfl, rfl, SqL.of hP4, atI_nat hv, _, rfl, _, _, rfl, A, 2, c + 2, rfl, rfl, by decide, by decide, by omega, hb4, fun k H5 hk e5 hb5 => ?_⟩
  have e05 := ex_of_del e24 del_same e5
  have hP5 : H5 P = some (.lst ts) := del_get e5 PA hP4
  obtain ⟨x, xa, xl⟩ : ∃ x : Nat, atI [iV pr.1, iV pr.2] (k : Int) = some (iV x) ∧ x < n := by
    match k, hk with
    | 0, _ => exact ⟨pr.1, atI_nat (j := 0) rfl, by omega⟩
    | 1, _ => exact ⟨pr.2, atI_nat (j := 1) rfl, by omega⟩
  refine ⟨t, _, _, _, rfl, rfl, SqT.of (e05 _ _ ht), xa, _, rfl, (by show 2 ≤ sizeLine; exact Nat.le_of_lt (line_big (by omega))), fun l hl => ⟨l, [(x : Int), (j : Int)], rfl, SqL.of upd_same, fun ns' q0 pn sn hq => ⟨q0, _, rfl, .inl ⟨SqL.of upd_same, fun t' ht' => ?_⟩⟩⟩⟩
  rw [sort2 pn sn] at ht' ⊢
  have ex := ((Ex.new (o := .lst [iV x, V.int (j : Int)]) hl).trans (Ex.new (o := .lst ([((edge x j).1 : Int), ((edge x j).2 : Int)].map V.int)) hq)).trans (Ex.new (o := .tup ([((edge x j).1 : Int), ((edge x j).2 : Int)].map V.int)) ht')
  have hP6 := ex _ _ hP5
  refine ⟨_, rfl, _, rfl, P, ts, _, i, rfl, rfl, hP6, Evl.ixN_nat (by omega), ?_⟩
  have e06 := e05.trans ex
  have nt : TP (upd (upd (upd H5 l (.lst [iV x, V.int (j : Int)])) q0 (.lst ([((edge x j).1 : Int), ((edge x j).2 : Int)].map V.int))) t' (.tup ([((edge x j).1 : Int), ((edge x j).2 : Int)].map V.int))) (edge x j) (.ref t') := ⟨t', rfl, upd_same⟩
  have hb6 := hb5.mono ex
  generalize (upd (upd (upd H5 l (.lst [iV x, V.int (j : Int)])) q0 (.lst ([((edge x j).1 : Int), ((edge x j).2 : Int)].map V.int))) t' (.tup ([((edge x j).1 : Int), ((edge x j).2 : Int)].map V.int))) = H6 at hP6 e06 nt hb6 ⊢
  have tp7 : F2 (TP (upd H6 P (.lst (ts.set i (.ref t'))))) (rs.set i (edge x j)) (ts.set i (.ref t')) := (F2.set i (tp.imp fun _ _ h => TP.mono e06 h) nt).imp fun _ _ h => h.updL hP6
  have e07 : Ex (L2.del H A) (upd H6 P (.lst (ts.set i (.ref t')))) := Evl.Ex.mut e06 nP
  have hb7 : BoxAt (upd H6 P (.lst (ts.set i (.ref t')))) A (c + 3) := by
    obtain ⟨x0, b0, y0, k0, z, r⟩ := hb6
    exact ⟨x0, b0, y0, k0, by rw [upd_ne PA.symm]; exact z, r⟩
  have hP7 : (upd H6 P (.lst (ts.set i (.ref t')))) P = some (.lst (ts.set i (.ref t'))) := upd_same
  generalize (upd H6 P (.lst (ts.set i (.ref t')))) = H7 at tp7 e07 hb7 hP7 ⊢
  dsimp only
  refine ret_at ?_
  refine ⟨_, rfl, cb_at ⟨_, rfl, sorted_tp hP7 tp7 fun ys q1 qs hq1 pq _ tpq => ?_⟩⟩
  have e8 := Ex.new (o := .lst ys) hq1
  have lq : ∀ p ∈ qs, p.1 < n ∧ p.2 < n := fun p hp => by
    have m := pq.mem_iff.mp hp
    rcases List.mem_or_eq_of_mem_set m with m | m
    · have := lt p m; omega
    · rw [m]; exact edge_lt xl hj
  have ql : qs.length = rs.length := by rw [pq.length_eq, List.length_set]
  refine ⟨_, _, rfl, n, q1, ys, qs, rfl, by omega, rfl, SqL.of upd_same, tp_dqs (tpq.imp fun _ _ h => h.mono e8), by omega, fun p hp => by have := lq p hp; omega, fun H' e' => q _ H' ((e07.trans e8).trans e') ((hb7.mono e8).mono e') (tx_line (by omega) (fun p hp => by have := lq p hp; omega) (by omega))⟩
end

end T1

namespace T1
open PySem PySem.Spec PyProof.Rows L2 G
open Evl (Ex)
local macro_rules | `(tactic| walk_at "dd") => `(tactic| (dsimp only [tCB, tCons, tNil, tC, tOp, tUn, tTest, tB, tVar, tAndV, tOrV, tNotV, tIf, tAnd, tOr, tNot, tSeq, tRet, tRetN, tIfS, tAsg, gName, tDrop, tTup, tLst, tChain, tNext, tCall, L2.start]))
open M (at_)
def sp__law_loose (K : PySem.W.Frag) : Sp := sp1 fun a H Q E => ∃ (A : Addr) (c : Nat), a = .ref A ∧ c ≤ 900000 ∧ BoxAt H A c ∧ ∀ z H', Ex (L2.del H A) H' → BoxAt H' A (c + 17) → Tx8 100 z → Q (.str z) H'
section
variable {K : PySem.W.Frag} {mg : Str → Option Value} {P : Program} {w : World} {base : Heap}
theorem ok__law_loose (T : Tx K mg) : Cal P w K mg base CX0 4 "_law_loose" ["_law_box_here"] (sp__law_loose K) := by
  refine cal_of (fD__law_loose T) (T.glo 31 rfl) sc__law_loose (fun _ _ _ _ _ _ us hl => match us, hl with | [_], _ => rfl) (fun vs H Q E h => len1 h) (fun f cdv A outer s H vs Q E hr h => ?_)
  obtain ⟨a, rfl, h⟩ := h
  refine ⟨_, (PSs.nox (pss_cons (ps_set (i := 1) sc__law_loose.nd rfl (Or.inl rfl) (pe_op op_add pe_int (pe_c (ok__law_take T) (hr.mono (by decide)) rfl pass0 (pa_cons (pv 0) (pa_cons pe_int pa_nil)))))
      (pss_cons (ps_set (i := 2) sc__law_loose.nd rfl (Or.inl rfl) (pe_lst pa_nil))
      (pss_cons (ps_for PassesOwn.never rfl (pi_range1 (by rfl) (T.free 10 rfl) (pa_cons (pe_op op_sub (pv 1) pe_int) pa_nil)) (pg_name (i := 3) sc__law_loose.nd rfl (Or.inl rfl)) (pss_cons (ps_set (i := 4) sc__law_loose.nd rfl (Or.inl rfl) (pe_lst (pa_cons (pe_c (ok__law_take T) (hr.mono (by decide)) rfl pass0 (pa_cons (pv 0) (pa_cons (pv 1) pa_nil))) (pa_cons (pe_c (ok__law_take T) (hr.mono (by decide)) rfl pass0 (pa_cons (pv 0) (pa_cons (pv 1) pa_nil))) pa_nil))))
      (pss_one (ps_expr (pe_bm PySem.F.plainAttrs_list PySem.F.slot_list_append PySem.F.type_list_append mt_append (pv 2) (pa_cons (pe_callTy (call_tupK (K := K)) (by rfl) (T.free 15 rfl) (by decide +kernel) (pa_cons (pe_ifExp (pt_cmpR op_gt (pe_c (ok__law_take T) (hr.mono (by decide)) rfl pass0 (pa_cons (pv 0) (pa_cons pe_int pa_nil))) pe_int (nomark _)) (pe_callB (cr_sortedIK (K := K)) (by rfl) (T.free 12 rfl) (by decide +kernel) (pa_cons (pv 4) pa_nil)) (pv 4)) pa_nil)) pa_nil))))))
      (pss_one (ps_ret (pe_c (ok__law_written T) (hr.mono (by decide)) rfl pass0 (pa_cons (pv 1) (pa_cons (pe_ifExp (pt_cmpR op_gt (pe_c (ok__law_take T) (hr.mono (by decide)) rfl pass0 (pa_cons (pv 0) (pa_cons pe_int pa_nil))) pe_int (nomark _)) (pe_callB (cr_sortedPOK (K := K)) (by rfl) (T.free 12 rfl) (by decide +kernel) (pa_cons (pv 2) pa_nil)) (pv 2)) pa_nil))))))))), ?_⟩
  obtain ⟨A, c, rfl, c9, hb, q⟩ := h
  refine seq_at (asg_at ?_)
  refine ⟨_, rfl, _, _, rfl, A, 6, c, rfl, rfl, by decide, by decide, by omega, hb, fun k H1 hk e1 hb1 => ?_⟩
  refine ⟨_, _, rfl, rfl, ?_⟩
  have ek : (1 : Int) + (k : Int) = ((k + 1 : Nat) : Int) := by omega
  dsimp only [gName]
  rw [ek]
  refine seq_at (asg_at ?_)
  refine ⟨Nat.zero_le _, fun P hP => ?_⟩
  obtain ⟨lA, hA⟩ := hb1.some
  have PA : P ≠ A := (ne_of_none hA hP).symm
  have nP : L2.del H A P = none := Evl.fresh_back e1 hP
  have e2 := e1.trans (Ex.new (o := .lst []) hP)
  have hb2 := hb1.mono (Ex.new (o := .lst []) hP)
  have hP2 : (upd H1 P (.lst [])) P = some (.lst []) := upd_same
  generalize (upd H1 P (.lst [])) = H2 at e2 hb2 hP2 ⊢
  dsimp only [gName]
  refine seq_at ?_
  refine for_at (B := L2.del H A) (n := k) (item := fun i => .int (0 + i)) (fun R r => ⟨_, rfl, _, _, rfl, rfl, _, rfl, by omega, by omega, (by rw [show (((k + 1 : Nat) : Int) - 1).toNat = k by omega]; exact r _ _ (Ex.refl _) (its_r 0 k))⟩)
    (fun i σ' H' => ∃ (qs : List (Nat × Nat)) (ts : List V) (s3 s4 : Option V), σ' = [some (.ref A), some (.int ((k + 1 : Nat) : Int)), some (.ref P), s3, s4] ∧ Ex (L2.del H A) H' ∧ BoxAt H' A (c + 1 + 3 * i) ∧ H' P = some (.lst ts) ∧ F2 (TP H') qs ts ∧ qs.length = i ∧ ∀ p ∈ qs, p.1 < k + 1 ∧ p.2 < k + 1) ?_ ?_ ?_ ?_
  · intro H3 e3
    exact ⟨[], [], _, _, rfl, e2.trans e3, (hb2.mono e3).up (by omega), e3 _ _ hP2, .nil, rfl, by simp⟩
  · rintro i σ' H' ⟨_, _, _, _, _, e, _⟩; exact e
  · rintro i σ' H' hi ⟨qs, ts, s3, s4, rfl, e, hbx, hPx, tp, ql, lt⟩
    dsimp only [gName]
    refine seq_at (asg_at ?_)
    obtain ⟨lx, hlx⟩ := hbx.some
    refine ⟨_, rfl, _, rfl, _, _, rfl, A, k + 1, c + 1 + 3 * i, rfl, rfl, by omega, by omega, by omega, hbx, fun x H3 hx e3 hb3 => ⟨_, rfl, _, rfl, _, _, rfl, A, k + 1, c + 1 + 3 * i + 1, rfl, rfl, by omega, by omega, by omega, hb3, fun y H4 hy e4 hb4 => ⟨(by show 2 ≤ sizeLine; exact Nat.le_of_lt (line_big (by omega))), fun S hS => ?_⟩⟩⟩
    have e14 := ex_of_del (ex_of_del e del_same e3) del_same e4
    have tp4 : F2 (TP H4) qs ts := by
      obtain ⟨l3, hl3⟩ := hb3.some
      exact (tp.imp fun _ _ h => h.take hlx e3).imp fun _ _ h => h.take hl3 e4
    have hP4 : H4 P = some (.lst ts) := del_get e4 PA (del_get e3 PA hPx)
    obtain ⟨l4, hl4⟩ := hb4.some
    have SA : S ≠ A := (ne_of_none hl4 hS).symm
    have SP : S ≠ P := (ne_of_none hP4 hS).symm
    have e5 := Ex.new (o := .lst [V.int (x : Int), V.int (y : Int)]) hS
    have hS5 : (upd H4 S (.lst [V.int (x : Int), V.int (y : Int)])) S = some (.lst [V.int (x : Int), V.int (y : Int)]) := upd_same
    generalize (upd H4 S (.lst [V.int (x : Int), V.int (y : Int)])) = H5 at e5 hS5 ⊢
    dsimp only [gName]
    have tl : ts.length = i := by rw [← tp.length, ql]
    -- the pair that is appended
    have fin : ∀ (p : Nat × Nat) (t : Addr) (H6 : Hp), Ex (L2.del H A) H6 → BoxAt H6 A (c + 1 + 3 * (i + 1)) → H6 P = some (.lst ts) → F2 (TP H6) qs ts → TP H6 p (.ref t) → p.1 < k + 1 → p.2 < k + 1 → ∀ s3 s4, ∃ (qs : List (Nat × Nat)) (ts' : List V) (s3' s4' : Option V), [some (.ref A), some (.int ((k + 1 : Nat) : Int)), some (.ref P), s3, s4] = [some (.ref A), some (.int ((k + 1 : Nat) : Int)), some (.ref P), s3', s4'] ∧ Ex (L2.del H A) (upd H6 P (.lst (ts ++ [.ref t]))) ∧
        BoxAt (upd H6 P (.lst (ts ++ [.ref t]))) A (c + 1 + 3 * (i + 1)) ∧ (upd H6 P (.lst (ts ++ [.ref t]))) P = some (.lst ts') ∧ F2 (TP (upd H6 P (.lst (ts ++ [.ref t])))) qs ts' ∧ qs.length = i + 1 ∧ ∀ p ∈ qs, p.1 < k + 1 ∧ p.2 < k + 1 := by
      intro p t H6 e6 hb6 hP6 tp6 ht l1 l2 s3 s4
      refine ⟨qs ++ [p], ts ++ [.ref t], _, _, rfl, Evl.Ex.mut e6 nP, ?_, upd_same, F2.snoc (ht.updL hP6) (tp6.imp fun _ _ h => h.updL hP6), by rw [List.length_append, ql]; rfl, fun u hu => ?_⟩
      · obtain ⟨x0, b0, y0, k0, z, r⟩ := hb6
        exact ⟨x0, b0, y0, k0, by rw [upd_ne PA.symm]; exact z, r⟩
      · obtain hu | hu := List.mem_append.mp hu
        · exact lt u hu
        · rw [List.mem_singleton.mp hu]; exact ⟨l1, l2⟩
    have hP5 := e5 _ _ hP4
    have hb5 := hb4.mono e5
    have e15 := e14.trans e5
    have tp5 : F2 (TP H5) qs ts := tp4.imp fun _ _ h => TP.mono e5 h
    refine ⟨_, rfl, .inl ⟨rfl, _, SqL.of hP5⟩, ?_⟩
    refine ⟨_, rfl, _, _, rfl, A, 5, c + 1 + 3 * i + 1 + 1, rfl, rfl, by decide, by decide, by omega, hb5, fun v H6 hv e6 hb6 => ?_⟩
    refine ⟨_, _, rfl, rfl, _, rfl, ?_⟩
    have e16 := ex_of_del e15 del_same e6
    have hP6 := del_get e6 PA hP5
    have hS6 := del_get e6 SA hS5
    obtain ⟨l5, hl5⟩ := hb5.some
    have tp6 : F2 (TP H6) qs ts := tp5.imp fun _ _ h => h.take hl5 e6
    have few : ts.length < sizeLine := line_big (by omega)
    by_cases c5 : (0 : Int) < (v : Int)
    · rw [decide_eq_true c5]
      refine iteT ?_
      refine ⟨_, rfl, S, [(x : Int), (y : Int)], rfl, SqL.of hS6, fun ns' q0 pn sn hq => ⟨q0, _, rfl, .inl ⟨SqL.of upd_same, fun t' ht' => ?_⟩⟩⟩
      rw [sort2 pn sn] at ht' ⊢
      have ex := (Ex.new (o := .lst ([((edge x y).1 : Int), ((edge x y).2 : Int)].map V.int)) hq).trans (Ex.new (o := .tup ([((edge x y).1 : Int), ((edge x y).2 : Int)].map V.int)) ht')
      have l := edge_lt hx hy
      refine ⟨P, ts, _, rfl, rfl, ex _ _ hP6, few, ?_⟩
      exact fin (edge x y) t' _ (e16.trans ex) ((hb6.mono ex).up (by omega)) (ex _ _ hP6) (tp6.imp fun _ _ h => TP.mono ex h) ⟨t', rfl, upd_same⟩ l.1 l.2 _ _
    · rw [decide_eq_false c5]
      refine iteF ?_
      refine ⟨_, rfl, S, _, rfl, .inl ⟨SqL.of hS6, fun t' ht' => ?_⟩⟩
      have ex := Ex.new (o := .tup [V.int (x : Int), V.int (y : Int)]) ht'
      refine ⟨P, ts, _, rfl, rfl, ex _ _ hP6, few, ?_⟩
      exact fin (x, y) t' _ (e16.trans ex) ((hb6.mono ex).up (by omega)) (ex _ _ hP6) (tp6.imp fun _ _ h => TP.mono ex h) ⟨t', rfl, upd_same⟩ hx hy _ _
  · rintro σ' H' ⟨qs, ts, s3, s4, rfl, e, hbx, hPx, tp, ql, lt⟩
    dsimp only
    refine ret_at ?_
    obtain ⟨lx, hlx⟩ := hbx.some
    refine ⟨_, rfl, ?_⟩
    refine ⟨_, rfl, _, _, rfl, A, 4, c + 1 + 3 * k, rfl, rfl, by decide, by decide, by omega, hbx, fun v H6 hv e6 hb6 => ?_⟩
    refine ⟨_, _, rfl, rfl, _, rfl, ?_⟩
    have e16 := ex_of_del e del_same e6
    have hP6 := del_get e6 PA hPx
    have tp6 : F2 (TP H6) qs ts := tp.imp fun _ _ h => h.take hlx e6
    by_cases c5 : (0 : Int) < (v : Int)
    · rw [decide_eq_true c5]
      refine iteT (cb_at ⟨_, rfl, sorted_tp hP6 tp6 fun ys q1 rs hq1 pq _ tpq => ?_⟩)
      have e8 := Ex.new (o := .lst ys) hq1
      refine ⟨_, _, rfl, k + 1, q1, ys, rs, rfl, by omega, rfl, SqL.of upd_same, tp_dqs (tpq.imp fun _ _ h => TP.mono e8 h), by rw [pq.length_eq]; omega, fun p hp => by have := lt p (pq.mem_iff.mp hp); omega, fun H' e' => q _ H' ((e16.trans e8).trans e') (((hb6.mono e8).mono e').up (by omega)) (tx_line (by omega) (fun p hp => by have := lt p (pq.mem_iff.mp hp); omega) (by rw [pq.length_eq]; omega))⟩
    · rw [decide_eq_false c5]
      refine iteF ⟨_, rfl, ?_⟩
      exact ⟨_, _, rfl, k + 1, P, ts, qs, rfl, by omega, rfl, SqL.of hP6, tp_dqs tp6, by omega, fun p hp => by have := lt p hp; omega, fun H' e' => q _ H' (e16.trans e') ((hb6.mono e').up (by omega)) (tx_line (by omega) (fun p hp => by have := lt p hp; omega) (by omega))⟩
end

end T1

namespace T1
open PySem PySem.Spec PyProof.Rows L2 G
open Evl (Ex)
local macro_rules | `(tactic| walk_at "dd") => `(tactic| (dsimp only [tCB, tCons, tNil, tC, tOp, tUn, tTest, tB, tVar, tAndV, tOrV, tNotV, tIf, tAnd, tOr, tNot, tSeq, tRet, tRetN, tIfS, tAsg, gName, tDrop, tTup, tLst, tChain, tNext, tCall, L2.start]))
open M (at_)
theorem ifs_split {c : L2.TT} {a u : TS} {D : Ends} {σ : L2.St} {H : Hp} (S : L2.St → Hp → Prop) (hr : ∀ σ1 H1, S σ1 H1 → u D σ1 H1) (h : ∀ R : L2.St → Hp → Prop, (∀ σ1 H1, S σ1 H1 → R σ1 H1) → c σ H fun b H1 => if b = true then a { D with nx := R } σ H1 else R σ H1) : tSeq (tIfS c a tNext) u D σ H := h (u D) hr
theorem Tx8.up {a b : Nat} {x : Str} (h : Tx8 a x) (l : a ≤ b) : Tx8 b x := ⟨Nat.le_trans h.ln l, h.as⟩
theorem Tx8.app {a b : Nat} {x y : Str} (h : Tx8 a x) (g : Tx8 b y) : Tx8 (a + b) (x ++ y) := ⟨by rw [TT.len_app]; have := h.ln; have := g.ln; omega, TT.asc_app h.as g.as⟩
theorem Tx8.cut {a : Nat} {x : Str} (lo hi : Option Int) (h : Tx8 a x) : Tx8 a (cutS x lo hi) := ⟨Nat.le_trans (cutS_length x lo hi) h.ln, TT.asc_cut lo hi h.as⟩
/-- words, M the sum of their lengths and their number at most -/
structure Wds (M : Nat) (ps : List Str) : Prop where
  ln : (ps.map (·.length)).sum + ps.length ≤ M
  as : ∀ p ∈ ps, TT.Asc p
theorem Wds.up {a b : Nat} {ps : List Str} (h : Wds a ps) (l : a ≤ b) : Wds b ps := ⟨Nat.le_trans h.ln l, h.as⟩
theorem sum_mem {ps : List Str} {p : Str} (h : p ∈ ps) : p.length ≤ (ps.map (·.length)).sum := by
  induction ps with
  | nil => cases h
  | cons a ps ih =>
    simp only [List.sum_cons, List.map_cons]
    obtain rfl | h := List.mem_cons.mp h
    · omega
    · have := ih h; omega
theorem Wds.set {M L i : Nat} {ps : List Str} {p : Str} (h : Wds M ps) (l : p.length ≤ L) (a : TT.Asc p) : Wds (M + L) (ps.set i p) := by
  refine ⟨?_, fun q hq => (List.mem_or_eq_of_mem_set hq).elim (h.as q) fun e => e ▸ a⟩
  have z : ∀ (ps : List Str) (i : Nat), ((ps.set i p).map (·.length)).sum ≤ (ps.map (·.length)).sum + p.length := fun ps => by
    induction ps with
    | nil => intro i; simp
    | cons q ps ih =>
      intro i
      cases i with
      | zero => simp only [List.set_cons_zero, List.map_cons, List.sum_cons]; omega
      | succ i => simp only [List.set_cons_succ, List.map_cons, List.sum_cons]; have := ih i; omega
  have := z ps i
  have := h.ln
  rw [List.length_set]; omega
theorem sum_take_drop (ps : List Str) (i : Nat) : ((ps.take i).map (·.length)).sum + ((ps.drop i).map (·.length)).sum = (ps.map (·.length)).sum := by
  conv => rhs; rw [← List.take_append_drop i ps]
  rw [List.map_append, List.sum_append]
theorem sum_drop_le (ps : List Str) (i : Nat) : ((ps.drop i).map (·.length)).sum ≤ (ps.map (·.length)).sum := by have := sum_take_drop ps i; omega
theorem sum_take_le (ps : List Str) (i : Nat) : ((ps.take i).map (·.length)).sum ≤ (ps.map (·.length)).sum := by have := sum_take_drop ps i; omega
theorem Wds.dbl {M i : Nat} {ps : List Str} {p : Str} (h : Wds M ps) (hp : p ∈ ps) : Wds (M + M) (ps.take i ++ [p] ++ ps.drop i) := by
  refine ⟨?_, fun q hq => ?_⟩
  · have a := sum_take_drop ps i
    have b := sum_mem hp
    have c := h.ln
    have l : (ps.take i).length + (ps.drop i).length = ps.length := by rw [← List.length_append, List.take_append_drop]
    have pl : 1 ≤ ps.length := List.length_pos_of_mem hp
    simp only [List.map_append, List.sum_append, List.map_cons, List.map_nil, List.sum_cons, List.sum_nil, List.length_append, List.length_cons, List.length_nil]
    omega
  · obtain hq | hq := List.mem_append.mp hq
    · obtain hq | hq := List.mem_append.mp hq
      · exact h.as q (List.mem_of_mem_take hq)
      · rw [List.mem_singleton.mp hq]; exact h.as p hp
    · exact h.as q (List.mem_of_mem_drop hq)
theorem Wds.out {M i : Nat} {ps : List Str} (h : Wds M ps) : Wds M (ps.take i ++ ps.drop (i + 1)) := by
  refine ⟨?_, fun q hq => (List.mem_append.mp hq).elim (fun m => h.as q (List.mem_of_mem_take m)) fun m => h.as q (List.mem_of_mem_drop m)⟩
  have a := sum_take_drop ps i
  have b : ((ps.drop (i + 1)).map (·.length)).sum ≤ ((ps.drop i).map (·.length)).sum := by
    rw [← List.drop_drop]
    exact sum_drop_le (ps.drop i) 1
  have c := h.ln
  have l : (ps.take i).length + (ps.drop (i + 1)).length ≤ ps.length := by rw [List.length_take, List.length_drop]; omega
  simp only [List.map_append, List.sum_append, List.length_append]
  omega
theorem Wds.join {M : Nat} {ps : List Str} (h : Wds M ps) : Tx8 M (Txt.join " " ps) := ⟨Nat.le_trans (TT.join_len ps) (by
  have : (" " : Str).length = 1 := rfl
  rw [this]
  have := h.ln
  omega), TT.asc_join TT.asc_blank h.as⟩
theorem Wds.split {L : Nat} {z : Str} (h : Tx8 L z) : Wds (L + 1) (Txt.split z " ") := ⟨Nat.le_trans (TT.split_sum TT.tl_blank (by decide) z) (by have := h.ln; omega), TT.asc_split TT.tl_blank (by decide) h.as⟩
theorem cut_take {α : Type} (f : α → V) (l : List α) (i : Nat) : cutV (l.map f) none (some (i : Int)) = (l.take i).map f := by
  unfold cutV
  rw [HT.sIx_none, HT.sIx_nat, List.drop_zero, Nat.sub_zero, List.map_take, List.length_map]
  by_cases c : i ≤ l.length
  · rw [Nat.min_eq_left c]
  · rw [Nat.min_eq_right (by omega), List.take_of_length_le (by simp), List.take_of_length_le (by rw [List.length_map]; omega)]
theorem cut_drop {α : Type} (f : α → V) (l : List α) (i : Nat) : cutV (l.map f) (some (i : Int)) none = (l.drop i).map f := by
  unfold cutV
  rw [HT.sIx_none, HT.sIx_nat, List.map_drop, List.length_map]
  have e : (l.map f).drop (min i l.length) = (l.map f).drop i := by
    by_cases c : i ≤ l.length
    · rw [Nat.min_eq_left c]
    · rw [Nat.min_eq_right (by omega), List.drop_of_length_le (by simp), List.drop_of_length_le (by rw [List.length_map]; omega)]
  rw [e]
  exact List.take_of_length_le (by rw [List.length_drop, List.length_map]; omega)

end T1

namespace T1
open PySem PySem.Spec PyProof.Rows L2 G
open Evl (Ex)
local macro_rules | `(tactic| walk_at "dd") => `(tactic| (dsimp only [tCB, tCons, tNil, tC, tOp, tUn, tTest, tB, tVar, tAndV, tOrV, tNotV, tIf, tAnd, tOr, tNot, tSeq, tRet, tRetN, tIfS, tAsg, gName, tDrop, tTup, tLst, tChain, tNext, tCall, L2.start]))
open M (at_)
def sp__law_changed (K : PySem.W.Frag) : Sp := sp3 fun a b t H Q E => ∃ (A : Addr) (c n : Nat) (rs : List (Nat × Nat)) (z : Str), a = .ref A ∧ c ≤ 800000 ∧ BoxAt H A c ∧ WorldAt K (L2.del H A) b n rs ∧ t = .str z ∧ Tx8 100 z ∧ 1 ≤ z.length ∧ ∀ z' H', Ex (L2.del H A) H' → BoxAt H' A (c + 30) → Tx8 500 z' → Q (.str z') H'
section
variable {K : PySem.W.Frag} {mg : Str → Option Value} {P : Program} {w : World} {base : Heap}
theorem ok__law_changed (T : Tx K mg) : Cal P w K mg base CX0 5 "_law_changed" ["_law_box_here", "_law_world_here", "_law_text"] (sp__law_changed K) := by
  refine cal_of (fD__law_changed T) (T.glo 32 rfl) sc__law_changed (fun _ _ _ _ _ _ us hl => match us, hl with | [_, _, _], _ => rfl) (fun vs H Q E h => len3 h) (fun f cdv A outer s H vs Q E hr h => ?_)
  obtain ⟨a, b, c, rfl, h⟩ := h
  refine ⟨_, (PSs.nox (pss_cons (ps_par (i := 3) (j := 4) rfl sc__law_changed.nd rfl rfl (by decide) rfl rfl (pa_cons (pe_c (ok__law_take T) (hr.mono (by decide)) rfl pass0 (pa_cons (pv 0) (pa_cons pe_int pa_nil))) (pa_cons (pe_c (ok__law_take T) (hr.mono (by decide)) rfl pass0 (pa_cons (pv 0) (pa_cons (pe_callB call_len_str (by rfl) (T.free 6 rfl) (by decide +kernel) (pa_cons (pv 2) pa_nil)) pa_nil))) pa_nil)) (by rfl))
      (pss_cons (ps_set (i := 5) sc__law_changed.nd rfl (Or.inl rfl) (pe_split (pv 2) pe_str))
      (pss_cons (ps_par (i := 6) (j := 7) rfl sc__law_changed.nd rfl rfl (by decide) rfl rfl (pa_cons (pe_c (ok__law_take T) (hr.mono (by decide)) rfl pass0 (pa_cons (pv 0) (pa_cons (pe_callB (call_lenK (K := K)) (by rfl) (T.free 6 rfl) (by decide +kernel) (pa_cons (pv 5) pa_nil)) pa_nil))) (pa_cons (pe_c (ok__law_take T) (hr.mono (by decide)) rfl pass0 (pa_cons (pv 0) (pa_cons (pe_callB (call_lenK (K := K)) (by rfl) (T.free 6 rfl) (by decide +kernel) (pa_cons (pv 5) pa_nil)) pa_nil))) pa_nil)) (by rfl))
      (pss_cons (ps_if (pt_cmpR op_eq (pv 3) pe_int (nomark _)) (pss_cons (ps_set (i := 4) sc__law_changed.nd rfl (Or.inl rfl) (pe_c (ok__law_take T) (hr.mono (by decide)) rfl pass0 (pa_cons (pv 0) (pa_cons (pe_op op_add (pe_callB call_len_str (by rfl) (T.free 6 rfl) (by decide +kernel) (pa_cons (pv 2) pa_nil)) pe_int) pa_nil))))
      (pss_one (ps_ret (pe_op op_add_str (pe_op op_add_str (pe_slice sl_str (pv 2) po_none (po_some (pv 4))) (pe_c (ok__law_sign T) (hr.mono (by decide)) rfl pass0 (pa_cons (pv 0) pa_nil))) (pe_slice sl_str (pv 2) (po_some (pv 4)) po_none))))) pss_nil)
      (pss_cons (ps_if (pt_cmpR op_eq (pv 3) pe_int (nomark _)) (pss_one (ps_ret (pe_op op_add_str (pe_slice sl_str (pv 2) po_none (po_some (pv 4))) (pe_slice sl_str (pv 2) (po_some (pe_op op_add (pv 4) pe_int)) po_none)))) pss_nil)
      (pss_cons (ps_if (pt_cmpR op_eq (pv 3) pe_int (nomark _)) (pss_one (ps_ret (pe_op op_add_str (pe_op op_add_str (pe_slice sl_str (pv 2) po_none (po_some (pv 4))) (pe_c (ok__law_sign T) (hr.mono (by decide)) rfl pass0 (pa_cons (pv 0) pa_nil))) (pe_slice sl_str (pv 2) (po_some (pe_op op_add (pv 4) pe_int)) po_none)))) pss_nil)
      (pss_cons (ps_if (pt_cmpR op_eq (pv 3) pe_int (nomark _)) (pss_one (ps_ret (pe_op op_add_str (pe_op op_add_str (pe_op op_add_str (pe_slice sl_str (pv 2) po_none (po_some (pv 4))) (pe_slice sl_str (pv 2) (po_some (pe_op op_add (pv 4) pe_int)) (po_some (pe_op op_add (pv 4) pe_int)))) (pe_slice sl_str (pv 2) (po_some (pv 4)) (po_some (pe_op op_add (pv 4) pe_int)))) (pe_slice sl_str (pv 2) (po_some (pe_op op_add (pv 4) pe_int)) po_none)))) pss_nil)
      (pss_cons (ps_if (pt_cmpR op_eq (pv 3) pe_int (nomark _)) (pss_cons (ps_set (i := 8) sc__law_changed.nd rfl (Or.inl rfl) (pe_ix (ix_listK (K := K)) (pv 5) (pv 6) (fun _ _ => rfl)))
      (pss_cons (ps_asg (pe_ix (ix_listK (K := K)) (pv 5) (pv 7) (fun _ _ => rfl)) (pg_sub (pv 5) (pv 6) set_list))
      (pss_one (ps_asg (pv 8) (pg_sub (pv 5) (pv 7) set_list))))) pss_nil)
      (pss_cons (ps_if (pt_cmpR op_eq (pv 3) pe_int (nomark _)) (pss_one (ps_set (i := 5) sc__law_changed.nd rfl (Or.inl rfl) (pe_op op_cat (pe_op op_cat (pe_slice (sl_listK (K := K)) (pv 5) po_none (po_some (pv 6))) (pe_lst (pa_cons (pe_ix (ix_listK (K := K)) (pv 5) (pv 6) (fun _ _ => rfl)) pa_nil))) (pe_slice (sl_listK (K := K)) (pv 5) (po_some (pv 6)) po_none)))) pss_nil)
      (pss_cons (ps_if (pt_cmpR op_eq (pv 3) pe_int (nomark _)) (pss_one (ps_set (i := 5) sc__law_changed.nd rfl (Or.inl rfl) (pe_op op_cat (pe_slice (sl_listK (K := K)) (pv 5) po_none (po_some (pv 6))) (pe_slice (sl_listK (K := K)) (pv 5) (po_some (pe_op op_add (pv 6) pe_int)) po_none)))) pss_nil)
      (pss_cons (ps_if (PW.pt (pw_or (pt_cmpR op_eq (pv 3) pe_int (nomark _)) (pw_or1 (pt_cmpR op_eq (pv 3) pe_int (nomark _))))) (pss_one (ps_ret (pe_c (ok__law_moved T) (hr.mono (by decide)) rfl pass0 (pa_cons (pv 0) (pa_cons (pv 1) pa_nil))))) pss_nil)
      (pss_cons (ps_if (pt_cmpR op_eq (pv 3) pe_int (nomark _)) (pss_one (ps_ret (pe_c (ok__law_loose T) (hr.mono (by decide)) rfl pass0 (pa_cons (pv 0) pa_nil)))) pss_nil)
      (pss_one (ps_ret (pe_ifExp (pt_cmpR op_gt (pe_c (ok__law_take T) (hr.mono (by decide)) rfl pass0 (pa_cons (pv 0) (pa_cons pe_int pa_nil))) pe_int (nomark _)) (pe_joinK (K := K) pe_str (pv 5)) (pe_op op_add_str (pv 2) pe_str))))))))))))))))), ?_⟩
  obtain ⟨A, c, n, rs, z, rfl, c9, hb, wo, rfl, tz, z1, q⟩ := h
  have zl := tz.ln
  have zs : z.length ≤ sizeLine := Nat.le_of_lt (line_big (by omega))
  have sz : ∀ {a b : Nat} {x y : Str}, Tx8 a x → Tx8 b y → a + b ≤ 5000 → x.length + y.length ≤ sizeLine := fun h g l => Nat.le_of_lt (line_big (by have := h.ln; have := g.ln; omega))
  have e0 : Ex (L2.del H A) H := Ex.ofDel
  have tcut := fun lo hi => Tx8.cut (a := 100) lo hi tz
  have ws0 := Wds.split tz
  have wne := TT.split_ne TT.tl_blank (by decide) z
  have eone : ∀ k : Nat, V.int ((k : Int) + 1) = V.int ((k + 1 : Nat) : Int) := fun k => by rw [show ((k : Int) + 1) = ((k + 1 : Nat) : Int) by omega]
  refine seq_at ?_
  refine ⟨_, rfl, _, _, rfl, A, 10, c, rfl, rfl, by decide, by decide, by omega, hb, fun w1 H1 hw1 e1 hb1 => ⟨_, rfl, _, rfl, z, rfl, zs, _, _, rfl, A, z.length, c + 1, rfl, rfl, z1, by omega, by omega, hb1, fun i H2 hi e2 hb2 => ⟨_, _, rfl, ?_⟩⟩⟩
  have e02 := ex_of_del e1 del_same e2
  dsimp only
  refine seq_at (asg_at ?_)
  refine ⟨_, rfl, ⟨_, rfl⟩, z, Str.ofString " ", rfl, rfl, rfl, by have := line_big (n := z.length + 2) (by omega); omega, fun W hW => ?_⟩
  obtain ⟨l2, hl2⟩ := hb2.some
  have WA : W ≠ A := (ne_of_none hl2 hW).symm
  have e03 : Ex (L2.del H A) (upd H2 W (.lst ((Txt.split z (Str.ofString " ")).map V.str))) := e02.trans (Ex.new hW)
  have hb3 := hb2.mono (Ex.new (o := .lst ((Txt.split z (Str.ofString " ")).map V.str)) hW)
  have hW3 : (upd H2 W (.lst ((Txt.split z (Str.ofString " ")).map V.str))) W = some (.lst ((Txt.split z (Str.ofString " ")).map V.str)) := upd_same
  have nW : L2.del H A W = none := Evl.fresh_back e02 hW
  generalize (upd H2 W (.lst ((Txt.split z (Str.ofString " ")).map V.str))) = H3 at e03 hb3 hW3 ⊢
  generalize Txt.split z (Str.ofString " ") = ps at hW3 ws0 wne ⊢
  have pl : 1 ≤ ps.length ∧ ps.length ≤ 101 := by
    have := ws0.ln
    exact ⟨by cases ps with
      | nil => exact absurd rfl wne
      | cons => simp, by omega⟩
  dsimp only [gName]
  refine seq_at ?_
  refine ⟨_, rfl, _, rfl, W, _, rfl, .inl (SqL.of hW3), _, _, rfl, A, ps.length, c + 2, rfl, by rw [List.length_map], pl.1, by omega, by omega, hb3, fun o H4 ho e4 hb4 => ?_⟩
  have hW4 := del_get e4 WA hW3
  refine ⟨_, rfl, _, rfl, W, _, rfl, .inl (SqL.of hW4), _, _, rfl, A, ps.length, c + 3, rfl, by rw [List.length_map], pl.1, by omega, by omega, hb4, fun o2 H5 ho2 e5 hb5 => ⟨_, _, rfl, ?_⟩⟩
  have hW5 := del_get e5 WA hW4
  have e05 := ex_of_del (ex_of_del e03 del_same e4) del_same e5
  have wo5 : WorldAt K (L2.del H5 A) (b) n rs := wo.mono fun x y hxy => by
    have ne : x ≠ A := fun q => by rw [q, del_same] at hxy; cases hxy
    rw [del_ne ne]; exact e05 x y hxy
  have done : ∀ z' H', Ex H5 H' → Tx8 500 z' → Q (.str z') H' := fun z' H' e' t' => q z' H' (e05.trans e') ((hb5.mono e').up (by omega)) t'
  dsimp only
  refine seq_at (ifs_at ⟨_, rfl, rfl, _, rfl, ?_⟩)
  by_cases k0 : w1 = 0
  · rw [decide_eq_true (show V.int (w1 : Int) = V.int 0 by rw [k0]; rfl)]
    refine iteT ?_
    refine seq_at (asg_at ?_)
    refine ⟨_, rfl, _, rfl, z, rfl, zs, _, _, rfl, rfl, _, _, rfl, A, z.length + 1, c + 4, rfl, eone _, by omega, by omega, by omega, hb5, fun j H6 hj e6 hb6 => ?_⟩
    dsimp only [gName]
    refine ret_at ?_
    refine ⟨_, rfl, _, rfl, _, rfl, z, rfl, zs, _, rfl, _, rfl, A, c + 5, rfl, by omega, hb6, fun s7 H7 e7 hb7 ts7 => ?_⟩
    have a1 := (tcut none (some (j : Int))).app ts7
    refine ⟨_, _, rfl, rfl, sz (tcut _ _) ts7 (by omega), _, rfl, _, rfl, _, rfl, z, rfl, zs, _, _, rfl, rfl, sz a1 (tcut _ _) (by omega), ?_⟩
    exact q _ H7 (ex_of_del (ex_of_del e05 del_same e6) del_same e7) (hb7.up (by omega)) ((a1.app (tcut _ _)).up (by omega))
  rw [decide_eq_false (show ¬ V.int (w1 : Int) = V.int 0 from fun z => k0 (by have := V.int.inj z; omega))]
  refine iteF ?_
  dsimp only [tNext]
  refine seq_at (ifs_at ⟨_, rfl, rfl, _, rfl, ?_⟩)
  by_cases k1 : w1 = 1
  · rw [decide_eq_true (show V.int (w1 : Int) = V.int 1 by rw [k1]; rfl)]
    refine iteT (ret_at ?_)
    refine ⟨_, rfl, _, rfl, _, rfl, z, rfl, zs, _, rfl, _, rfl, _, _, rfl, rfl, _, rfl, z, rfl, zs, _, _, rfl, rfl, sz (tcut _ _) (tcut _ _) (by omega), ?_⟩
    exact done _ _ (Ex.refl _) (((tcut _ _).app (tcut _ _)).up (by omega))
  rw [decide_eq_false (show ¬ V.int (w1 : Int) = V.int 1 from fun z => k1 (by have := V.int.inj z; omega))]
  refine iteF ?_
  dsimp only [tNext]
  refine seq_at (ifs_at ⟨_, rfl, rfl, _, rfl, ?_⟩)
  by_cases k2 : w1 = 2
  · rw [decide_eq_true (show V.int (w1 : Int) = V.int 2 by rw [k2]; rfl)]
    refine iteT (ret_at ?_)
    refine ⟨_, rfl, _, rfl, _, rfl, z, rfl, zs, _, rfl, _, rfl, A, c + 4, rfl, by omega, hb5, fun s7 H7 e7 hb7 ts7 => ?_⟩
    have a1 := (tcut none (some (i : Int))).app ts7
    refine ⟨_, _, rfl, rfl, sz (tcut _ _) ts7 (by omega), _, rfl, _, rfl, _, _, rfl, rfl, _, rfl, z, rfl, zs, _, _, rfl, rfl, sz a1 (tcut _ _) (by omega), ?_⟩
    exact q _ H7 (ex_of_del e05 del_same e7) (hb7.up (by omega)) ((a1.app (tcut _ _)).up (by omega))
  rw [decide_eq_false (show ¬ V.int (w1 : Int) = V.int 2 from fun z => k2 (by have := V.int.inj z; omega))]
  refine iteF ?_
  dsimp only [tNext]
  refine seq_at (ifs_at ⟨_, rfl, rfl, _, rfl, ?_⟩)
  by_cases k3 : w1 = 3
  · rw [decide_eq_true (show V.int (w1 : Int) = V.int 3 by rw [k3]; rfl)]
    refine iteT (ret_at ?_)
    refine ⟨_, rfl, _, rfl, _, rfl, z, rfl, zs, _, rfl, _, rfl, _, _, rfl, rfl, _, rfl, _, rfl, _, _, rfl, rfl, _, rfl, z, rfl, zs, _, _, rfl, rfl, sz (tcut _ _) (tcut _ _) (by omega), ?_⟩
    have a1 := (tcut none (some (i : Int))).app (tcut (some ((i : Int) + 1)) (some ((i : Int) + 2)))
    refine ⟨_, rfl, _, rfl, _, rfl, _, rfl, _, _, rfl, rfl, _, rfl, z, rfl, zs, _, _, rfl, rfl, sz a1 (tcut _ _) (by omega), ?_⟩
    have a2 := a1.app (tcut (some (i : Int)) (some ((i : Int) + 1)))
    refine ⟨_, rfl, _, rfl, _, _, rfl, rfl, _, rfl, z, rfl, zs, _, _, rfl, rfl, sz a2 (tcut _ _) (by omega), ?_⟩
    exact done _ _ (Ex.refl _) ((a2.app (tcut _ _)).up (by omega))
  rw [decide_eq_false (show ¬ V.int (w1 : Int) = V.int 3 from fun z => k3 (by have := V.int.inj z; omega))]
  refine iteF ?_
  dsimp only [tNext]
  have tz5 : ∀ {M : Nat} {p : Str} {qs : List Str}, Wds M qs → p ∈ qs → p.length ≤ M := fun h m => by have := sum_mem m; have := h.ln; omega
  obtain ⟨p1, hp1⟩ : ∃ p, ps[o]? = some p := ⟨_, List.getElem?_eq_getElem ho⟩
  obtain ⟨p2, hp2⟩ : ∃ p, ps[o2]? = some p := ⟨_, List.getElem?_eq_getElem ho2⟩
  have m1 := List.mem_of_getElem? hp1
  have m2 := List.mem_of_getElem? hp2
  have v1 : (ps.map V.str)[o]? = some (.str p1) := by rw [List.getElem?_map, hp1]; rfl
  have v2 : (ps.map V.str)[o2]? = some (.str p2) := by rw [List.getElem?_map, hp2]; rfl
  refine ifs_split (fun σ' H' => ∃ (W' : Addr) (qs : List Str) (s8 : Option V), σ' = [some (.ref A), some b, some (.str z), some (.int (w1 : Int)), some (.int (i : Int)), some (.ref W'), some (.int (o : Int)), some (.int (o2 : Int)), s8] ∧ Ex (L2.del H A) H' ∧ BoxAt H' A (c + 4) ∧ H' W' = some (.lst (qs.map V.str)) ∧ Wds (if w1 = 4 then 303 else 101) qs ∧ o < qs.length ∧ W' ≠ A) ?_ ?_
  rotate_left
  · intro R hR
    refine ⟨_, rfl, rfl, _, rfl, ?_⟩
    by_cases k4 : w1 = 4
    rotate_left
    · rw [decide_eq_false (show ¬ V.int (w1 : Int) = V.int 4 from fun z => k4 (by have := V.int.inj z; omega))]
      refine iteF ?_
      exact hR _ _ ⟨W, ps, _, rfl, e05, hb5, hW5, by rw [if_neg k4]; exact ws0, ho, WA⟩
    rw [decide_eq_true (show V.int (w1 : Int) = V.int 4 by rw [k4]; rfl)]
    refine iteT ?_
    refine seq_at (asg_at ?_)
    refine ⟨_, rfl, _, rfl, W, _, _, _, rfl, rfl, SqL.of hW5, atI_nat v1, ?_⟩
    dsimp only [gName]
    refine seq_at (asg_at ?_)
    refine ⟨_, rfl, _, rfl, W, _, _, _, rfl, rfl, SqL.of hW5, atI_nat v2, _, rfl, _, rfl, W, _, _, o, rfl, rfl, hW5, Evl.ixN_nat (by rw [List.length_map]; exact ho), ?_⟩
    have e6 := Evl.Ex.mut (o := .lst ((ps.map V.str).set o (.str p2))) e05 nW
    have hW6 : (upd H5 W (.lst ((ps.map V.str).set o (.str p2)))) W = some (.lst ((ps.map V.str).set o (.str p2))) := upd_same
    have hb6 : BoxAt (upd H5 W (.lst ((ps.map V.str).set o (.str p2)))) A (c + 4) := by
      obtain ⟨x0, b0, y0, k0, z, r⟩ := hb5
      exact ⟨x0, b0, y0, k0, by rw [upd_ne WA.symm]; exact z, r⟩
    generalize (upd H5 W (.lst ((ps.map V.str).set o (.str p2)))) = H6 at e6 hW6 hb6 ⊢
    dsimp only
    refine asg_at ?_
    refine ⟨_, rfl, _, rfl, _, rfl, W, _, _, o2, rfl, rfl, hW6, Evl.ixN_nat (by rw [List.length_set, List.length_map]; exact ho2), ?_⟩
    refine hR _ _ ⟨W, (ps.set o p2).set o2 p1, _, rfl, Evl.Ex.mut e6 nW, ?_, by rw [upd_same, List.map_set, List.map_set], ?_, by rw [List.length_set, List.length_set]; exact ho, WA⟩
    · obtain ⟨x0, b0, y0, k0, z, r⟩ := hb6
      exact ⟨x0, b0, y0, k0, by rw [upd_ne WA.symm]; exact z, r⟩
    · rw [if_pos k4]
      exact ((ws0.set (tz5 ws0 m2) (ws0.as _ m2)).set (tz5 ws0 m1) (ws0.as _ m1)).up (by omega)
  rintro _ H6 ⟨W6, qs, s8, rfl, e6, hb6, hW6, wd6, ho6, WA6⟩
  refine ifs_split (fun σ' H' => ∃ (W' : Addr) (qs : List Str) (s8 : Option V), σ' = [some (.ref A), some b, some (.str z), some (.int (w1 : Int)), some (.int (i : Int)), some (.ref W'), some (.int (o : Int)), some (.int (o2 : Int)), s8] ∧ Ex (L2.del H A) H' ∧ BoxAt H' A (c + 4) ∧ H' W' = some (.lst (qs.map V.str)) ∧ Wds 303 qs ∧ W' ≠ A) ?_ ?_
  rotate_left
  · intro R hR
    refine ⟨_, rfl, rfl, _, rfl, ?_⟩
    by_cases k5 : w1 = 5
    rotate_left
    · rw [decide_eq_false (show ¬ V.int (w1 : Int) = V.int 5 from fun z => k5 (by have := V.int.inj z; omega))]
      refine iteF ?_
      exact hR _ _ ⟨W6, qs, _, rfl, e6, hb6, hW6, wd6.up (by split <;> omega), WA6⟩
    rw [decide_eq_true (show V.int (w1 : Int) = V.int 5 by rw [k5]; rfl)]
    rw [if_neg (show ¬ w1 = 4 by omega)] at wd6
    have ql : qs.length ≤ 101 := by have := wd6.ln; omega
    obtain ⟨p6, hp6⟩ : ∃ p, qs[o]? = some p := ⟨_, List.getElem?_eq_getElem ho6⟩
    have v6 : (qs.map V.str)[o]? = some (.str p6) := by rw [List.getElem?_map, hp6]; rfl
    refine iteT (asg_at ?_)
    refine ⟨_, rfl, _, rfl, _, rfl, W6, _, rfl, SqL.of hW6, fun a1 ha1 => ?_⟩
    rw [cut_take]
    have e7 := Ex.new (o := .lst ((qs.take o).map V.str)) ha1
    have h7 : (upd H6 a1 (.lst ((qs.take o).map V.str))) a1 = some (.lst ((qs.take o).map V.str)) := upd_same
    generalize (upd H6 a1 (.lst ((qs.take o).map V.str))) = H7 at e7 h7 ⊢
    refine ⟨_, rfl, _, rfl, W6, _, _, _, rfl, rfl, SqL.of (e7 _ _ hW6), atI_nat v6, (by show 1 ≤ sizeLine; exact Nat.le_of_lt (line_big (by omega))), fun a2 ha2 => ?_⟩
    have e8 := Ex.new (o := .lst [V.str p6]) ha2
    have h8 : (upd H7 a2 (.lst [V.str p6])) a2 = some (.lst ([p6].map V.str)) := upd_same
    generalize (upd H7 a2 (.lst [V.str p6])) = H8 at e8 h8 ⊢
    refine ⟨a1, a2, _, _, rfl, rfl, e8 _ _ h7, h8, Nat.le_of_lt (line_big (by simp; omega)), fun a3 ha3 => ?_⟩
    rw [← List.map_append]
    have e9 := Ex.new (o := .lst ((qs.take o ++ [p6]).map V.str)) ha3
    have h9 : (upd H8 a3 (.lst ((qs.take o ++ [p6]).map V.str))) a3 = some (.lst ((qs.take o ++ [p6]).map V.str)) := upd_same
    generalize (upd H8 a3 (.lst ((qs.take o ++ [p6]).map V.str))) = H9 at e9 h9 ⊢
    refine ⟨_, rfl, _, rfl, _, rfl, W6, _, rfl, SqL.of (e9 _ _ (e8 _ _ (e7 _ _ hW6))), fun a4 ha4 => ?_⟩
    rw [cut_drop]
    have e10 := Ex.new (o := .lst ((qs.drop o).map V.str)) ha4
    have h10 : (upd H9 a4 (.lst ((qs.drop o).map V.str))) a4 = some (.lst ((qs.drop o).map V.str)) := upd_same
    generalize (upd H9 a4 (.lst ((qs.drop o).map V.str))) = H10 at e10 h10 ⊢
    refine ⟨a3, a4, _, _, rfl, rfl, e10 _ _ h9, h10, Nat.le_of_lt (line_big (by simp; omega)), fun a5 ha5 => ?_⟩
    rw [← List.map_append]
    have ee := ((e7.trans e8).trans e9).trans (e10.trans (Ex.new (o := .lst ((qs.take o ++ [p6] ++ qs.drop o).map V.str)) ha5))
    obtain ⟨lb, hlb⟩ := (hb6.mono (((e7.trans e8).trans e9).trans e10)).some
    exact hR _ _ ⟨a5, qs.take o ++ [p6] ++ qs.drop o, _, rfl, e6.trans ee, hb6.mono ee, upd_same, (wd6.dbl (List.mem_of_getElem? hp6)).up (by omega), (ne_of_none hlb ha5).symm⟩
  rintro _ H7 ⟨W7, ws, s8, rfl, e7, hb7, hW7, wd7, WA7⟩
  refine ifs_split (fun σ' H' => ∃ (W' : Addr) (qs : List Str) (s8 : Option V), σ' = [some (.ref A), some b, some (.str z), some (.int (w1 : Int)), some (.int (i : Int)), some (.ref W'), some (.int (o : Int)), some (.int (o2 : Int)), s8] ∧ Ex (L2.del H A) H' ∧ BoxAt H' A (c + 4) ∧ H' W' = some (.lst (qs.map V.str)) ∧ Wds 303 qs ∧ W' ≠ A) ?_ ?_
  rotate_left
  · intro R hR
    refine ⟨_, rfl, rfl, _, rfl, ?_⟩
    by_cases k6 : w1 = 6
    rotate_left
    · rw [decide_eq_false (show ¬ V.int (w1 : Int) = V.int 6 from fun z => k6 (by have := V.int.inj z; omega))]
      refine iteF ?_
      exact hR _ _ ⟨W7, ws, _, rfl, e7, hb7, hW7, wd7, WA7⟩
    rw [decide_eq_true (show V.int (w1 : Int) = V.int 6 by rw [k6]; rfl)]
    have ql : ws.length ≤ 303 := by have := wd7.ln; omega
    refine iteT (asg_at ?_)
    refine ⟨_, rfl, _, rfl, _, rfl, W7, _, rfl, SqL.of hW7, fun a1 ha1 => ?_⟩
    rw [cut_take]
    have e8 := Ex.new (o := .lst ((ws.take o).map V.str)) ha1
    have h8 : (upd H7 a1 (.lst ((ws.take o).map V.str))) a1 = some (.lst ((ws.take o).map V.str)) := upd_same
    generalize (upd H7 a1 (.lst ((ws.take o).map V.str))) = H8 at e8 h8 ⊢
    refine ⟨_, rfl, _, rfl, _, _, rfl, rfl, _, rfl, W7, _, rfl, SqL.of (e8 _ _ hW7), fun a2 ha2 => ?_⟩
    rw [show ((o : Int) + 1) = ((o + 1 : Nat) : Int) by omega, cut_drop]
    have e9 := Ex.new (o := .lst ((ws.drop (o + 1)).map V.str)) ha2
    have h9 : (upd H8 a2 (.lst ((ws.drop (o + 1)).map V.str))) a2 = some (.lst ((ws.drop (o + 1)).map V.str)) := upd_same
    generalize (upd H8 a2 (.lst ((ws.drop (o + 1)).map V.str))) = H9 at e9 h9 ⊢
    refine ⟨a1, a2, _, _, rfl, rfl, e9 _ _ h8, h9, Nat.le_of_lt (line_big (by simp; omega)), fun a3 ha3 => ?_⟩
    rw [← List.map_append]
    have ee := (e8.trans e9).trans (Ex.new (o := .lst ((ws.take o ++ ws.drop (o + 1)).map V.str)) ha3)
    obtain ⟨lb, hlb⟩ := (hb7.mono (e8.trans e9)).some
    exact hR _ _ ⟨a3, ws.take o ++ ws.drop (o + 1), _, rfl, e7.trans ee, hb7.mono ee, upd_same, wd7.out, (ne_of_none hlb ha3).symm⟩
  rintro _ H8 ⟨W8, us, s8, rfl, e8, hb8, hW8, wd8, WA8⟩
  have wo8 : WorldAt K (L2.del H8 A) b n rs := wo.mono fun x y hxy => by
    have ne : x ≠ A := fun q => by rw [q, del_same] at hxy; cases hxy
    rw [del_ne ne]; exact e8 x y hxy
  have last : ∀ {H'}, Ex (L2.del H8 A) H' → ∀ {k}, k ≤ 21 → BoxAt H' A (c + k) → ∀ {z'}, Tx8 500 z' → Q (.str z') H' := fun e' _ l hb' _ t' => q _ _ (ex_of_del e8 del_same e') (hb'.up (by omega)) t'
  refine seq_at (ifs_at ⟨_, rfl, rfl, _, rfl, ?_⟩)
  by_cases k7 : w1 = 7
  · rw [decide_eq_true (show V.int (w1 : Int) = V.int 7 by rw [k7]; rfl)]
    refine iteT (iteT (ret_at ?_))
    exact ⟨_, rfl, _, rfl, _, _, rfl, A, c + 4, n, rs, rfl, by omega, hb8, wo8, fun z' H' e' hb' t' => last e' (k := 7) (by omega) hb' (t'.up (by omega))⟩
  rw [decide_eq_false (show ¬ V.int (w1 : Int) = V.int 7 from fun z => k7 (by have := V.int.inj z; omega))]
  refine iteF ⟨_, rfl, rfl, _, rfl, ?_⟩
  by_cases k8 : w1 = 8
  · rw [decide_eq_true (show V.int (w1 : Int) = V.int 8 by rw [k8]; rfl)]
    refine iteT (ret_at ?_)
    exact ⟨_, rfl, _, rfl, _, _, rfl, A, c + 4, n, rs, rfl, by omega, hb8, wo8, fun z' H' e' hb' t' => last e' (k := 7) (by omega) hb' (t'.up (by omega))⟩
  rw [decide_eq_false (show ¬ V.int (w1 : Int) = V.int 8 from fun z => k8 (by have := V.int.inj z; omega))]
  refine iteF ?_
  dsimp only [tNext]
  refine seq_at (ifs_at ⟨_, rfl, rfl, _, rfl, ?_⟩)
  by_cases k9 : w1 = 9
  · rw [decide_eq_true (show V.int (w1 : Int) = V.int 9 by rw [k9]; rfl)]
    refine iteT (ret_at ?_)
    exact ⟨_, rfl, _, rfl, A, c + 4, rfl, by omega, hb8, fun z' H' e' hb' t' => last e' (k := 21) (by omega) hb' (t'.up (by omega))⟩
  rw [decide_eq_false (show ¬ V.int (w1 : Int) = V.int 9 from fun z => k9 (by have := V.int.inj z; omega))]
  refine iteF ?_
  dsimp only [tNext]
  refine ret_at ?_
  refine ⟨_, rfl, _, _, rfl, A, 5, c + 4, rfl, rfl, by decide, by decide, by omega, hb8, fun v H9 hv e9 hb9 => ?_⟩
  refine ⟨_, _, rfl, rfl, _, rfl, ?_⟩
  have hW9 := del_get e9 WA8 hW8
  by_cases c5 : (0 : Int) < (v : Int)
  · rw [decide_eq_true c5]
    refine iteT ⟨⟨_, rfl⟩, _, rfl, _, W8, us, rfl, rfl, .inl (SqL.of hW9), ?_, last e9 (k := 5) (by omega) hb9 (wd8.join.up (by omega))⟩
    have := wd8.ln
    have one : (Str.ofString " ").length = 1 := rfl
    rw [one]; omega
  · rw [decide_eq_false c5]
    have tb : Tx8 1 (Str.ofString " ") := ⟨Nat.le_refl 1, TT.asc_blank⟩
    exact iteF ⟨_, rfl, _, _, rfl, rfl, sz tz tb (by omega), last e9 (k := 5) (by omega) hb9 ((tz.app tb).up (by omega))⟩
end

end T1

namespace T1
open PySem PySem.Spec PyProof.Rows L2 G
open Evl (Ex)
local macro_rules | `(tactic| walk_at "dd") => `(tactic| (dsimp only [tCB, tCons, tNil, tC, tOp, tUn, tTest, tB, tVar, tAndV, tOrV, tNotV, tIf, tAnd, tOr, tNot, tSeq, tRet, tRetN, tIfS, tAsg, gName, tDrop, tTup, tLst, tChain, tNext, tCall, L2.start]))
open M (at_)
def sp__law_read (K : PySem.W.Frag) : Sp := sp2 fun a k H Q E => ∃ (d : PyData) (kk : Int), Dq K H a d ∧ k = .int kk ∧ (∀ z, d = .str z → z.length ≤ 500) ∧ ((∀ z, d = .str z → ¬ ∃ n rs, Reads z n rs) → ∀ l H', Ex H H' → H l = none → H' l = some (.lst [.str "line", a]) → Q (.ref l) H') ∧
  (∀ z n rs Fs t l H', d = .str z → Reads z n rs → Ex H H' → TreeAt K H' t n rs Fs → H t = none → H l = none → H' l = some (.lst [.str "told", .ref t]) → Q (.ref l) H')
section
variable {K : PySem.W.Frag} {mg : Str → Option Value} {P : Program} {w : World} {base : Heap}
theorem ok__law_read (T : Tx K mg) : Cal P w K mg base CX0 8 "_law_read" ["_law_text", "_law_kind"] (sp__law_read K) := by
  refine cal_of (fD__law_read T) (T.glo 33 rfl) sc__law_read (fun _ _ _ _ _ _ us hl => match us, hl with | [_, _], _ => rfl) (fun vs H Q E h => len2 h) (fun f cdv A outer s H vs Q E hr h => ?_)
  obtain ⟨a, b, rfl, h⟩ := h
  refine ⟨_, (PSs.nox (pss_one (ps_tryAs (i := 2) rfl rfl sc__law_read.nd rfl rfl (fun W pn xe tk po => (pss_one (ps_ret (pe_lst (pa_cons pe_str (pa_cons (pe_ifExp (pt_cmpR op_eq (pv 1) pe_int (nomark _)) (pe_cW (ok_read_tree T) (hr.mono (by decide)) rfl tk (pa_cons (pv 0) pa_nil)) (pe_ckW (ks := ["line"]) [0] (ok_read_tree T) (fD_read_tree T) (fun _ _ _ _ _ _ us ws h1 h2 => match us, ws, h1, h2 with | [], [_], _, _ => rfl) (hr.mono (by decide)) rfl tk (pk_cons (pv 0) pk_nil))) pa_nil)))))) (HdsAs.cons ⟨rfl, by decide, .inl (T.glo 4 rfl)⟩ (fun ax oe cls dx pn hz hf => (pss_one (ps_ret (pe_lst (pa_cons pe_str (pa_cons (pe_xf (T.err 3 rfl).xf ((T.err 3 rfl).no "given" (by simp)) hz hf (pv 2)) pa_nil)))))) HdsAs.nil)))), ?_⟩
  obtain ⟨d, kk, hd, rfl, hl, q1, q2⟩ := h
  refine ret_at ?_
  refine ⟨_, rfl, rfl, _, rfl, ?_⟩
  by_cases k0 : kk = 0
  · rw [decide_eq_true (show V.int kk = V.int 0 by rw [k0])]
    refine iteT ?_
    refine ⟨_, rfl, _, rfl, d, hd, hl, fun no d' H' e hx => ?_, fun z n rs Fs t H' ez R e tr ht => ⟨(by show 2 ≤ sizeLine; decide), fun l hl => q2 z n rs Fs t l _ ez R (e.trans (Ex.new hl)) (tr.mono (Ex.new hl)) ht (Evl.fresh_back e hl) upd_same⟩⟩
    exact ⟨true, T.exm (x := "InvalidLine") (y := "InvalidLine") 3 3 rfl rfl rfl, fun _ ax hax => ⟨_, rfl, rfl, rfl, d', _, _, rfl, hx, rfl, (by show 2 ≤ sizeLine; decide), fun l hl => q1 no l _ (e.trans (Ex.new hl)) (Evl.fresh_back e hl) upd_same⟩, fun z => (nomatch z)⟩
  · rw [decide_eq_false (show ¬ V.int kk = V.int 0 from fun z => k0 (V.int.inj z))]
    refine iteF ?_
    refine ⟨_, rfl, rfl, rfl, _, rfl, d, hd, hl, fun no d' H' e hx => ?_, fun z n rs Fs t H' ez R e tr ht => ⟨(by show 2 ≤ sizeLine; decide), fun l hl => q2 z n rs Fs t l _ ez R (e.trans (Ex.new hl)) (tr.mono (Ex.new hl)) ht (Evl.fresh_back e hl) upd_same⟩⟩
    exact ⟨true, T.exm (x := "InvalidLine") (y := "InvalidLine") 3 3 rfl rfl rfl, fun _ ax hax => ⟨_, rfl, rfl, rfl, d', _, _, rfl, hx, rfl, (by show 2 ≤ sizeLine; decide), fun l hl => q1 no l _ (e.trans (Ex.new hl)) (Evl.fresh_back e hl) upd_same⟩, fun z => (nomatch z)⟩
end

end T1

namespace T1
open PySem PySem.Spec PyProof.Rows L2 G
open Evl (Ex)
local macro_rules | `(tactic| walk_at "dd") => `(tactic| (dsimp only [tCB, tCons, tNil, tC, tOp, tUn, tTest, tB, tVar, tAndV, tOrV, tNotV, tIf, tAnd, tOr, tNot, tSeq, tRet, tRetN, tIfS, tAsg, gName, tDrop, tTup, tLst, tChain, tNext, tCall, L2.start]))
open M (at_)
theorem test_at {r : R2} {ta tb : TE} {σ : L2.St} {H : Hp} {Q : Bool → Hp → Prop} (h : ta σ H fun x H1 => tb σ H1 fun y H2 => r x y H2 fun z H' => ∃ k, z = .bl k ∧ Q k H') : tTest (tOp r ta tb) σ H Q := h
theorem op_at {r : R2} {ta tb : TE} {σ : L2.St} {H : Hp} {Q : VK} (h : ta σ H fun x H1 => tb σ H1 fun y H2 => r x y H2 Q) : tOp r ta tb σ H Q := h
theorem range_get {α : Type} (l : List α) (d : α) : (List.range l.length).map (fun i => l[i]?.getD d) = l := by
  refine List.ext_getElem? fun i => ?_
  rw [List.getElem?_map]
  by_cases c : i < l.length
  · rw [List.getElem?_range c, List.getElem?_eq_getElem c, Option.map_some, List.getElem?_eq_getElem c]; rfl
  · rw [List.getElem?_eq_none (Nat.le_of_not_lt c), List.getElem?_eq_none (by rw [List.length_range]; omega)]; rfl
theorem range_pick {α β : Type} (l : List α) (d : α) (f : α → Bool) (g : α → β) : ((List.range l.length).filter fun i => f (l[i]?.getD d)).map (fun i => g (l[i]?.getD d)) = (l.filter f).map g := by
  conv => rhs; rw [← range_get l d]
  simp only [List.filter_map, List.map_map]; rfl
theorem near_perm (rs : List (Nat × Nat)) (h : Nat) : ((rs.filter fun p => decide (p.2 = h)).map (·.1) ++ (rs.filter fun p => decide (p.1 = h)).map (·.2)).Perm (acc rs h) := by
  induction rs with
  | nil => exact .refl _
  | cons p rs ih =>
    have e : acc (p :: rs) h = ((if p.1 = h then [p.2] else []) ++ (if p.2 = h then [p.1] else [])) ++ acc rs h := by simp [acc]
    rw [e, List.filter_cons, List.filter_cons]
    by_cases c1 : p.1 = h
    · by_cases c2 : p.2 = h
      · rw [if_pos c1, if_pos c2, if_pos (by simpa using c2), if_pos (by simpa using c1), List.map_cons, List.map_cons]
        refine List.Perm.trans ?_ (List.Perm.append_left _ ih)
        simp only [List.cons_append, List.nil_append]
        exact (List.Perm.cons p.1 List.perm_middle).trans (List.Perm.swap p.2 p.1 _)
      · rw [if_pos c1, if_neg c2, if_neg (by simpa using c2), if_pos (by simpa using c1), List.map_cons]
        refine List.Perm.trans ?_ (List.Perm.append_left _ ih)
        simp only [List.append_nil, List.cons_append, List.nil_append]
        exact List.perm_middle
    · by_cases c2 : p.2 = h
      · rw [if_neg c1, if_pos c2, if_pos (by simpa using c2), if_neg (by simpa using c1), List.map_cons]
        exact (ih.cons p.1)
      · rw [if_neg c1, if_neg c2, if_neg (by simpa using c2), if_neg (by simpa using c1)]
        exact ih
theorem nb_asc (rs : List (Nat × Nat)) (n h : Nat) : (nb rs n h).Pairwise (· ≤ ·) := by
  unfold nb
  exact (List.pairwise_lt_range.imp fun h => Nat.le_of_lt h).sublist List.filter_sublist
theorem near_nb {n h : Nat} {rs : List (Nat × Nat)} {ns : List Int} (G : Good n rs) (p : ns.Perm (((rs.filter fun p => decide (p.2 = h)).map (·.1) ++ (rs.filter fun p => decide (p.1 = h)).map (·.2)).map Int.ofNat)) (s : ns.Pairwise (· ≤ ·)) : ns = (nb rs n h).map Int.ofNat := by
  refine sort_unique (p.trans (((near_perm rs h).trans (nb_perm G h).symm).map _)) s ?_
  rw [List.pairwise_map]
  exact (nb_asc rs n h).imp fun z => Int.ofNat_le.mpr z
theorem op_notInDK {X : Cx} {K : PySem.W.Frag} (hu : X.A.units + 65 < cLine) (h : X.K = K := by rfl) : OpR X (compareOp .NotIn) (rNotInD K) := h ▸ op_notInD hu
theorem any_pair (rs : List (Nat × Nat)) (p : Nat × Nat) : ((rs.map pairD).any fun z => PyData.eqv z (pairD p)) = rs.contains p := by
  rw [List.any_map, Bool.eq_iff_iff, List.any_eq_true, List.contains_iff_mem]
  constructor
  · rintro ⟨x, hx, e⟩
    have e' : PyData.eqv (pairD x) (pairD p) = true := e
    rw [eqv_pair, decide_eq_true_eq] at e'
    exact e' ▸ hx
  · exact fun h => ⟨p, h, by show PyData.eqv (pairD p) (pairD p) = true; rw [eqv_pair]; simp⟩
theorem shaped_rdsL (rs : List (Nat × Nat)) : SeqAt.shaped (.list (rs.map pairD)) = true := by
  have z := shaped_rds rs
  unfold SeqAt.shaped at z ⊢
  rw [Bool.and_eq_true, decide_eq_true_eq] at z ⊢
  exact ⟨by simpa [PyData.canLay0] using z.1, by simpa only [PyData.depth] using z.2⟩
theorem shaped_pair (p : Nat × Nat) : SeqAt.shaped (pairD p) = true := (shaped_ints [p.1, p.2]).2
theorem edge_adj {rs : List (Nat × Nat)} {n x y : Nat} (G : Good n rs) (a : adj rs x y = true) : edge x y ∈ rs := by
  unfold adj at a
  rw [Bool.or_eq_true, List.contains_iff_mem, List.contains_iff_mem] at a
  unfold edge
  rcases a with m | m
  · have := G.lt _ m
    simp only at this
    rw [if_pos (by omega)]; exact m
  · have := G.lt _ m
    simp only at this
    rw [if_neg (by omega)]; exact m
/-- the way from the last house to the first -/
theorem way_path {K : PySem.W.Frag} {H : Hp} {s n : Nat} {rs : List (Nat × Nat)} {Fs : List (List (List Nat))} (t : TreeAt K H s n rs Fs) (J : Joined n rs) {i : Nat} (hi : i < n) : M.Path (nbs n rs) i 0 (wy Fs i 0) := by
  have hf : i < Fs.length := by rw [t.fl]; exact hi
  have eF : Fs[i]? = some Fs[i] := List.getElem?_eq_getElem hf
  have W := t.fw i _ eF
  obtain ⟨p, P⟩ := J i hi
  have sym : ∀ a b, b ∈ at_ (nbs n rs) a → a ∈ at_ (nbs n rs) b := fun a b h => by
    obtain ⟨h1, h2, h3⟩ := mem_nbs.mp h
    exact mem_nbs.mpr ⟨h2, h1, adj_sym h3⟩
  have r := W.reach (P.rev sym)
  have e : wy Fs i 0 = at_ Fs[i] 0 := by unfold wy; rw [eF]; rfl
  rw [e]
  exact W.pa 0 r
def sp__law_used_right (K : PySem.W.Frag) : Sp := sp3 fun a b c H Q E => ∃ (s n : Nat) (rs : List (Nat × Nat)) (Fs : List (List (List Nat))) (p : Addr) (xs : List V), a = .ref s ∧ TreeAt K H s n rs Fs ∧ Joined n rs ∧ b = .int (n : Int) ∧ c = .ref p ∧ SqL K H p xs ∧ Dqs K H xs (rs.map pairD) ∧ ∀ H', Ex H H' → Q (.bl true) H'
section
variable {K : PySem.W.Frag} {mg : Str → Option Value} {P : Program} {w : World} {base : Heap}
theorem ok__law_used_right (T : Tx K mg) : Cal P w K mg base CX0 8 "_law_used_right" ["_law_web", "_law_many", "_law_pairs"] (sp__law_used_right K) := by
  refine cal_of (fD__law_used_right T) (T.glo 34 rfl) sc__law_used_right (fun _ _ _ _ _ _ us hl => match us, hl with | [_, _, _], _ => rfl) (fun vs H Q E h => len3 h) (fun f cdv A outer s H vs Q E hr h => ?_)
  obtain ⟨a, b, c, rfl, h⟩ := h
  refine ⟨_, (PSs.nox (pss_cons (ps_set (i := 3) sc__law_used_right.nd rfl (Or.inr rfl) (pe_op op_sub (pv 1) pe_int))
      (pss_cons (ps_set (i := 4) sc__law_used_right.nd rfl (Or.inl rfl) (pe_callB (cr_sortedIK (K := K)) (by rfl) (T.free 12 rfl) (by decide +kernel) (pa_cons (pe_op op_cat (pe_lc (own := [("_law_one", 9), ("_law_other", 10)]) rfl sc__law_used_right.nd (pi_list (pv 2)) (blkOk_by (own := [("_law_one", 9), ("_law_other", 10)]) (N := ["_law_web", "_law_many", "_law_pairs", "_law_spot", "_law_near", "_law_row", "_law_steps", "_law_k", "_law_pair", "_law_one", "_law_other"]) (sc := defScope st__law_used_right) (by decide +kernel)) (fun _ _ _ _ _ => (pg_tupK (K := K) (n := 2) rfl (pgs_cons (pg_name (i := 9) sc__law_used_right.nd rfl (Or.inl rfl) (.inr rfl)) (pgs_cons (pg_name (i := 10) sc__law_used_right.nd rfl (Or.inl rfl) (.inr rfl)) pgs_nil)))) (fun _ _ _ _ _ => (pts_one (pt_cmpR op_eq (pv 10) (pv 3) (nomark _)))) (fun _ _ _ _ _ => (pv 9))) (pe_lc (own := [("_law_one", 9), ("_law_other", 10)]) rfl sc__law_used_right.nd (pi_list (pv 2)) (blkOk_by (own := [("_law_one", 9), ("_law_other", 10)]) (N := ["_law_web", "_law_many", "_law_pairs", "_law_spot", "_law_near", "_law_row", "_law_steps", "_law_k", "_law_pair", "_law_one", "_law_other"]) (sc := defScope st__law_used_right) (by decide +kernel)) (fun _ _ _ _ _ => (pg_tupK (K := K) (n := 2) rfl (pgs_cons (pg_name (i := 9) sc__law_used_right.nd rfl (Or.inl rfl) (.inr rfl)) (pgs_cons (pg_name (i := 10) sc__law_used_right.nd rfl (Or.inl rfl) (.inr rfl)) pgs_nil)))) (fun _ _ _ _ _ => (pts_one (pt_cmpR op_eq (pv 9) (pv 3) (nomark _)))) (fun _ _ _ _ _ => (pv 10)))) pa_nil)))
      (pss_cons (ps_if (pt_cmpR op_ne (pe_callB (call_reprK (K := K) T.sm hr.g (hu64 hr.r)) (by rfl) (T.free 11 rfl) (by decide +kernel) (pa_cons (pe_lst (pa_cons (pe_callB (tree_len (K := K) T (hr.mono (by decide))) (by rfl) (T.free 6 rfl) (by decide +kernel) (pa_cons (pv 0) pa_nil)) (pa_cons (pe_cmpR (tree_in (K := K) T (hr.mono (by decide))) (pv 3) (pv 0) (by with_unfolding_all rfl)) (pa_cons (pe_cmpR (tree_in (K := K) T (hr.mono (by decide))) (pv 1) (pv 0) (by with_unfolding_all rfl)) (pa_cons (pe_c (ok_neighbours T) (hr.mono (by decide)) rfl passL (pa_cons (pv 0) (pa_cons (pv 3) pa_nil))) pa_nil))))) pa_nil)) (pe_callB (call_reprK (K := K) T.sm hr.g (hu64 hr.r)) (by rfl) (T.free 11 rfl) (by decide +kernel) (pa_cons (pe_lst (pa_cons (pv 1) (pa_cons pe_bl (pa_cons pe_bl (pa_cons (pv 4) pa_nil))))) pa_nil)) (nomark _)) (pss_one (ps_ret pe_bl)) pss_nil)
      (pss_cons (ps_set (i := 5) sc__law_used_right.nd rfl (Or.inr rfl) (pe_c (ok_way T) (hr.mono (by decide)) rfl passL (pa_cons (pv 0) (pa_cons (pv 3) (pa_cons pe_int pa_nil)))))
      (pss_cons (ps_setLc (i := 6) (own := [("_law_k", 7)]) rfl sc__law_used_right.nd rfl rfl (sw_true rfl rfl rfl (by decide +kernel)) (pi_range1 (by rfl) (T.free 10 rfl) (pa_cons (pe_op op_sub (pe_callB (call_lenK (K := K)) (by rfl) (T.free 6 rfl) (by decide +kernel) (pa_cons (pv 5) pa_nil)) pe_int) pa_nil)) (blkOk_by (own := [("_law_k", 7)]) (N := ["_law_web", "_law_many", "_law_pairs", "_law_spot", "_law_near", "_law_row", "_law_steps", "_law_k", "_law_pair", "_law_one", "_law_other"]) (sc := defScope st__law_used_right) (by decide +kernel)) (fun _ _ _ _ _ => (pg_name (i := 7) sc__law_used_right.nd rfl (Or.inl rfl))) (fun _ _ _ _ _ => pts_nil) (fun _ _ _ _ _ => (pe_callTy (call_tupK (K := K)) (by rfl) (T.free 15 rfl) (by decide +kernel) (pa_cons (pe_callB (cr_sortedIK (K := K)) (by rfl) (T.free 12 rfl) (by decide +kernel) (pa_cons (pe_lst (pa_cons (pe_ix (ix_tupK (K := K)) (pv 5) (pv 7) (fun _ _ => rfl)) (pa_cons (pe_ix (ix_tupK (K := K)) (pv 5) (pe_op op_add (pv 7) pe_int) (fun _ _ => rfl)) pa_nil))) pa_nil)) pa_nil))))
      (pss_cons (ps_if (PW.pt (pw_or (pt_cmpR op_ne (pe_ix (ix_tupK (K := K)) (pv 5) pe_int (fun _ _ => rfl)) (pv 3) (nomark _)) (pw_or (pt_cmpR op_ne (pe_ix (ix_tupK (K := K)) (pv 5) (pe_un un_neg pe_int) (fun _ _ => rfl)) pe_int (nomark _)) (pw_or1 (pt_cmpR (op_neNil (K := K) (hu0 hr.r)) (pe_lc (own := [("_law_one", 9)]) rfl sc__law_used_right.nd (pi_tup (pv 5)) (blkOk_by (own := [("_law_one", 9)]) (N := ["_law_web", "_law_many", "_law_pairs", "_law_spot", "_law_near", "_law_row", "_law_steps", "_law_k", "_law_pair", "_law_one", "_law_other"]) (sc := defScope st__law_used_right) (by decide +kernel)) (fun _ _ _ _ _ => (pg_name (i := 9) sc__law_used_right.nd rfl (Or.inl rfl))) (fun _ _ _ _ _ => (pts_one (pt_cmpR op_gt (pe_bmT PySem.F.plainAttrs_tuple PySem.F.slot_tuple_count PySem.F.type_tuple_count (mt_tcount (K := K)) (pv 5) (pa_cons (pv 9) pa_nil)) pe_int (nomark _)))) (fun _ _ _ _ _ => (pv 9))) (pe_lst pa_nil) (nomark _)))))) (pss_one (ps_ret pe_bl)) pss_nil)
      (pss_one (ps_ret (pe_cmpR (op_eqNil (K := K) (hu0 hr.r)) (pe_lc (own := [("_law_pair", 8)]) rfl sc__law_used_right.nd (pi_list (pv 6)) (blkOk_by (own := [("_law_pair", 8)]) (N := ["_law_web", "_law_many", "_law_pairs", "_law_spot", "_law_near", "_law_row", "_law_steps", "_law_k", "_law_pair", "_law_one", "_law_other"]) (sc := defScope st__law_used_right) (by decide +kernel)) (fun _ _ _ _ _ => (pg_name (i := 8) sc__law_used_right.nd rfl (Or.inl rfl))) (fun _ _ _ _ _ => (pts_one (pt_cmpR (op_notInDK (K := K) (hu65 hr.r)) (pv 8) (pv 2) (by with_unfolding_all rfl)))) (fun _ _ _ _ _ => (pv 8))) (pe_lst pa_nil) (nomark _))))))))))), ?_⟩
  obtain ⟨s0, n, rs, Fs, p, xs, rfl, t, J, rfl, rfl, hp, ds, q⟩ := h
  have n1 := t.n1
  have n16 := t.n16
  have G := t.good
  have len : xs.length = rs.length := by rw [ds.length, List.length_map]
  have sl : ∀ {k : Nat}, k ≤ 10000 → k ≤ sizeLine := fun {k} h => by rw [sizeLine_eq]; omega
  have few : rs.length ≤ 300 := by
    have z : (rs.map fun p => p.1 * 16 + p.2).length ≤ 256 := nodup_len (List.pairwise_map.mpr (G.nd.imp_of_mem fun {p q} hp hq ne e => ne (by
      have a := G.lt p hp
      have b := G.lt q hq
      refine Prod.ext ?_ ?_ <;> omega))) fun x hx => by
        obtain ⟨p, hp, rfl⟩ := List.mem_map.mp hx
        have a := G.lt p hp
        omega
    rw [List.length_map] at z; omega
  have at_ : ∀ k, k < rs.length → ∃ p tp, rs[k]? = some p ∧ nth xs k = .ref tp ∧ SqT K H tp [iV p.1, iV p.2] := fun k hk => by
    obtain ⟨d, h1, h2⟩ := dqs_nth ds (i := k) (by omega)
    rw [List.getElem?_map, List.getElem?_eq_getElem hk] at h1
    cases h1
    obtain ⟨tp, e, sp⟩ := pair_at h2
    exact ⟨rs[k], tp, List.getElem?_eq_getElem hk, e, sp⟩
  obtain ⟨m, rfl⟩ := Nat.exists_eq_add_of_le' n1
  have em : (((m + 1 : Nat) : Int)) - 1 = (m : Int) := by omega
  refine seq_at (asg_at ?_)
  refine ⟨_, rfl, _, _, rfl, rfl, ?_⟩
  dsimp only [gName]
  rw [em]
  refine seq_at (asg_at (cb_at ?_))
  refine lc_at (n := rs.length) (item := nth xs) (fun i => decide ((rs[i]?.getD (0, 0)).2 = m)) (fun i D y H' => y = iV (rs[i]?.getD (0, 0)).1) (line_big (by omega))
    (fun P q => ⟨_, rfl, p, rfl, ⟨_, hp⟩, q _ _ (Ex.refl _) (len ▸ its_l hp)⟩) (fun _ _ _ _ _ _ h => h) (fun _ _ _ _ _ _ h => h) ?_ ?_
  · intro i D H2 hi hD e2 hacc Ny Nn hy hn
    obtain ⟨p, tp, hp, en, sp⟩ := at_ i hi
    rw [en]
    refine ⟨tp, _, rfl, Evl.ex_t e2 sp, rfl, _, _, rfl, _, _, rfl, rfl, rfl, _, rfl, _, rfl, rfl, _, rfl, ?_⟩
    by_cases c : p.2 = m
    · rw [decide_eq_true (show iV p.2 = V.int (m : Int) by rw [c]; rfl)]
      exact iteT ⟨_, rfl, hy _ _ (by rw [hp]; simpa using c) (Ex.refl _) (by rw [hp]; rfl)⟩
    · rw [decide_eq_false (show ¬ iV p.2 = V.int (m : Int) from fun z => c (by have := V.int.inj z; omega))]
      exact iteF (hn _ (by rw [hp]; simpa using c) (Ex.refl _))
  intro D1 ys1 H1 hD1 e1 hd1 f1
  have ey1 : ys1 = ((rs.filter fun p => decide (p.2 = m)).map (·.1)).map iV := by
    rw [F2.map_eq (f := fun i => iV (rs[i]?.getD (0, 0)).1) f1, List.map_map]
    exact range_pick rs (0, 0) (fun p => decide (p.2 = m)) (fun p => iV p.1)
  refine lc_at (n := rs.length) (item := nth xs) (fun i => decide ((rs[i]?.getD (0, 0)).1 = m)) (fun i D y H' => y = iV (rs[i]?.getD (0, 0)).2) (line_big (by omega))
    (fun P q => ⟨_, rfl, p, rfl, ⟨_, Evl.ex_l e1 hp⟩, q _ _ (Ex.refl _) (len ▸ its_l (Evl.ex_l e1 hp))⟩) (fun _ _ _ _ _ _ h => h) (fun _ _ _ _ _ _ h => h) ?_ ?_
  · intro i D H2 hi hD e2 hacc Ny Nn hy hn
    obtain ⟨p, tp, hp, en, sp⟩ := at_ i hi
    rw [en]
    refine ⟨tp, _, rfl, Evl.ex_t (e1.trans e2) sp, rfl, _, _, rfl, _, _, rfl, rfl, rfl, _, rfl, _, rfl, rfl, _, rfl, ?_⟩
    by_cases c : p.1 = m
    · rw [decide_eq_true (show iV p.1 = V.int (m : Int) by rw [c]; rfl)]
      exact iteT ⟨_, rfl, hy _ _ (by rw [hp]; simpa using c) (Ex.refl _) (by rw [hp]; rfl)⟩
    · rw [decide_eq_false (show ¬ iV p.1 = V.int (m : Int) from fun z => c (by have := V.int.inj z; omega))]
      exact iteF (hn _ (by rw [hp]; simpa using c) (Ex.refl _))
  intro D2 ys2 H2 hD2 e2 hd2 f2
  have ey2 : ys2 = ((rs.filter fun p => decide (p.1 = m)).map (·.2)).map iV := by
    rw [F2.map_eq (f := fun i => iV (rs[i]?.getD (0, 0)).2) f2, List.map_map]
    exact range_pick rs (0, 0) (fun p => decide (p.1 = m)) (fun p => iV p.2)
  rw [ey1] at hd1
  rw [ey2] at hd2
  have l1 : ((rs.filter fun p => decide (p.2 = m)).map (·.1)).length ≤ 300 := by rw [List.length_map]; exact Nat.le_trans (List.length_filter_le ..) few
  have l2 : ((rs.filter fun p => decide (p.1 = m)).map (·.2)).length ≤ 300 := by rw [List.length_map]; exact Nat.le_trans (List.length_filter_le ..) few
  refine ⟨D1, D2, _, _, rfl, rfl, e2 _ _ hd1, hd2, sl (by simp only [List.length_map] at l1 l2 ⊢; omega), fun L hL => ?_⟩
  rw [← List.map_append]
  refine ⟨L, ((rs.filter fun p => decide (p.2 = m)).map (·.1) ++ (rs.filter fun p => decide (p.1 = m)).map (·.2)).map Int.ofNat, rfl, SqL.of (by rw [upd_same, List.map_map]; rfl), fun ns' q0 pn sn hq => ?_⟩
  have nn := near_nb G pn sn
  subst nn
  have e3 : Ex H (upd (upd H2 L (.lst (((rs.filter fun p => decide (p.2 = m)).map (·.1) ++ (rs.filter fun p => decide (p.1 = m)).map (·.2)).map iV))) q0 (.lst (((nb rs (m + 1) m).map Int.ofNat).map V.int))) := (e1.trans e2).trans ((Ex.new hL).trans (Ex.new hq))
  have h3 : (upd (upd H2 L (.lst (((rs.filter fun p => decide (p.2 = m)).map (·.1) ++ (rs.filter fun p => decide (p.1 = m)).map (·.2)).map iV))) q0 (.lst (((nb rs (m + 1) m).map Int.ofNat).map V.int))) q0 = some (.lst ((nb rs (m + 1) m).map iV)) := by rw [upd_same, List.map_map]; rfl
  generalize (upd (upd H2 L (.lst (((rs.filter fun p => decide (p.2 = m)).map (·.1) ++ (rs.filter fun p => decide (p.1 = m)).map (·.2)).map iV))) q0 (.lst (((nb rs (m + 1) m).map Int.ofNat).map V.int))) = H3 at e3 h3 ⊢
  dsimp only [gName]
  have t3 := t.mono e3
  refine seq_at (ifs_at ?_)
  have bl : (nb rs (m + 1) m).length ≤ 16 := by
    unfold nb
    have := List.length_filter_le (adj rs m) (List.range (m + 1))
    rw [List.length_range] at this
    omega
  have bm : ∀ v ∈ nb rs (m + 1) m, v < 128 := fun v hv => by
    unfold nb at hv
    have := List.mem_range.mp (List.mem_filter.mp hv).1
    omega
  have sm : Small 5000 4 (.list [.int ((m + 1 : Nat) : Int), .bool true, .bool false, .list ((nb rs (m + 1) m).map intD)]) := by
    have a : SmallAll 8 1 ((nb rs (m + 1) m).map intD) := fun d hd => by
      obtain ⟨v, hv, rfl⟩ := List.mem_map.mp hd
      exact Small.nat (bm v hv)
    have b := Small.list a
    rw [List.length_map] at b
    have c : SmallAll 200 2 [.int ((m + 1 : Nat) : Int), .bool true, .bool false, .list ((nb rs (m + 1) m).map intD)] := fun d hd => by
      simp only [List.mem_cons, List.not_mem_nil, or_false] at hd
      rcases hd with rfl | rfl | rfl | rfl
      · exact (Small.nat (by omega)).mono (by omega) (by omega)
      · exact smallB_ok (by decide +kernel)
      · exact smallB_ok (by decide +kernel)
      · exact b.mono (by omega) (by omega)
    exact (Small.list c).mono (by simp) (by omega)
  have i1 : isIdx (.int (m : Int)) ((m + 1 : Nat) : Int) = true := isIdx_nat (by omega)
  have i2 : isIdx (.int ((m + 1 : Nat) : Int)) ((m + 1 : Nat) : Int) = false := by
    simp only [isIdx, Bool.and_eq_false_iff, decide_eq_false_iff_not]; omega
  refine cb_at ⟨_, rfl, s0, rfl, t3.ins, _, rfl, s0, m + 1, rs, Fs, rfl, t3, _, rfl, ⟨by omega, by omega⟩, ?_⟩
  refine ⟨_, rfl, _, rfl, s0, rfl, t3.ins, _, _, rfl, s0, m + 1, rs, Fs, .int (m : Int), rfl, t3, .int _, _, rfl, ?_⟩
  refine ⟨_, rfl, _, rfl, s0, rfl, t3.ins, _, _, rfl, s0, m + 1, rs, Fs, .int ((m + 1 : Nat) : Int), rfl, t3, .int _, _, rfl, ?_⟩
  refine ⟨_, rfl, _, rfl, _, _, rfl, s0, m + 1, rs, Fs, .int (m : Int), rfl, t3, .int _, fun i l ei hi hl => ?_, fun no => by rw [i1] at no; cases no⟩
  have ei' : m = i := by have z : (m : Int) = i := PyData.int.inj ei; omega
  subst ei'
  have e4 := Ex.new (o := .lst ((nb rs (m + 1) m).map iV)) hl
  have h4 : (upd H3 l (.lst ((nb rs (m + 1) m).map iV))) l = some (.lst ((nb rs (m + 1) m).map iV)) := upd_same
  generalize (upd H3 l (.lst ((nb rs (m + 1) m).map iV))) = H4 at e4 h4 ⊢
  refine ⟨sl (by show 4 ≤ 10000; omega), fun M5 hM5 => ?_⟩
  rw [i1, i2]
  have e5 := Ex.new (o := .lst [V.int ((m + 1 : Nat) : Int), V.bl (if false = true then !true else true), V.bl (if false = true then !false else false), V.ref l]) hM5
  have row : ∀ {K : PySem.W.Frag} {H : Hp} (l : List Nat), Dqs K H (l.map iV) (l.map intD) := fun l => by
    induction l with
    | nil => exact .nil
    | cons k l ih => exact .cons (.int _) ih
  refine rRepr_of (d := .list [.int ((m + 1 : Nat) : Int), .bool true, .bool false, .list ((nb rs (m + 1) m).map intD)]) (.lst (SqL.of upd_same) (.cons (.int _) (.cons (.bl _) (.cons (.bl _) (.cons (.lst (SqL.of (e5 _ _ h4)) (row _)) .nil))))) sm (by omega) (by omega) ?_
  refine cb_at ⟨_, rfl, _, rfl, sl (by show 4 ≤ 10000; omega), fun L3 hL3 => ?_⟩
  have e6 := e4.trans (e5.trans (Ex.new (o := .lst [V.int ((m + 1 : Nat) : Int), V.bl true, V.bl false, V.ref q0]) hL3))
  refine rRepr_of (d := .list [.int ((m + 1 : Nat) : Int), .bool true, .bool false, .list ((nb rs (m + 1) m).map intD)]) (.lst (SqL.of upd_same) (.cons (.int _) (.cons (.bl _) (.cons (.bl _) (.cons (.lst (SqL.of (e6 _ _ h3)) (row _)) .nil))))) sm (by omega) (by omega) ?_
  refine ⟨rfl, _, rfl, ?_⟩
  rw [decide_eq_true rfl]
  refine iteF ?_
  have e06 := e3.trans e6
  have t6 := t.mono e06
  generalize (upd (upd H4 M5 _) L3 _) = H6 at e6 e06 t6 ⊢
  dsimp only [tNext]
  refine seq_at (asg_at ?_)
  have P := way_path t J (i := m) (by omega)
  have i0 : isIdx (.int (0 : Int)) ((m + 1 : Nat) : Int) = true := isIdx_nat (i := 0) (by omega)
  refine ⟨_, rfl, _, rfl, _, _, _, rfl, s0, m + 1, rs, Fs, .int (m : Int), .int (0 : Int), rfl, t6, .int _, .int _, fun i j tr ei ej hi hj st fz => ?_, fun no => absurd (i1.symm.trans no) (by decide), fun _ no => absurd (i0.symm.trans no) (by decide)⟩
  have ei' : m = i := by have z : (m : Int) = i := PyData.int.inj ei; omega
  have ej' : 0 = j := by have z : (0 : Int) = j := PyData.int.inj ej; omega
  subst ei' ej'
  generalize wy Fs m 0 = row at P st
  dsimp only [gName]
  have rlt : ∀ (i v : Nat), row[i]? = some v → v < m + 1 := fun i v hv => by
    cases i with
    | zero =>
      have z := P.hd
      rw [List.head?_eq_getElem?, hv] at z
      cases z; omega
    | succ i =>
      have hi : i + 1 < row.length := (List.getElem?_eq_some_iff.mp hv).1
      have z := P.ch i row[i] v (List.getElem?_eq_getElem (by omega)) hv
      exact (mem_nbs.mp z).2.1
  have rl : row.length ≤ 16 := by
    have := nodup_len P.nd fun v hv => by
      obtain ⟨i, hi, ev⟩ := List.getElem_of_mem hv
      exact rlt i v (by rw [List.getElem?_eq_getElem hi, ev])
    omega
  have rl1 : 1 ≤ row.length := by cases row with
    | nil => exact absurd rfl P.ne
    | cons => simp
  have vat : ∀ {i v : Nat}, row[i]? = some v → (row.map iV)[i]? = some (iV v) := fun {i v} hv => by rw [List.getElem?_map, hv]; rfl
  refine seq_at (asg_at ?_)
  refine lc_at (n := row.length - 1) (item := fun i => .int (0 + i)) (fun _ => true) (fun i D y H' => TP (L2.del H' D) (edge (row[i]?.getD 0) (row[i + 1]?.getD 0)) y) (line_big (by omega)) (fun P q => ?_) (fun i D y H' o _ h => by rw [del_upd]; exact h) (fun i D y H' H'' e h => TP.mono (Ex.del e) h) ?_ ?_
  · refine ⟨_, rfl, tr, _, rfl, .inr st, _, _, rfl, rfl, _, rfl, by rw [List.length_map]; omega, by rw [List.length_map]; omega, ?_⟩
    rw [List.length_map, show ((row.length : Int) - 1).toNat = row.length - 1 by omega]
    exact q _ _ (Ex.refl _) (its_r 0 _)
  · intro i D H7 hi hD e7 ⟨ac, hac⟩ Ny Nn hy _
    obtain ⟨x, hx⟩ : ∃ x, row[i]? = some x := ⟨_, List.getElem?_eq_getElem (by omega)⟩
    obtain ⟨y, hy'⟩ : ∃ y, row[i + 1]? = some y := ⟨_, List.getElem?_eq_getElem (by omega)⟩
    have ei : ((0 : Int) + (i : Int)) = ((i : Nat) : Int) := by omega
    refine ⟨rfl, ?_⟩
    rw [ei]
    refine ⟨_, rfl, _, rfl, tr, _, _, _, rfl, rfl, Evl.ex_t e7 st, atI_nat (vat hx), _, rfl, _, rfl, _, _, rfl, rfl, tr, _, ((i + 1 : Nat) : Int), _, rfl, congrArg V.int (by omega), Evl.ex_t e7 st, atI_nat (vat hy'), sl (by show 2 ≤ 10000; omega), fun l hl => ⟨l, [(x : Int), (y : Int)], rfl, SqL.of upd_same, fun ns' q1 pn sn hq => ⟨q1, _, rfl, .inl ⟨SqL.of upd_same, fun tt htt => ?_⟩⟩⟩⟩
    rw [sort2 pn sn] at htt ⊢
    have ex := ((Ex.new (o := .lst [iV x, iV y]) hl).trans (Ex.new (o := .lst ([((edge x y).1 : Int), ((edge x y).2 : Int)].map V.int)) hq)).trans (Ex.new (o := .tup ([((edge x y).1 : Int), ((edge x y).2 : Int)].map V.int)) htt)
    refine hy _ _ rfl ex ?_
    rw [hx, hy']
    refine ⟨tt, rfl, ?_⟩
    rw [del_ne (ne_of_none (ex _ _ hac |> fun z => (Ex.new (o := .lst ([((edge x y).1 : Int), ((edge x y).2 : Int)].map V.int)) hq) _ _ ((Ex.new (o := .lst [iV x, iV y]) hl) _ _ hac)) htt).symm]
    exact upd_same
  intro D3 ys3 H7 hD3 e7 hd3 f3
  rw [range_all] at f3
  have tps : F2 (TP H7) ((List.range (row.length - 1)).map fun i => edge (row[i]?.getD 0) (row[i + 1]?.getD 0)) ys3 := by
    have g : ∀ {js : List Nat} {vs : List V}, F2 (fun i y => TP (L2.del H7 D3) (edge (row[i]?.getD 0) (row[i + 1]?.getD 0)) y) js vs → F2 (TP H7) (js.map fun i => edge (row[i]?.getD 0) (row[i + 1]?.getD 0)) vs := by
      intro js vs h
      induction h with
      | nil => exact .nil
      | cons h _ ih => exact .cons (TP.mono Ex.ofDel h) ih
    exact g f3
  have ok : ∀ p ∈ (List.range (row.length - 1)).map (fun i => edge (row[i]?.getD 0) (row[i + 1]?.getD 0)), p ∈ rs := fun p hp => by
    obtain ⟨i, hi, rfl⟩ := List.mem_map.mp hp
    have low := List.mem_range.mp hi
    have h1 : row[i]? = some row[i] := List.getElem?_eq_getElem (by omega)
    have h2 : row[i + 1]? = some (row[i + 1]'(by omega)) := List.getElem?_eq_getElem (by omega)
    rw [h1, h2]
    exact edge_adj G (mem_nbs.mp (P.ch i _ _ h1 h2)).2.2
  generalize (List.range (row.length - 1)).map (fun i => edge (row[i]?.getD 0) (row[i + 1]?.getD 0)) = es at tps ok
  dsimp only [gName]
  have st7 := Evl.ex_t e7 st
  refine seq_at (ifs_at ?_)
  have r0 : row[0]? = some m := by have z := P.hd; rwa [List.head?_eq_getElem?] at z
  refine ⟨_, rfl, tr, _, 0, _, rfl, rfl, st7, atI_nat (j := 0) (vat r0), _, rfl, rfl, _, rfl, ?_⟩
  rw [decide_eq_true (show iV m = V.int (m : Int) from rfl)]
  refine iteF ?_
  have rlast : atI (row.map iV) (-1) = some (iV 0) := by
    have ne : row ≠ [] := P.ne
    have z := P.la
    rw [List.getLast?_eq_some_getLast ne] at z
    have e := List.dropLast_concat_getLast ne
    rw [Option.some.inj z] at e
    rw [← e, List.map_append]
    exact atI_last _ _
  refine ⟨_, rfl, 1, rfl, tr, _, -1, _, rfl, rfl, st7, rlast, rfl, _, rfl, ?_⟩
  rw [decide_eq_true (show iV 0 = V.int 0 from rfl)]
  refine iteF ?_
  refine test_at ?_
  refine lc_at (n := row.length) (item := nth (row.map iV)) (fun _ => false) (fun _ _ _ _ => True) (line_big (by omega)) (fun P q => ⟨_, rfl, tr, rfl, ⟨_, st7⟩, q _ _ (Ex.refl _) (by have S := its_t st7; rwa [List.length_map] at S)⟩) (fun _ _ _ _ _ _ h => h) (fun _ _ _ _ _ _ h => h) ?_ ?_
  · intro i D H8 hi hD e8 hacc Ny Nn hy hn
    obtain ⟨x, hx⟩ : ∃ x, row[i]? = some x := ⟨_, List.getElem?_eq_getElem hi⟩
    rw [nth_map hx]
    refine ⟨rfl, ?_⟩
    have cnt1 : (row.map Int.ofNat).count (x : Int) ≤ 1 := by
      have nd : (row.map Int.ofNat).Nodup := List.pairwise_map.mpr (P.nd.imp fun h e => h (Int.ofNat.inj e))
      exact List.nodup_iff_count.mp nd (x : Int)
    refine ⟨_, rfl, fz.mono (e7.trans e8), _, rfl, tr, row.map Int.ofNat, (x : Int), rfl, rfl, by rw [List.map_map]; exact Evl.ex_t e8 st7, _, _, rfl, rfl, _, rfl, ?_⟩
    rw [decide_eq_false (show ¬ (1 : Int) < (((row.map Int.ofNat).count (x : Int) : Nat) : Int) by omega)]
    exact iteF (hn _ rfl (Ex.refl _))
  intro D4 ys4 H8 hD4 e8 hd4 f4
  have y4 : ys4 = [] := by
    have := f4.length
    rw [List.filter_eq_nil_iff.mpr (by simp)] at this
    exact List.length_eq_zero_iff.mp this.symm
  subst y4
  refine ⟨Nat.zero_le _, fun z hz => ⟨D4, [], z, rfl, rfl, SqL.of (Ex.new hz _ _ hd4), SqL.of upd_same, _, rfl, ?_⟩⟩
  have e9 := e8.trans (Ex.new (o := .lst []) hz)
  generalize (upd H8 z (.lst [])) = H9 at e9 ⊢
  refine iteF ?_
  dsimp only [tNext]
  refine ret_at (op_at ?_)
  have e79 := e7.trans e9
  refine lc_at (n := ys3.length) (item := nth ys3) (fun _ => false) (fun _ _ _ _ => True) (line_big (by rw [← tps.length]; have := f3.length; rw [List.length_range] at this; rw [tps.length, ← this]; omega)) (fun P q => ⟨_, rfl, D3, rfl, ⟨_, SqL.of (e9 _ _ hd3)⟩, q _ _ (Ex.refl _) (its_l (SqL.of (e9 _ _ hd3)))⟩) (fun _ _ _ _ _ _ h => h) (fun _ _ _ _ _ _ h => h) ?_ ?_
  · intro i D H10 hi hD e10 hacc Ny Nn hy hn
    obtain ⟨pr, hpr⟩ : ∃ pr, es[i]? = some pr := ⟨_, List.getElem?_eq_getElem (by rw [tps.length]; exact hi)⟩
    obtain ⟨v, hv, tt, rfl, ht⟩ := F2.get tps hpr
    have en : nth ys3 i = .ref tt := by unfold nth; rw [hv]; rfl
    rw [en]
    refine ⟨rfl, ?_⟩
    have dq : Dq K H10 (.ref tt) (pairD pr) := .tup (SqT.of ((e9.trans e10) _ _ ht)) (.cons (.int _) (.cons (.int _) .nil))
    have dl : Dq K H10 (.ref p) (.list (rs.map pairD)) := .lst (Evl.ex_l (e06.trans (e79.trans e10)) hp) (ds.mono (e06.trans (e79.trans e10)))
    refine ⟨_, rfl, _, rfl, pairD pr, rs.map pairD, dq.dp (SeqAt.canLay_of_shaped (shaped_pair pr)), dl.dp (SeqAt.canLay_of_shaped (shaped_rdsL rs)), shaped_pair pr, shaped_rdsL rs, _, rfl, ?_⟩
    rw [any_pair, List.contains_iff_mem.mpr (ok pr (List.mem_of_getElem? hpr))]
    exact iteF (hn _ rfl (Ex.refl _))
  intro D5 ys5 H11 hD5 e11 hd5 f5
  have y5 : ys5 = [] := by
    have := f5.length
    rw [List.filter_eq_nil_iff.mpr (by simp)] at this
    exact List.length_eq_zero_iff.mp this.symm
  subst y5
  refine ⟨Nat.zero_le _, fun z hz => ⟨D5, [], z, rfl, rfl, SqL.of (Ex.new hz _ _ hd5), SqL.of upd_same, ?_⟩⟩
  exact q _ ((e06.trans (e79.trans e11)).trans (Ex.new hz))
end

end T1

namespace T1
open PySem PySem.Spec PyProof.Rows L2 G
open Evl (Ex)
local macro_rules | `(tactic| walk_at "dd") => `(tactic| (dsimp only [tCB, tCons, tNil, tC, tOp, tUn, tTest, tB, tVar, tAndV, tOrV, tNotV, tIf, tAnd, tOr, tNot, tSeq, tRet, tRetN, tIfS, tAsg, gName, tDrop, tTup, tLst, tChain, tNext, tCall, L2.start]))
open M (at_)
theorem ne_trees {K : PySem.W.Frag} {mg : Str → Option Value} {H : Hp} {s t : Addr} {n m : Nat} {rs qs Fs Gs} {Q : VK} (T : Tx K mg) (h1 : TreeAt K H s n rs Fs) (h2 : TreeAt K H t m qs Gs) (q : Q (.bl (!(decide (n = m) && decide (rs = qs)))) H) : rCmpO K (He.ga K "Tree") true (sp_Tree___eq__ K) E0 (.ref s) (.ref t) H Q := by
  obtain ⟨_, _, g⟩ := h2.ins
  refine ⟨s, .ref (He.ga K "Tree"), rfl, h1.ins, .base (.ins g (cl_Tree T) (T.own 0 rfl).ha (T.own 0 rfl).got.1.symm (T.own 0 rfl).got.2.symm (T.own 0 rfl).hm), nf_same, _, _, rfl, s, n, rs, Fs, rfl, h1, .inl ⟨t, m, qs, Gs, rfl, h2, _, rfl, q⟩⟩
theorem eq_trees {K : PySem.W.Frag} {mg : Str → Option Value} {H : Hp} {s t : Addr} {n m : Nat} {rs qs Fs Gs} {Q : VK} (T : Tx K mg) (h1 : TreeAt K H s n rs Fs) (h2 : TreeAt K H t m qs Gs) (q : Q (.bl (decide (n = m) && decide (rs = qs))) H) : rCmpO K (He.ga K "Tree") false (sp_Tree___eq__ K) E0 (.ref s) (.ref t) H Q := by
  obtain ⟨_, _, g⟩ := h2.ins
  refine ⟨s, .ref (He.ga K "Tree"), rfl, h1.ins, .base (.ins g (cl_Tree T) (T.own 0 rfl).ha (T.own 0 rfl).got.1.symm (T.own 0 rfl).got.2.symm (T.own 0 rfl).hm), nf_same, _, _, rfl, s, n, rs, Fs, rfl, h1, .inl ⟨t, m, qs, Gs, rfl, h2, _, rfl, q⟩⟩
section
variable {X : Cx} {K : PySem.W.Frag}
/-- o.line() -/
theorem tree_line {o : Expr} {ta : TE} {apos pos : Pos} {pl : Sem Bool} (T : Tx X.K X.mg) (hr : RG 1 X.A) (he : PE X o ta) (h : X.K = K := by rfl)
    (ht : eval (.Call (.Attribute o "line" apos) [] [] pos) X.env = (do let ov ← eval o X.env; standAt apos.atName; let (f, first) ← holding [ov] (getMethod ov "line" pl); callWith pos f first (backTo pos (starEach [] X.env)) (backToKw pos (keywordEach [] X.env))) := by rfl) :
    PE X (.Call (.Attribute o "line" apos) [] [] pos) (tMeth (He.ga K "Tree") "line" (sp_Tree_line K) [] E0 ta tNil) := by
  subst h
  obtain ⟨fd, F, G⟩ := ok_Tree_line (P := X.prog) (w := X.w) (base := X.base) T
  exact pe_gm0 he (cl_Tree T) (me_Tree_line T) G hr (F.bindsN fun _ _ _ _ _ _ us hl => match us, hl with | [_], _ => rfl) pass0 ht
end
theorem or_at {t u : L2.TT} {σ : L2.St} {H : Hp} {Q : Bool → Hp → Prop} (h : t σ H fun c H1 => if c = true then Q true H1 else u σ H1 Q) : tOr t u σ H Q := h
theorem andv_at {ta tb : TE} {σ : L2.St} {H : Hp} {Q : VK} (h : ta σ H fun x H1 => ∃ c, x = .bl c ∧ if c = true then tb σ H1 Q else Q (.bl false) H1) : tAndV ta tb σ H Q := h
theorem small_str {z : Str} (h : Tx8 500 z) : Small 500 1 (.str z) where
  lf := by
    show (z.cps.toList.all fun c => decide (c < 16 ^ 8)) = true
    rw [List.all_eq_true]
    intro c hc
    have : c < 128 := h.as c hc
    rw [decide_eq_true_eq]; omega
  sh := rfl
  dp := by simp [PyData.depth]
  wt := h.ln
theorem small_two {z : Str} (w : Str) (hw : Small 500 1 (.str w)) (h : Tx8 500 z) : Small 1100 2 (.list [.str w, .str z]) := by
  have c : SmallAll 500 1 [.str w, .str z] := fun d hd => by
    simp only [List.mem_cons, List.not_mem_nil, or_false] at hd
    rcases hd with rfl | rfl
    · exact hw
    · exact small_str h
  exact (Small.list c).mono (by simp) (by omega)
theorem small_rds {n : Nat} {rs : List (Nat × Nat)} (G : Good n rs) (h : n ≤ 16) (l : rs.length ≤ 16) : Small 1000 3 (.tuple (rs.map pairD)) := by
  have c : SmallAll 40 2 (rs.map pairD) := fun d hd => by
    obtain ⟨p, hp, rfl⟩ := List.mem_map.mp hd
    have := G.lt p hp
    have b : SmallAll 8 1 [intD p.1, intD p.2] := fun d hd => by
      simp only [List.mem_cons, List.not_mem_nil, or_false] at hd
      rcases hd with rfl | rfl
      · exact Small.nat (by omega)
      · exact Small.nat (by omega)
    exact (Small.tuple b).mono (by simp) (by omega)
  have z := Small.tuple c
  rw [List.length_map] at z
  exact z.mono (by omega) (by omega)
theorem roads_good {n : Nat} {ws : List Str} {rs : List (Nat × Nat)} (R : TT.Roads n ws rs) : Good n rs := ⟨R.lt, R.up.imp fun {p q} l e => by subst e; unfold TT.ltP at l; simp at l⟩
def sp__law_read_right (K : PySem.W.Frag) : Sp := sp2 fun a k H Q E => ∃ (z : Str) (kk : Int), a = .str z ∧ Tx8 500 z ∧ k = .int kk ∧ ∀ H', Ex H H' → Q (.bl true) H'
section
variable {K : PySem.W.Frag} {mg : Str → Option Value} {P : Program} {w : World} {base : Heap}
theorem ok__law_read_right (T : Tx K mg) : Cal P w K mg base CX0 9 "_law_read_right" ["_law_text", "_law_kind"] (sp__law_read_right K) := by
  refine cal_of (fD__law_read_right T) (T.glo 35 rfl) sc__law_read_right (fun _ _ _ _ _ _ us hl => match us, hl with | [_, _], _ => rfl) (fun vs H Q E h => len2 h) (fun f cdv A outer s H vs Q E hr h => ?_)
  obtain ⟨a, b, rfl, h⟩ := h
  refine ⟨_, (PSs.nox (pss_cons (ps_par (i := 2) (j := 3) rfl sc__law_read_right.nd rfl rfl (by decide) rfl rfl (pa_cons (pe_c (ok__law_read T) (hr.mono (by decide)) rfl pass0 (pa_cons (pv 0) (pa_cons (pv 1) pa_nil))) (pa_cons (pe_c (ok__law_tree_of T) (hr.mono (by decide)) rfl pass0 (pa_cons (pv 0) pa_nil)) pa_nil)) (by rfl))
      (pss_cons (ps_if (pt_cmpR op_isN (pv 3) pe_non (nomark _)) (pss_one (ps_ret (pe_cmpR op_eq (pe_callB (call_reprK (K := K) T.sm hr.g (hu64 hr.r)) (by rfl) (T.free 11 rfl) (by decide +kernel) (pa_cons (pv 2) pa_nil)) (pe_callB (call_reprK (K := K) T.sm hr.g (hu64 hr.r)) (by rfl) (T.free 11 rfl) (by decide +kernel) (pa_cons (pe_lst (pa_cons pe_str (pa_cons (pv 0) pa_nil))) pa_nil)) (nomark _)))) pss_nil)
      (pss_cons (ps_if (PW.pt (pw_or (pt_cmpR op_ne (pe_ix (ix_listK (K := K)) (pv 2) pe_int (fun _ _ => rfl)) pe_str (nomark _)) (pw_or1 (pt_not (pt_val (pe_callB (call_isiK' (K := K)) (by rfl) (T.free 5 rfl) (by decide +kernel) (pa_cons (pe_ix (ix_listK (K := K)) (pv 2) pe_int (fun _ _ => rfl)) (pa_cons (pe_glob (v := .ref (He.ga K "Tree")) rfl (T.glo 6 rfl) rfl) pa_nil)))))))) (pss_one (ps_ret pe_bl)) pss_nil)
      (pss_cons (ps_set (i := 4) sc__law_read_right.nd rfl (Or.inl rfl) (pe_ix (ix_listK (K := K)) (pv 2) pe_int (fun _ _ => rfl)))
      (pss_cons (ps_if (PW.pt (pw_or (pt_cmpR op_ne (pe_callB (call_reprK (K := K) T.sm hr.g (hu64 hr.r)) (by rfl) (T.free 11 rfl) (by decide +kernel) (pa_cons (pe_lst (pa_cons (pe_fldK (K := K) (pv 4)) (pa_cons (pe_fldK (K := K) (pv 4)) pa_nil))) pa_nil)) (pe_callB (call_reprK (K := K) T.sm hr.g (hu64 hr.r)) (by rfl) (T.free 11 rfl) (by decide +kernel) (pa_cons (pe_lst (pa_cons (pe_ix (ix_listK (K := K)) (pv 3) pe_int (fun _ _ => rfl)) (pa_cons (pe_callTy (call_tupK (K := K)) (by rfl) (T.free 15 rfl) (by decide +kernel) (pa_cons (pe_ix (ix_listK (K := K)) (pv 3) pe_int (fun _ _ => rfl)) pa_nil)) pa_nil))) pa_nil)) (nomark _)) (pw_or1 (pt_cmpR (tree_ne (K := K) T (hr.mono (by decide))) (pv 4) (tree_mk (K := K) T (hr.mono (by decide)) rfl (pa_cons (pe_ix (ix_listK (K := K)) (pv 3) pe_int (fun _ _ => rfl)) (pa_cons (pe_ix (ix_listK (K := K)) (pv 3) pe_int (fun _ _ => rfl)) pa_nil))) (nomark _))))) (pss_one (ps_ret pe_bl)) pss_nil)
      (pss_one (ps_ret (pe_and (pe_cmpR op_eq (pe_callB (call_reprK (K := K) T.sm hr.g (hu64 hr.r)) (by rfl) (T.free 11 rfl) (by decide +kernel) (pa_cons (tree_line (K := K) T (hr.mono (by decide)) (pv 4)) pa_nil)) (pe_callB (call_reprK (K := K) T.sm hr.g (hu64 hr.r)) (by rfl) (T.free 11 rfl) (by decide +kernel) (pa_cons (pv 0) pa_nil)) (nomark _)) (pe_one (pe_c (ok__law_used_right T) (hr.mono (by decide)) rfl pass0 (pa_cons (pv 4) (pa_cons (pe_ix (ix_listK (K := K)) (pv 3) pe_int (fun _ _ => rfl)) (pa_cons (pe_ix (ix_listK (K := K)) (pv 3) pe_int (fun _ _ => rfl)) pa_nil)))))))))))))), ?_⟩
  obtain ⟨z, kk, rfl, tz, rfl, q⟩ := h
  have sl : ∀ {k : Nat}, k ≤ 10000 → k ≤ sizeLine := fun {k} h => by rw [sizeLine_eq]; omega
  have swl : Small 500 1 (.str (Str.ofString "line")) := smallB_ok (by decide +kernel)
  by_cases R : ∃ n rs, Reads z n rs
  rotate_left
  · refine seq_at ?_
    refine ⟨_, rfl, _, rfl, _, _, rfl, .str z, kk, .str z, rfl, fun z' e => by cases e; exact tz.ln, fun _ l H1 e1 hl h1 => ?_, fun z' n rs Fs t l H' ez RR => by cases ez; exact absurd ⟨n, rs, RR⟩ R⟩
    refine ⟨_, rfl, _, rfl, z, rfl, tz.ln, fun _ H2 e2 => ⟨_, _, rfl, ?_⟩, fun n rs l p xs H' RR => absurd ⟨n, rs, RR⟩ R⟩
    dsimp only
    refine seq_at (ifs_at ?_)
    refine ⟨_, rfl, rfl, _, rfl, ?_⟩
    rw [decide_eq_true rfl]
    refine iteT (ret_at (op_at (cb_at ⟨_, rfl, ?_⟩)))
    refine rRepr_of (d := .list [.str (Str.ofString "line"), .str z]) (.lst (SqL.of (e2 _ _ h1)) (.cons (.str _) (.cons (.str _) .nil))) (small_two _ swl tz) (by omega) (by omega) ?_
    refine cb_at ⟨_, rfl, sl (by show 2 ≤ 10000; omega), fun l2 hl2 => ?_⟩
    refine rRepr_of (d := .list [.str (Str.ofString "line"), .str z]) (.lst (SqL.of upd_same) (.cons (.str _) (.cons (.str _) .nil))) (small_two _ swl tz) (by omega) (by omega) ?_
    refine ⟨rfl, ?_⟩
    rw [decide_eq_true rfl]
    exact q _ ((e1.trans e2).trans (Ex.new hl2))
  obtain ⟨n, rs, R⟩ := R
  have R0 := R
  obtain ⟨f, ws, es, fe, n1, n16, wn, RR, J⟩ := R0
  have G := roads_good RR
  have rl : rs.length ≤ 16 := by have := congrArg List.length RR.eq; rw [List.length_map, List.length_map] at this; omega
  have ln : TT.line n rs = z := (TT.line_back es fe RR.eq).symm
  have ar : areRds (.list (rs.map pairD)) n = true := by
    have e := areRds_iff.mpr ⟨wn, rs, RR⟩
    have eq : wsD ws = .list (rs.map pairD) := congrArg PyData.list (map_pairs.mpr RR.eq)
    rw [← eq]; exact e
  have er : rdsOf (.list (rs.map pairD)) = rs := rdsOf_pairs rfl
  refine seq_at ?_
  refine ⟨_, rfl, _, rfl, _, _, rfl, .str z, kk, .str z, rfl, fun z' e => by cases e; exact tz.ln, fun no => absurd ⟨n, rs, R⟩ (no z rfl), fun z' n' rs' Fs t l H1 ez R' e1 tr _ hl h1 => ?_⟩
  cases ez
  obtain ⟨en, ers⟩ := R.one R'
  subst en ers
  refine ⟨_, rfl, _, rfl, z, rfl, tz.ln, fun no => absurd ⟨n, rs, R⟩ no, fun n' rs' l2 p xs H2 R'' e2 h2 hp tp => ⟨_, _, rfl, ?_⟩⟩
  obtain ⟨en, ers⟩ := R.one R''
  subst en ers
  dsimp only
  refine seq_at (ifs_at ?_)
  refine ⟨_, rfl, rfl, _, rfl, ?_⟩
  rw [decide_eq_false (show ¬ V.ref l2 = V.non from fun z => nomatch z)]
  refine iteF ?_
  dsimp only [tNext]
  have h1' := e2 _ _ h1
  have t2 := tr.mono e2
  have e12 := e1.trans e2
  have dqp : ∀ {H'}, Ex H2 H' → Dq K H' (.ref p) (.list (rs.map pairD)) := fun e => .lst (SqL.of (e _ _ hp)) (tp_dqs (tp.imp fun _ _ h => TP.mono e h))
  refine seq_at (ifs_at ?_)
  refine ⟨_, rfl, l, _, 0, _, rfl, rfl, SqL.of h1', atI_nat (j := 0) rfl, rfl, _, rfl, ?_⟩
  rw [decide_eq_true rfl]
  refine iteF (not_at (b_at (cb2_at ?_)))
  refine ⟨_, rfl, l, _, 1, _, rfl, rfl, SqL.of h1', atI_nat (j := 1) rfl, ?_⟩
  refine isi_own_o (y := "Tree") (T.own 0 rfl) (T.own 0 rfl) (cl_Tree T) (by decide) t2.ins ⟨_, rfl, ?_⟩
  refine iteF ?_
  dsimp only [tNext]
  refine seq_at (asg_at ?_)
  refine ⟨_, rfl, l, _, 1, _, rfl, rfl, SqL.of h1', atI_nat (j := 1) rfl, ?_⟩
  dsimp only [gName]
  obtain ⟨dx, u1, u2, u3, xs2, ys2, ft⟩ := t2.f
  obtain ⟨_, rfl, g⟩ := ft.g
  have sm : Small 2500 4 (.list [.int (n : Int), .tuple (rs.map pairD)]) := by
    have c : SmallAll 1000 3 [.int (n : Int), .tuple (rs.map pairD)] := fun d hd => by
      simp only [List.mem_cons, List.not_mem_nil, or_false] at hd
      rcases hd with rfl | rfl
      · exact (Small.nat (by omega)).mono (by omega) (by omega)
      · exact small_rds G n16 rl
    have s := Small.list c
    exact ⟨s.lf, s.sh, s.dp, Nat.le_trans s.wt (by simp)⟩
  refine seq_at (ifs_at (or_at (test_at (cb_at ?_))))
  refine ⟨_, rfl, t, _, dx, _, _, rfl, g, cl_Tree T, no_Tree_houses T, rfl, _, rfl, t, _, dx, _, _, rfl, g, cl_Tree T, no_Tree_roads T, rfl, sl (by show 2 ≤ 10000; omega), fun L3 hL3 => ?_⟩
  have e3 := Ex.new (o := .lst [iV n, V.ref u1]) hL3
  refine rRepr_of (d := .list [.int (n : Int), .tuple (rs.map pairD)]) (.lst (SqL.of upd_same) (.cons (.int _) (.cons (ft.rd.mono e3) .nil))) sm (by omega) (by omega) ?_
  generalize (upd H2 L3 (.lst [iV n, V.ref u1])) = H3 at e3 ⊢
  refine cb_at ⟨_, rfl, l2, _, 0, _, rfl, rfl, SqL.of (e3 _ _ h2), atI_nat (j := 0) rfl, _, rfl, l2, _, 1, _, rfl, rfl, SqL.of (e3 _ _ h2), atI_nat (j := 1) rfl, p, xs, rfl, .inl ⟨SqL.of (e3 _ _ hp), fun tq htq => ⟨sl (by show 2 ≤ 10000; omega), fun L4 hL4 => ?_⟩⟩⟩
  have e4 := Ex.new (o := .tup xs) htq
  have e5 := Ex.new (o := .lst [iV n, V.ref tq]) hL4
  have tp4 : F2 (TP (upd (upd H3 tq (.tup xs)) L4 (.lst [iV n, V.ref tq]))) rs xs := tp.imp fun _ _ h => TP.mono (e3.trans (e4.trans e5)) h
  refine rRepr_of (d := .list [.int (n : Int), .tuple (rs.map pairD)]) (.lst (SqL.of upd_same) (.cons (.int _) (.cons (.tup (SqT.of (e5 _ _ upd_same)) (tp_dqs tp4)) .nil))) sm (by omega) (by omega) ?_
  have e35 := e3.trans (e4.trans e5)
  generalize (upd (upd H3 tq (.tup xs)) L4 (.lst [iV n, V.ref tq])) = H5 at e35 ⊢
  refine ⟨rfl, _, rfl, ?_⟩
  rw [decide_eq_true rfl]
  refine iteF (test_at ?_)
  have t5 := t2.mono e35
  refine ⟨_, rfl, _, rfl, l2, _, 0, _, rfl, rfl, SqL.of (e35 _ _ h2), atI_nat (j := 0) rfl, _, rfl, l2, _, 1, _, rfl, rfl, SqL.of (e35 _ _ h2), atI_nat (j := 1) rfl, rfl, rfl, tree_made (.int _) (dqp e35) ar n1 n16 (by show (rs.map pairD).length ≤ _; rw [List.length_map]; omega) (fun x hx => ?_) (fun F W v hv => ?_) fun t' H6 Gs e6 _ tr' => ?_⟩
  · obtain ⟨pr, _, rfl⟩ := List.mem_map.mp hx
    show (2 : Nat) ≤ 100000
    omega
  · rw [er] at W
    exact (joined_ways W).mp J v hv
  rw [er] at tr'
  refine ne_trees T (t5.mono e6) tr' ⟨_, rfl, ?_⟩
  rw [decide_eq_true rfl, decide_eq_true rfl]
  refine iteF ?_
  dsimp only [tNext]
  refine ret_at ?_
  have t6 := t5.mono e6
  obtain ⟨dx6, w1, w2, w3, xs6, ys6, f6⟩ := t6.f
  obtain ⟨_, _, g6⟩ := f6.g
  have e26 := e35.trans e6
  refine andv_at (op_at (cb_at ⟨_, rfl, t, dx6, _, rfl, g6, rfl, _, rfl, t, n, rs, Fs, rfl, t6, fun H7 e7 => ?_⟩))
  rw [ln]
  refine rRepr_of (d := .str z) (.str z) (small_str tz) (by omega) (by omega) ?_
  refine cb_at ⟨_, rfl, rRepr_of (d := .str z) (.str z) (small_str tz) (by omega) (by omega) ?_⟩
  refine ⟨rfl, _, rfl, ?_⟩
  rw [decide_eq_true rfl]
  refine iteT ?_
  have e27 := e26.trans e7
  exact ⟨_, rfl, _, rfl, l2, _, 0, _, rfl, rfl, SqL.of (e27 _ _ h2), atI_nat (j := 0) rfl, _, rfl, l2, _, 1, _, rfl, rfl, SqL.of (e27 _ _ h2), atI_nat (j := 1) rfl, _, _, _, rfl, t, n, rs, Fs, p, xs, rfl, t6.mono e7, J, rfl, rfl, SqL.of (e27 _ _ hp), tp_dqs (tp.imp fun _ _ h => TP.mono e27 h), fun H' e' => q _ (e12.trans (e27.trans e'))⟩
end

end T1

namespace T1
open PySem PySem.Spec PyProof.Rows L2 G
open Evl (Ex)
local macro_rules | `(tactic| walk_at "dd") => `(tactic| (dsimp only [tCB, tCons, tNil, tC, tOp, tUn, tTest, tB, tVar, tAndV, tOrV, tNotV, tIf, tAnd, tOr, tNot, tSeq, tRet, tRetN, tIfS, tAsg, gName, tDrop, tTup, tLst, tChain, tNext, tCall, L2.start]))
open M (at_)
def okV : V → Bool
  | .str z => decide (z.length ≤ 500) && (TL.tl z).all (· < 128)
  | _ => false
theorem okV_of {v : V} (h : okV v = true) : ∃ z, v = .str z ∧ Tx8 500 z := by
  cases v with
  | str z =>
    have h' : (decide (z.length ≤ 500) && (TL.tl z).all (· < 128)) = true := h
    have h2 := (Bool.and_eq_true _ _).mp h'
    exact ⟨z, rfl, of_decide_eq_true h2.1, TT.asc_of h2.2⟩
  | _ => cases h
/-- values that are no texts: what they are, as they lie in B -/
structure OddV (K : PySem.W.Frag) (B : Hp) (v : V) (d : PyData) : Prop where
  dq : Dq K B v d
  nl : isT "list" d = false
  ns : ∀ z, d ≠ .str z
  sm : Small 100 3 (.list [.str (Str.ofString "line"), d])
def sp__law_none_right (K : PySem.W.Frag) : Sp := sp0 fun H Q E => ∀ H', Ex H H' → Q (.bl true) H'
section
variable {K : PySem.W.Frag} {mg : Str → Option Value} {P : Program} {w : World} {base : Heap}
theorem ok__law_none_right (T : Tx K mg) : Cal P w K mg base CX0 10 "_law_none_right" [] (sp__law_none_right K) := by
  refine cal_of (fD__law_none_right T) (T.glo 36 rfl) sc__law_none_right (fun _ _ _ _ _ _ us hl => match us, hl with | [], _ => rfl) (fun vs H Q E h => len0 h) (fun f cdv A outer s H vs Q E hr h => ?_)
  obtain ⟨rfl, h⟩ := h
  refine ⟨_, (PSs.nox (pss_cons (ps_for PassesOwn.never rfl (pi_range1 (by rfl) (T.free 10 rfl) (pa_cons pe_int pa_nil)) (pg_name (i := 0) sc__law_none_right.nd rfl (Or.inr rfl)) (pss_cons (ps_for PassesOwn.never rfl (pi_list (pe_lst (pa_cons pe_non (pa_cons pe_int (pa_cons pe_bl (pa_cons (pe_lst (pa_cons pe_str pa_nil)) (pa_cons (pe_tup (pa_cons pe_str pa_nil)) (pa_cons pe_dnewK (pa_cons pe_int pa_nil))))))))) (pg_name (i := 1) sc__law_none_right.nd rfl (Or.inl rfl)) (pss_cons (ps_set (i := 2) sc__law_none_right.nd rfl (Or.inl rfl) (pe_c (ok__law_read T) (hr.mono (by decide)) rfl pass0 (pa_cons (pv 1) (pa_cons (pv 0) pa_nil))))
      (pss_cons (ps_if (pt_val (pe_callB (call_isiK' (K := K)) (by rfl) (T.free 5 rfl) (by decide +kernel) (pa_cons (pv 1) (pa_cons (pe_bltn (v := .ty "list") (u := .type "list") (by rfl) (T.free 7 rfl) (by decide +kernel) rfl) pa_nil)))) (pss_one (ps_expr (pe_bm PySem.F.plainAttrs_list PySem.F.slot_list_append PySem.F.type_list_append mt_append (pv 1) (pa_cons pe_str pa_nil)))) pss_nil)
      (pss_one (ps_if (pt_cmpR op_ne (pe_callB (call_reprK (K := K) T.sm hr.g (hu64 hr.r)) (by rfl) (T.free 11 rfl) (by decide +kernel) (pa_cons (pv 2) pa_nil)) (pe_callB (call_reprK (K := K) T.sm hr.g (hu64 hr.r)) (by rfl) (T.free 11 rfl) (by decide +kernel) (pa_cons (pe_lst (pa_cons pe_str (pa_cons (pv 1) pa_nil))) pa_nil)) (nomark _)) (pss_one (ps_ret pe_bl)) pss_nil)))))
      (pss_cons (ps_set (i := 3) sc__law_none_right.nd rfl (Or.inl rfl) (pe_lst (pa_cons pe_str (pa_cons pe_str (pa_cons pe_str (pa_cons pe_str (pa_cons pe_str (pa_cons pe_str (pa_cons pe_str (pa_cons pe_str (pa_cons pe_str (pa_cons pe_str (pa_cons pe_str (pa_cons pe_str (pa_cons pe_str (pa_cons pe_str pa_nil))))))))))))))))
      (pss_cons (ps_set (i := 3) sc__law_none_right.nd rfl (Or.inl rfl) (pe_op op_cat (pv 3) (pe_lst (pa_cons pe_str (pa_cons pe_str (pa_cons pe_str (pa_cons pe_str (pa_cons pe_str (pa_cons pe_str (pa_cons pe_str (pa_cons pe_str pa_nil)))))))))))
      (pss_cons (ps_set (i := 3) sc__law_none_right.nd rfl (Or.inl rfl) (pe_op op_cat (pv 3) (pe_lst (pa_cons (pe_op op_add_str (pe_op op_mul_str pe_str pe_int) pe_str) (pa_cons (pe_op op_add_str (pe_op op_mul_str pe_str pe_int) pe_str) (pa_cons (pe_op op_add_str pe_str (pe_op op_mul_str pe_str pe_int)) (pa_cons pe_str (pa_cons pe_str (pa_cons pe_str (pa_cons pe_str pa_nil))))))))))
      (pss_one (ps_if (pt_cmpR (op_neNil (K := K) (hu0 hr.r)) (pe_lc (own := [("_law_text", 4)]) rfl sc__law_none_right.nd (pi_list (pv 3)) (blkOk_by (own := [("_law_text", 4)]) (N := ["_law_kind", "_law_value", "_law_told", "_law_odd", "_law_text"]) (sc := defScope st__law_none_right) (by decide +kernel)) (fun _ _ _ _ _ => (pg_name (i := 4) sc__law_none_right.nd rfl (Or.inl rfl))) (fun _ _ _ _ _ => (pts_one (pt_not (pt_val (pe_c (ok__law_read_right T) (hr.mono (by decide)) rfl pass0 (pa_cons (pv 4) (pa_cons (pv 0) pa_nil))))))) (fun _ _ _ _ _ => (pv 4))) (pe_lst pa_nil) (nomark _)) (pss_one (ps_ret pe_bl)) pss_nil)))))))
      (pss_one (ps_ret pe_bl)))), ?_⟩
  have q := h
  have sl : ∀ {k : Nat}, k ≤ 10000 → k ≤ sizeLine := fun {k} h => by rw [sizeLine_eq]; omega
  refine seq_at ?_
  refine for_at (B := H) (n := 2) (item := fun i => .int (0 + i)) (fun P q => w_rngB (n := 2) (fun Q q => q) (by omega) q)
    (fun k σ' H' => ∃ s0 s1 s2 s3 s4, σ' = [s0, s1, s2, s3, s4] ∧ Ex H H') ?_ ?_ ?_ ?_
  · intro H1 e1
    exact ⟨_, _, _, _, _, rfl, e1⟩
  · rintro k σ' H' ⟨_, _, _, _, _, _, e⟩; exact e
  · rintro k σ' H0 hk ⟨s0, s1, s2, s3, s4, rfl, e0⟩
    dsimp only [gName]
    refine seq_at ?_
    refine ⟨sl (by show 1 ≤ 10000; omega), fun L1 hL1 => ⟨sl (by show 1 ≤ 10000; omega), fun T1 hT1 => fun D1 hD1 => ⟨sl (by show 7 ≤ 10000; omega), fun L hL => ⟨L, rfl, ⟨_, SqL.of upd_same⟩, ?_⟩⟩⟩⟩
    have x1 := Ex.new (o := .lst [V.str (Str.ofString "1:")]) hL1
    have x2 := Ex.new (o := .tup [V.str (Str.ofString "1:")]) hT1
    have x3 := Ex.new (o := .dK []) hD1
    have x4 := Ex.new (o := .lst [V.non, V.int 5, V.bl true, V.ref L1, V.ref T1, V.ref D1, V.int 1]) hL
    have e4 := e0.trans (x1.trans (x2.trans (x3.trans x4)))
    have g1 := x4 _ _ (x3 _ _ (x2 _ _ (upd_same (H := H0) (a := L1) (o := .lst [V.str (Str.ofString "1:")]))))
    have g2 := x4 _ _ (x3 _ _ (upd_same (H := upd H0 L1 (.lst [V.str (Str.ofString "1:")])) (a := T1) (o := .tup [V.str (Str.ofString "1:")])))
    have g3 := x4 _ _ (upd_same (H := upd (upd H0 L1 (.lst [V.str (Str.ofString "1:")])) T1 (.tup [V.str (Str.ofString "1:")])) (a := D1) (o := .dK []))
    have g4 : (upd (upd (upd (upd H0 L1 (.lst [V.str (Str.ofString "1:")])) T1 (.tup [V.str (Str.ofString "1:")])) D1 (.dK [])) L (.lst [V.non, V.int 5, V.bl true, V.ref L1, V.ref T1, V.ref D1, V.int 1])) L = some (.lst [V.non, V.int 5, V.bl true, V.ref L1, V.ref T1, V.ref D1, V.int 1]) := upd_same
    have hL1' : H L1 = none := Evl.fresh_back e0 hL1
    have LL : L ≠ L1 := fun z => by rw [z] at hL; rw [x3 _ _ (x2 _ _ (upd_same (H := H0) (a := L1) (o := .lst [V.str (Str.ofString "1:")])))] at hL; cases hL
    generalize (upd (upd (upd (upd H0 L1 (.lst [V.str (Str.ofString "1:")])) T1 (.tup [V.str (Str.ofString "1:")])) D1 (.dK [])) L (.lst [V.non, V.int 5, V.bl true, V.ref L1, V.ref T1, V.ref D1, V.int 1])) = H4 at e4 g1 g2 g3 g4 ⊢
    have nB : L2.del H4 L1 L1 = none := del_same
    have slB : SqL K (L2.del H4 L1) L [V.non, V.int 5, V.bl true, V.ref L1, V.ref T1, V.ref D1, V.int 1] := SqL.of (by rw [del_ne LL]; exact g4)
    have gT : L2.del H4 L1 T1 = some (.tup [V.str (Str.ofString "1:")]) := by rw [del_ne (fun z => by rw [z, g1] at g2; cases g2)]; exact g2
    have gD : L2.del H4 L1 D1 = some (.dK []) := by rw [del_ne (fun z => by rw [z, g1] at g3; cases g3)]; exact g3
    refine for_gen (its_l slB) (fun i σ' H' => ∃ s1 s2 s3 s4, σ' = [some (.int (0 + (k : Int))), s1, s2, s3, s4] ∧ Ex H H' ∧ Ex (L2.del H4 L1) H' ∧ (i ≤ 3 → H' L1 = some (.lst [V.str (Str.ofString "1:")]))) ?_ ?_ ?_ ?_
    · exact ⟨_, _, _, _, rfl, e4, Ex.ofDel, fun _ => g1⟩
    · rintro i σ' H' ⟨_, _, _, _, _, _, e, _⟩; exact e
    · rintro i σ' H5 hi ⟨s1, s2, s3, s4, rfl, e5, eb5, hx⟩
      by_cases i3 : i = 3
      · subst i3
        have h5 := hx (by omega)
        show gName 1 (V.ref L1) _ _ _
        dsimp only [gName]
        refine seq_at (asg_at ?_)
        refine ⟨_, rfl, _, rfl, _, _, rfl, .list [.str (Str.ofString "1:")], 0 + (k : Int), .lst (SqL.of h5) (.cons (.str _) .nil), rfl, (fun z e => nomatch e), fun _ l H6 e6 hl h6 => ?_, (fun z n rs Fs t l H' e => nomatch e)⟩
        dsimp only [gName]
        have h6' := e6 _ _ h5
        have dl : Dq K H6 (.ref L1) (.list [.str (Str.ofString "1:")]) := .lst (SqL.of h6') (.cons (.str _) .nil)
        refine seq_at (ifs_at (b_at (cb2_at ⟨_, rfl, isi_list dl ⟨_, rfl, ?_⟩⟩)))
        refine iteT ?_
        refine ⟨_, rfl, .inl ⟨rfl, _, SqL.of h6'⟩, L1, _, _, rfl, rfl, h6', Nat.lt_of_lt_of_le (by simp) (sl (k := 10) (by omega)), ?_⟩
        have ll : l ≠ L1 := (ne_of_none h5 hl).symm
        have h7 : (upd H6 L1 (.lst ([V.str (Str.ofString "1:")] ++ [V.str (Str.ofString "more")]))) l = some (.lst [.str (Str.ofString "line"), .ref L1]) := by rw [upd_ne ll]; exact h6
        have h8 : (upd H6 L1 (.lst ([V.str (Str.ofString "1:")] ++ [V.str (Str.ofString "more")]))) L1 = some (.lst [V.str (Str.ofString "1:"), V.str (Str.ofString "more")]) := upd_same
        have e7 := Evl.Ex.mut (o := .lst ([V.str (Str.ofString "1:")] ++ [V.str (Str.ofString "more")])) (e5.trans e6) hL1'
        have eb7 := Evl.Ex.mut (o := .lst ([V.str (Str.ofString "1:")] ++ [V.str (Str.ofString "more")])) (eb5.trans e6) nB
        generalize (upd H6 L1 (.lst ([V.str (Str.ofString "1:")] ++ [V.str (Str.ofString "more")]))) = H7 at h7 h8 e7 eb7 ⊢
        have sm : Small 100 3 (.list [.str (Str.ofString "line"), .list [.str (Str.ofString "1:"), .str (Str.ofString "more")]]) := smallB_ok (by decide +kernel)
        have d7 : ∀ {H'}, Ex H7 H' → Dq K H' (.ref L1) (.list [.str (Str.ofString "1:"), .str (Str.ofString "more")]) := fun e => .lst (SqL.of (e _ _ h8)) (.cons (.str _) (.cons (.str _) .nil))
        dsimp only
        refine ifs_at (test_at (cb_at ⟨_, rfl, rRepr_of (.lst (SqL.of h7) (.cons (.str _) (.cons (d7 (Ex.refl _)) .nil))) sm (by omega) (by omega) ?_⟩))
        refine cb_at ⟨_, rfl, sl (by show 2 ≤ 10000; omega), fun l2 hl2 => ?_⟩
        refine rRepr_of (.lst (SqL.of upd_same) (.cons (.str _) (.cons (d7 (Ex.new hl2)) .nil))) sm (by omega) (by omega) ?_
        refine ⟨rfl, _, rfl, ?_⟩
        rw [decide_eq_true rfl]
        refine iteF ?_
        exact ⟨_, _, _, _, rfl, e7.trans (Ex.new hl2), eb7.trans (Ex.new hl2), fun z => absurd z (by omega)⟩
      · obtain ⟨v, d, ev, o⟩ : ∃ v d, nth [V.non, V.int 5, V.bl true, V.ref L1, V.ref T1, V.ref D1, V.int 1] i = v ∧ OddV K (L2.del H4 L1) v d := by
          match i, hi, i3 with
          | 0, _, _ => exact ⟨_, _, rfl, .non, rfl, (fun z e => nomatch e), smallB_ok (by decide +kernel)⟩
          | 1, _, _ => exact ⟨_, _, rfl, .int 5, rfl, (fun z e => nomatch e), smallB_ok (by decide +kernel)⟩
          | 2, _, _ => exact ⟨_, _, rfl, .bl true, rfl, (fun z e => nomatch e), smallB_ok (by decide +kernel)⟩
          | 3, _, h => exact absurd rfl h
          | 4, _, _ => exact ⟨_, _, rfl, .tup (SqT.of gT) (.cons (.str _) .nil), rfl, (fun z e => nomatch e), smallB_ok (by decide +kernel)⟩
          | 5, _, _ => exact ⟨_, _, rfl, .dic gD, rfl, (fun z e => nomatch e), smallB_ok (by decide +kernel)⟩
          | 6, _, _ => exact ⟨_, _, rfl, .int 1, rfl, (fun z e => nomatch e), smallB_ok (by decide +kernel)⟩
        rw [ev]
        dsimp only [gName]
        refine seq_at (asg_at ?_)
        refine ⟨_, rfl, _, rfl, _, _, rfl, d, 0 + (k : Int), o.dq.mono eb5, rfl, (fun z e => absurd e (o.ns z)), fun _ l H6 e6 hl h6 => ?_, (fun z n rs Fs t l H' e => absurd e (o.ns z))⟩
        dsimp only [gName]
        have d6 := o.dq.mono (eb5.trans e6)
        refine seq_at (ifs_at (b_at (cb2_at ⟨_, rfl, isi_list d6 ⟨_, rfl, ?_⟩⟩)))
        rw [o.nl]
        refine iteF ?_
        dsimp only [tNext]
        refine ifs_at (test_at (cb_at ⟨_, rfl, rRepr_of (.lst (SqL.of h6) (.cons (.str _) (.cons d6 .nil))) o.sm (by omega) (by omega) ?_⟩))
        refine cb_at ⟨_, rfl, sl (by show 2 ≤ 10000; omega), fun l2 hl2 => ?_⟩
        refine rRepr_of (.lst (SqL.of upd_same) (.cons (.str _) (.cons (d6.mono (Ex.new hl2)) .nil))) o.sm (by omega) (by omega) ?_
        refine ⟨rfl, _, rfl, ?_⟩
        rw [decide_eq_true rfl]
        refine iteF ?_
        have ee := e6.trans (Ex.new (o := .lst [.str (Str.ofString "line"), v]) hl2)
        exact ⟨_, _, _, _, rfl, e5.trans ee, eb5.trans ee, fun z => ee _ _ (hx (by omega))⟩
    · rintro σ' H5 ⟨s1, s2, s3, s4, rfl, e5, eb5, hx⟩
      clear hx eb5
      dsimp only
      refine seq_at (asg_at ?_)
      refine ⟨sl (by show 14 ≤ 10000; omega), fun O1 hO1 => ?_⟩
      generalize hH6 : upd H5 O1 _ = H6
      have e6 : Ex H5 H6 := hH6 ▸ Ex.new hO1
      obtain ⟨o1, h6, l6, a6⟩ : ∃ o1, H6 O1 = some (.lst o1) ∧ o1.length ≤ 50 ∧ o1.all okV = true := ⟨_, (congrFun hH6 O1).symm.trans upd_same, by decide, by decide +kernel⟩
      clear hH6
      dsimp only [gName]
      refine seq_at (asg_at ?_)
      refine ⟨_, rfl, sl (by show 8 ≤ 10000; omega), fun O2 hO2 => ?_⟩
      generalize hH7 : upd H6 O2 _ = H7
      have e7 : Ex H6 H7 := hH7 ▸ Ex.new hO2
      obtain ⟨o2, h7, l7, a7⟩ : ∃ o2, H7 O2 = some (.lst o2) ∧ o2.length ≤ 50 ∧ o2.all okV = true := ⟨_, (congrFun hH7 O2).symm.trans upd_same, by decide, by decide +kernel⟩
      clear hH7
      refine ⟨O1, O2, o1, o2, rfl, rfl, e7 _ _ h6, h7, sl (by omega), fun O3 hO3 => ?_⟩
      have e8 := Ex.new (o := .lst (o1 ++ o2)) hO3
      have h8 : (upd H7 O3 (.lst (o1 ++ o2))) O3 = some (.lst (o1 ++ o2)) := upd_same
      generalize upd H7 O3 (.lst (o1 ++ o2)) = H8 at e8 h8 ⊢
      have a8 : (o1 ++ o2).all okV = true := by rw [List.all_append, a6, a7]; rfl
      have l8 : (o1 ++ o2).length ≤ 100 := by rw [List.length_append]; omega
      generalize o1 ++ o2 = o3 at h8 a8 l8
      dsimp only [gName]
      refine seq_at (asg_at ?_)
      have s1 : ∀ z : Str, z.length = 1 → 1 ≤ z.length ∧ z.length ≤ 1000 := fun z h => by omega
      refine ⟨_, rfl, Str.ofString "1", 20, rfl, rfl, by omega, by omega, by decide, by decide, _, _, rfl, rfl, sl (by decide +kernel), Str.ofString "0", 15, rfl, rfl, by omega, by omega, by decide, by decide, _, _, rfl, rfl, sl (by decide +kernel), ?_⟩
      refine ⟨Str.ofString "1", 20, rfl, rfl, by omega, by omega, by decide, by decide, _, _, rfl, rfl, sl (by decide +kernel), ?_⟩
      refine ⟨sl (by show 7 ≤ 10000; omega), fun O4 hO4 => ?_⟩
      generalize hH9 : upd H8 O4 _ = H9
      have e9 : Ex H8 H9 := hH9 ▸ Ex.new hO4
      obtain ⟨o4, h9, l9, a9⟩ : ∃ o4, H9 O4 = some (.lst o4) ∧ o4.length ≤ 50 ∧ o4.all okV = true := ⟨_, (congrFun hH9 O4).symm.trans upd_same, by decide +kernel, by decide +kernel⟩
      clear hH9
      refine ⟨O3, O4, o3, o4, rfl, rfl, e9 _ _ h8, h9, sl (by omega), fun O5 hO5 => ?_⟩
      have e10 := Ex.new (o := .lst (o3 ++ o4)) hO5
      have h10 : (upd H9 O5 (.lst (o3 ++ o4))) O5 = some (.lst (o3 ++ o4)) := upd_same
      generalize upd H9 O5 (.lst (o3 ++ o4)) = H10 at e10 h10 ⊢
      have a10 : (o3 ++ o4).all okV = true := by rw [List.all_append, a8, a9]; rfl
      have l10 : (o3 ++ o4).length ≤ 200 := by rw [List.length_append]; omega
      generalize o3 ++ o4 = o5 at h10 a10 l10
      dsimp only [gName]
      refine ifs_at (test_at ?_)
      refine lc_at (n := o5.length) (item := nth o5) (fun _ => false) (fun _ _ _ _ => True) (line_big (by omega)) (fun P q => ⟨_, rfl, O5, rfl, ⟨_, SqL.of h10⟩, q _ _ (Ex.refl _) (its_l (SqL.of h10))⟩) (fun _ _ _ _ _ _ h => h) (fun _ _ _ _ _ _ h => h) ?_ ?_
      · intro i D H11 hi hD e11 hacc Ny Nn hy hn
        have at_i := nth_at hi
        obtain ⟨z, ez, tz⟩ := okV_of (List.all_eq_true.mp a10 _ (List.mem_of_getElem? at_i))
        rw [ez]
        refine ⟨rfl, not_at (b_at ?_)⟩
        exact ⟨_, rfl, _, rfl, _, _, rfl, z, _, rfl, tz, rfl, fun H12 e12 => ⟨_, rfl, iteF (hn _ rfl e12)⟩⟩
      intro D ys H11 hD e11 hd11 f11
      have y0 : ys = [] := by
        have := f11.length
        rw [List.filter_eq_nil_iff.mpr (by simp)] at this
        exact List.length_eq_zero_iff.mp this.symm
      subst y0
      refine ⟨Nat.zero_le _, fun z hz => ⟨D, [], z, rfl, rfl, SqL.of (Ex.new hz _ _ hd11), SqL.of upd_same, _, rfl, ?_⟩⟩
      refine iteF ?_
      exact ⟨_, _, _, _, _, rfl, e5.trans (e6.trans (e7.trans (e8.trans (e9.trans (e10.trans (e11.trans (Ex.new hz)))))))⟩
  · rintro σ' H' ⟨s0, s1, s2, s3, s4, rfl, e⟩
    exact q _ e
end

end T1

namespace T1
open PySem PySem.Spec PyProof.Rows L2 G
open Evl (Ex)
local macro_rules | `(tactic| walk_at "dd") => `(tactic| (dsimp only [tCB, tCons, tNil, tC, tOp, tUn, tTest, tB, tVar, tAndV, tOrV, tNotV, tIf, tAnd, tOr, tNot, tSeq, tRet, tRetN, tIfS, tAsg, gName, tDrop, tTup, tLst, tChain, tNext, tCall, L2.start]))
open M (at_)
theorem ex_dd {H H' : Hp} {A : Addr} (e : Ex (L2.del H A) H') : Ex (L2.del H A) (L2.del H' A) := fun x y hxy => by
  have ne : x ≠ A := fun q => by rw [q, del_same] at hxy; cases hxy
  rw [del_ne ne]; exact e x y hxy
theorem tups_rds (rs : List (Nat × Nat)) : tups (.tuple (rs.map pairD)) = true := by
  rw [tups, tupsAll_iff]
  intro d hd
  obtain ⟨p, _, rfl⟩ := List.mem_map.mp hd
  exact tups_row [p.1, p.2]
theorem TreeAt.del {K : PySem.W.Frag} {H : Hp} {D a : Addr} {ac : List V} {n : Nat} {rs Fs} (hD : H D = some (.lst ac)) (h : TreeAt K H a n rs Fs) : TreeAt K (L2.del H D) a n rs Fs := by
  obtain ⟨⟨dx, r1, r2, r3, z, h1, h2, h3, h4⟩, b1, b2, b3, b4, b5⟩ := h
  refine ⟨⟨dx, r1, r2, r3, ?_, Dq.del hD h1 (tups_rds rs), Dq.del hD h2 (tups_rows _), Dq.del hD h3 ?_, ?_⟩, b1, b2, b3, b4, b5⟩
  · rw [del_ne (fun e => by rw [e, hD] at z; cases z)]; exact z
  · rw [tups, tupsAll_iff]
    intro d hd
    obtain ⟨F, _, rfl⟩ := List.mem_map.mp hd
    exact tups_rows F
  · obtain ⟨p, ys, e, sq, f⟩ := h4
    exact ⟨p, ys, e, SqT.del sq hD, f.imp fun _ _ z => RF.del hD z⟩
theorem WorldOk.up {n : Nat} {rs : List (Nat × Nat)} (w : WorldOk n rs) : rs.Pairwise fun p q => TT.ltP p q = true := by
  have nd := w.sub.2
  have z := w.as.and nd
  refine z.imp fun {p q} h => ?_
  obtain ⟨h1, h2⟩ := h
  unfold ltN at h1
  rw [ltP_R] at h1
  unfold TT.ltP at h1 ⊢
  have ne : ¬ (p.1 = q.1 ∧ p.2 = q.2) := fun e => h2 (Prod.ext e.1 e.2)
  simp at h1 ⊢
  omega
/-- a world's line is read as the world -/
theorem WorldOk.reads {n : Nat} {rs : List (Nat × Nat)} (w : WorldOk n rs) : Reads (TT.line n rs) n rs := by
  refine ⟨_, _, TT.line_split n rs, TT.first_of n, w.n1, w.n16, ?_, ⟨TT.line_roads rs, w.sub.1, w.up⟩, fun v hv => (TreeG.of w.gr).con 0 v (by have := w.n1; omega) hv⟩
  rw [List.length_map, w.rl]
  have := w.n1
  omega
theorem WorldOk.tx {n : Nat} {rs : List (Nat × Nat)} (w : WorldOk n rs) : Tx8 100 (TT.line n rs) := by
  have := w.n16
  exact tx_line (by omega) (fun p hp => by have := w.sub.1 p hp; omega) (by rw [w.rl]; omega)
theorem line_pos (n : Nat) (rs : List (Nat × Nat)) : 1 ≤ (TT.line n rs).length := by
  have z := TT.split_part TT.tl_blank (by decide) (TT.line n rs) (TT.str n ++ ":") (by rw [TT.line_split]; exact List.mem_cons_self)
  rw [TT.len_app] at z
  have c : (":" : Str).length = 1 := rfl
  omega
def sp_law (K : PySem.W.Frag) : Sp := sp1 fun a H Q E => ∃ (p : Addr) (ns : List Int), a = .ref p ∧ SqL K H p (ns.map V.int) ∧ ∀ H', Ex H H' → Q (.bl true) H'
section
variable {K : PySem.W.Frag} {mg : Str → Option Value} {P : Program} {w : World} {base : Heap}
theorem ok_law (T : Tx K mg) : Cal P w K mg base CX0 11 "law" ["_law_script"] (sp_law K) := by
  refine cal_of (fD_law T) (T.glo 37 rfl) sc_law (fun _ _ _ _ _ _ us hl => match us, hl with | [_], _ => rfl) (fun vs H Q E h => len1 h) (fun f cdv A outer s H vs Q E hr h => ?_)
  obtain ⟨a, rfl, h⟩ := h
  refine ⟨_, (PSs.nox (pss_cons (ps_if (pt_not (pt_val (pe_c0 (ok__law_none_right T) (hr.mono (by decide)) rfl pass0))) (pss_one (ps_ret pe_bl)) pss_nil)
      (pss_cons (ps_for PassesOwn.never rfl (pi_range1 (by rfl) (T.free 10 rfl) (pa_cons (pe_callB (call_max2 rfl) (by rfl) (T.free 8 rfl) (by decide +kernel) (pa_cons pe_int (pa_cons (pe_callB (call_min2 rfl) (by rfl) (T.free 9 rfl) (by decide +kernel) (pa_cons pe_int (pa_cons (pe_callB (call_lenK (K := K)) (by rfl) (T.free 6 rfl) (by decide +kernel) (pa_cons (pv 0) pa_nil)) pa_nil))) pa_nil))) pa_nil)) (pg_name (i := 1) sc_law.nd rfl (Or.inl rfl)) (pss_cons (ps_set (i := 2) sc_law.nd rfl (Or.inl rfl) (pe_c (ok__law_box T) (hr.mono (by decide)) rfl pass0 (pa_cons (pe_c (ok__law_cell T) (hr.mono (by decide)) rfl pass0 (pa_cons (pv 0) (pa_cons (pv 1) pa_nil))) pa_nil)))
      (pss_cons (ps_set (i := 3) sc_law.nd rfl (Or.inl rfl) (pe_lst (pa_cons (pe_c (ok__law_world T) (hr.mono (by decide)) rfl pass0 (pa_cons (pv 2) pa_nil)) (pa_cons (pe_c (ok__law_world T) (hr.mono (by decide)) rfl pass0 (pa_cons (pv 2) pa_nil)) pa_nil))))
      (pss_cons (ps_setLc (i := 4) (own := [("_law_world_here", 10)]) rfl sc_law.nd rfl rfl (sw_true rfl rfl rfl (by decide +kernel)) (pi_list (pv 3)) (blkOk_by (own := [("_law_world_here", 10)]) (N := ["_law_script", "_law_k", "_law_box_here", "_law_worlds", "_law_webs", "_law_texts", "_law_kept", "_law_turn", "_law_again", "_law_odd", "_law_world_here", "_law_web"]) (sc := defScope st_law) (by decide +kernel)) (fun _ _ _ _ _ => (pg_name (i := 10) sc_law.nd rfl (Or.inl rfl))) (fun _ _ _ _ _ => pts_nil) (fun _ _ _ _ _ => (tree_mk (K := K) T (hr.mono (by decide)) rfl (pa_cons (pe_ix (ix_listK (K := K)) (pv 10) pe_int (fun _ _ => rfl)) (pa_cons (pe_callTy (call_listK (K := K)) (by rfl) (T.free 7 rfl) (by decide +kernel) (pa_cons (pe_ix (ix_listK (K := K)) (pv 10) pe_int (fun _ _ => rfl)) pa_nil)) pa_nil)))))
      (pss_cons (ps_setLc (i := 5) (own := [("_law_world_here", 10)]) rfl sc_law.nd rfl rfl (sw_true rfl rfl rfl (by decide +kernel)) (pi_list (pv 3)) (blkOk_by (own := [("_law_world_here", 10)]) (N := ["_law_script", "_law_k", "_law_box_here", "_law_worlds", "_law_webs", "_law_texts", "_law_kept", "_law_turn", "_law_again", "_law_odd", "_law_world_here", "_law_web"]) (sc := defScope st_law) (by decide +kernel)) (fun _ _ _ _ _ => (pg_name (i := 10) sc_law.nd rfl (Or.inl rfl))) (fun _ _ _ _ _ => pts_nil) (fun _ _ _ _ _ => (pe_c (ok__law_written T) (hr.mono (by decide)) rfl pass0 (pa_cons (pe_ix (ix_listK (K := K)) (pv 10) pe_int (fun _ _ => rfl)) (pa_cons (pe_ix (ix_listK (K := K)) (pv 10) pe_int (fun _ _ => rfl)) pa_nil)))))
      (pss_cons (ps_set (i := 6) sc_law.nd rfl (Or.inl rfl) (pe_lst (pa_cons (pe_c (ok_read_tree T) (hr.mono (by decide)) rfl passL (pa_cons (pe_ix (ix_listK (K := K)) (pv 5) pe_int (fun _ _ => rfl)) pa_nil)) (pa_cons (pe_c (ok_read_tree T) (hr.mono (by decide)) rfl passL (pa_cons (pe_ix (ix_listK (K := K)) (pv 5) pe_int (fun _ _ => rfl)) pa_nil)) pa_nil))))
      (pss_cons (ps_if (PW.pt (pw_or (pt_cmpR op_ne (pe_callB (call_reprK (K := K) T.sm hr.g (hu64 hr.r)) (by rfl) (T.free 11 rfl) (by decide +kernel) (pa_cons (pe_lc (own := [("_law_web", 11)]) rfl sc_law.nd (pi_list (pv 4)) (blkOk_by (own := [("_law_web", 11)]) (N := ["_law_script", "_law_k", "_law_box_here", "_law_worlds", "_law_webs", "_law_texts", "_law_kept", "_law_turn", "_law_again", "_law_odd", "_law_world_here", "_law_web"]) (sc := defScope st_law) (by decide +kernel)) (fun _ _ _ _ _ => (pg_name (i := 11) sc_law.nd rfl (Or.inl rfl))) (fun _ _ _ _ _ => pts_nil) (fun _ _ _ _ _ => (tree_line (K := K) T (hr.mono (by decide)) (pv 11)))) pa_nil)) (pe_callB (call_reprK (K := K) T.sm hr.g (hu64 hr.r)) (by rfl) (T.free 11 rfl) (by decide +kernel) (pa_cons (pv 5) pa_nil)) (nomark _)) (pw_or (pt_cmpR (tree_ne (K := K) T (hr.mono (by decide))) (pe_ix (ix_listK (K := K)) (pv 6) pe_int (fun _ _ => rfl)) (pe_ix (ix_listK (K := K)) (pv 4) pe_int (fun _ _ => rfl)) (nomark _)) (pw_or1 (pt_cmpR (tree_ne (K := K) T (hr.mono (by decide))) (pe_ix (ix_listK (K := K)) (pv 6) pe_int (fun _ _ => rfl)) (pe_ix (ix_listK (K := K)) (pv 4) pe_int (fun _ _ => rfl)) (nomark _)))))) (pss_one (ps_ret pe_bl)) pss_nil)
      (pss_one (ps_for PassesOwn.never rfl (pi_range1 (by rfl) (T.free 10 rfl) (pa_cons pe_int pa_nil)) (pg_name (i := 7) sc_law.nd rfl (Or.inl rfl)) (pss_one (ps_for PassesOwn.never rfl (pi_range1 (by rfl) (T.free 10 rfl) (pa_cons pe_int pa_nil)) (pg_name (i := 8) sc_law.nd rfl (Or.inl rfl)) (pss_cons (ps_if (pt_not (pt_val (pe_c (ok__law_read_right T) (hr.mono (by decide)) rfl pass0 (pa_cons (pe_ix (ix_listK (K := K)) (pv 5) (pv 7) (fun _ _ => rfl)) (pa_cons (pe_op op_mod (pv 8) pe_int) pa_nil))))) (pss_one (ps_ret pe_bl)) pss_nil)
      (pss_cons (ps_set (i := 9) sc_law.nd rfl (Or.inl rfl) (pe_c (ok__law_changed T) (hr.mono (by decide)) rfl pass0 (pa_cons (pv 2) (pa_cons (pe_ix (ix_listK (K := K)) (pv 3) (pv 7) (fun _ _ => rfl)) (pa_cons (pe_ix (ix_listK (K := K)) (pv 5) (pv 7) (fun _ _ => rfl)) pa_nil)))))
      (pss_one (ps_if (pt_not (pt_val (pe_c (ok__law_read_right T) (hr.mono (by decide)) rfl pass0 (pa_cons (pv 9) (pa_cons (pe_op op_mod (pv 8) pe_int) pa_nil))))) (pss_one (ps_ret pe_bl)) pss_nil)))))))))))))))
      (pss_one (ps_ret pe_bl))))), ?_⟩
  obtain ⟨p, ns, rfl, sq, q⟩ := h
  have sl : ∀ {k : Nat}, k ≤ 10000 → k ≤ sizeLine := fun {k} h => by rw [sizeLine_eq]; omega
  have bd : ∀ x : Int, -(2 ^ 62) ≤ (if (if x < 3 then x else 3) > 2 then (if x < 3 then x else 3) else 2) ∧ (if (if x < 3 then x else 3) > 2 then (if x < 3 then x else 3) else 2) < 2 ^ 62 := fun x => by constructor <;> (split <;> (try split) <;> omega)
  refine seq_at (ifs_at (not_at (b_at ?_)))
  refine ⟨rfl, fun H0 e0 => ⟨_, rfl, ?_⟩⟩
  refine iteF ?_
  dsimp only [tNext]
  refine seq_at ?_
  refine for_at (B := fun _ => none) (item := fun i => .int (0 + i)) (fun P q => ⟨_, rfl, p, _, rfl, .inl (Evl.ex_l e0 sq), _, _, rfl, _, _, rfl, _, rfl, (bd _).1, (bd _).2, q _ _ (Evl.Ex.refl _) (its_r 0 _)⟩) (fun i σ' H' => (∃ s1 s2 s3 s4 s5 s6 s7 s8 s9 s10 s11, σ' = [some (.ref p), s1, s2, s3, s4, s5, s6, s7, s8, s9, s10, s11]) ∧ Ex H H') ?_ (fun _ _ _ _ a o z => by cases z) ?_ ?_
  · exact fun H1 e1 => ⟨⟨_, _, _, _, _, _, _, _, _, _, _, rfl⟩, e0.trans e1⟩
  rotate_left
  · rintro σ' H' ⟨⟨s1, s2, s3, s4, s5, s6, s7, s8, s9, s10, s11, rfl⟩, e⟩
    exact q _ e
  rintro i σ' H1 hi ⟨⟨s1, s2, s3, s4, s5, s6, s7, s8, s9, s10, s11, rfl⟩, e1⟩
  rw [show (V.int (0 + (i : Int))) = iV i by rw [Int.zero_add]; rfl]
  dsimp only [gName]
  refine seq_at (asg_at ?_)
  refine ⟨_, rfl, _, rfl, _, _, rfl, p, ns, i, rfl, Evl.ex_l e1 sq, rfl, fun z H2 e2 => ⟨_, rfl, z, rfl, fun A H3 hA e3 hb3 => ?_⟩⟩
  have e03 := (e1.trans e2).trans e3
  have hA0 : H A = none := Evl.fresh_back (e1.trans e2) hA
  dsimp only [gName]
  refine seq_at (asg_at ?_)
  obtain ⟨l3, hl3⟩ := hb3.some
  refine ⟨_, rfl, _, rfl, A, 0, rfl, by omega, hb3, fun wv1 n1 rs1 H4 e4 hb4 wo1 wd1 => ?_⟩
  have wo1' := wd1 A _ hl3
  obtain ⟨l4, hl4⟩ := hb4.some
  refine ⟨_, rfl, _, rfl, A, 40, rfl, by omega, hb4, fun wv2 n2 rs2 H5 e5 hb5 wo2 wd2 => ⟨sl (by show 2 ≤ 10000; omega), fun W hW => ?_⟩⟩
  have wo2' := wd2 A _ hl4
  have wo1'' := wo1'.mono (ex_dd e5)
  have e05 : Ex H H5 := ex_of_del (ex_of_del e03 hA0 e4) hA0 e5
  obtain ⟨l5, hl5⟩ := hb5.some
  have WA : W ≠ A := (ne_of_none hl5 hW).symm
  have e6 := Ex.new (o := .lst [wv1, wv2]) hW
  have hW6 : (upd H5 W (.lst [wv1, wv2])) W = some (.lst [wv1, wv2]) := upd_same
  have hb6 := hb5.mono e6
  generalize (upd H5 W (.lst [wv1, wv2])) = H6 at e6 hW6 hb6 ⊢
  have e06 := e05.trans e6
  have w1 := wo1''.mono (show Ex (L2.del H5 A) (L2.del H6 A) from Ex.del e6)
  have w2 := wo2'.mono (show Ex (L2.del H5 A) (L2.del H6 A) from Ex.del e6)
  clear wo1 wd1 wo1' wo2 wd2 wo2' wo1'' e4 e5 e6 hW hl3 hl4 hl5 hb3 hb4 hb5
  obtain ⟨wn, rr, wk⟩ : ∃ (wn : Nat → Nat) (rr : Nat → List (Nat × Nat)), ∀ j, j < 2 → ∃ wv, [wv1, wv2][j]? = some wv ∧ WorldAt K (L2.del H6 A) wv (wn j) (rr j) :=
    ⟨fun j => if j = 0 then n1 else n2, fun j => if j = 0 then rs1 else rs2, fun j hj => by
      match j, hj with
      | 0, _ => exact ⟨_, rfl, w1⟩
      | 1, _ => exact ⟨_, rfl, w2⟩⟩
  clear w1 w2
  generalize hws : [wv1, wv2] = wl at hW6 wk
  have wl2 : wl.length = 2 := by rw [← hws]; rfl
  clear hws
  have wA : L2.del H6 A W = some (.lst wl) := by rw [del_ne WA]; exact hW6
  dsimp only [gName]
  refine seq_at (asg_at ?_)
  refine lc_at (n := 2) (item := nth wl) (fun _ => true) (fun j D y H' => ∃ t Fs, y = .ref t ∧ TreeAt K (L2.del H' D) t (wn j) (rr j) Fs) (line_big (by omega)) (fun P q => ⟨_, rfl, W, rfl, ⟨_, SqL.of hW6⟩, q _ _ (Ex.refl _) (wl2 ▸ its_l (SqL.of hW6))⟩)
    (fun j D y H' o _ h => by rw [del_upd]; exact h) (fun j D y H' H'' e ⟨t, Fs, a, b⟩ => ⟨t, Fs, a, b.mono (Ex.del e)⟩) ?_ ?_
  · intro j D H7 hj hD e7 ⟨ac, hac⟩ Ny Nn hy _
    obtain ⟨wv, ew, wo⟩ := wk j hj
    have en : nth wl j = wv := by unfold nth; rw [ew]; rfl
    rw [en]
    obtain ⟨w0, S, ts, rfl, h1, h2, h3⟩ := wo.at_
    have eb : Ex (L2.del H6 A) H7 := Ex.ofDel.trans e7
    refine ⟨rfl, _, rfl, w0, _, 0, _, rfl, rfl, SqL.of (eb _ _ h1), atI_nat (j := 0) rfl, _, rfl, w0, _, 1, _, rfl, rfl, SqL.of (eb _ _ h1), atI_nat (j := 1) rfl, S, ts, rfl, .inl (SqL.of (eb _ _ h2)), fun L hL => ⟨rfl, rfl, ?_⟩⟩
    have xL := Ex.new (o := .lst ts) hL
    refine world_tree (d2 := .list ((rr j).map pairD)) wo.ok (.int _) (.lst (SqL.of upd_same) (tp_dqs (h3.imp fun _ _ h => TP.mono (eb.trans xL) h))) rfl rfl fun x H8 Fs x8 hx tr8 => ?_
    exact hy _ _ rfl (xL.trans x8) ⟨x, Fs, rfl, tr8.del ((xL.trans x8) _ _ hac)⟩
  intro D1 ys1 H7 hD1 e7 hd1 f1
  rw [range_all] at f1
  have webs : ∀ j, j < 2 → ∃ t Fs, ys1[j]? = some (.ref t) ∧ TreeAt K H7 t (wn j) (rr j) Fs := fun j hj => by
    obtain ⟨y, hy, t, Fs, rfl, tr⟩ := F2.get f1 (i := j) (a := j) (List.getElem?_range hj)
    exact ⟨t, Fs, hy, tr.mono Ex.ofDel⟩
  have yl1 : ys1.length = 2 := by have := f1.length; rw [List.length_range] at this; exact this.symm
  clear f1
  dsimp only [gName]
  refine seq_at (asg_at ?_)
  refine lc_at (n := 2) (item := nth wl) (fun _ => true) (fun j D y H' => y = .str (TT.line (wn j) (rr j))) (line_big (by omega)) (fun P q => ⟨_, rfl, W, rfl, ⟨_, SqL.of (e7 _ _ hW6)⟩, q _ _ (Ex.refl _) (wl2 ▸ its_l (SqL.of (e7 _ _ hW6)))⟩) (fun _ _ _ _ _ _ h => h) (fun _ _ _ _ _ _ h => h) ?_ ?_
  · intro j D H8 hj hD e8 hacc Ny Nn hy _
    obtain ⟨wv, ew, wo⟩ := wk j hj
    have en : nth wl j = wv := by unfold nth; rw [ew]; rfl
    rw [en]
    obtain ⟨w0, S, ts, rfl, h1, h2, h3⟩ := wo.at_
    have eb : Ex (L2.del H6 A) H8 := Ex.ofDel.trans (e7.trans e8)
    have n16 := wo.ok.n16
    refine ⟨rfl, _, rfl, w0, _, 0, _, rfl, rfl, SqL.of (eb _ _ h1), atI_nat (j := 0) rfl, _, rfl, w0, _, 1, _, rfl, rfl, SqL.of (eb _ _ h1), atI_nat (j := 1) rfl, _, _, rfl, wn j, S, ts, rr j, rfl, by omega, rfl, SqL.of (eb _ _ h2), tp_dqs (h3.imp fun _ _ h => TP.mono eb h), by rw [wo.ok.rl]; omega, fun pr hp => by have := wo.ok.sub.1 pr hp; omega, fun H9 e9 => hy _ _ rfl e9 rfl⟩
  intro D2 ys2 H8 hD2 e8 hd2 f2
  rw [range_all] at f2
  have y2 : ys2 = [.str (TT.line (wn 0) (rr 0)), .str (TT.line (wn 1) (rr 1))] := F2.map_eq (f := fun j => V.str (TT.line (wn j) (rr j))) f2
  subst y2
  clear f2
  have tat : ∀ j, j < 2 → [V.str (TT.line (wn 0) (rr 0)), V.str (TT.line (wn 1) (rr 1))][j]? = some (.str (TT.line (wn j) (rr j))) := fun j hj => by
    match j, hj with
    | 0, _ => rfl
    | 1, _ => rfl
  have wok : ∀ j, j < 2 → WorldOk (wn j) (rr j) := fun j hj => let ⟨_, _, wo⟩ := wk j hj; wo.ok
  have e68 := e7.trans e8
  dsimp only [gName]
  refine seq_at (asg_at ?_)
  refine ⟨_, rfl, D2, _, 0, _, rfl, rfl, SqL.of hd2, atI_nat (tat 0 (by omega)), _, rfl, .str _, .str _, fun z' e => by cases e; exact Nat.le_trans (wok 0 (by omega)).tx.ln (by omega), fun no => absurd ⟨_, _, (wok 0 (by omega)).reads⟩ (no _ rfl), fun z' n' rs' Fs0 k0 H9 ez R0 e9 tr0 _ => ?_⟩
  cases ez
  obtain ⟨en0, er0⟩ := (wok 0 (by omega)).reads.one R0
  subst en0 er0
  refine ⟨_, rfl, D2, _, 1, _, rfl, rfl, SqL.of (e9 _ _ hd2), atI_nat (tat 1 (by omega)), _, rfl, .str _, .str _, fun z' e => by cases e; exact Nat.le_trans (wok 1 (by omega)).tx.ln (by omega), fun no => absurd ⟨_, _, (wok 1 (by omega)).reads⟩ (no _ rfl), fun z' n' rs' Fs1 k1 H10 ez R1 e10 tr1 _ => ⟨sl (by show 2 ≤ 10000; omega), fun KK hKK => ?_⟩⟩
  cases ez
  obtain ⟨en1, er1⟩ := (wok 1 (by omega)).reads.one R1
  subst en1 er1
  have e11 := Ex.new (o := .lst [V.ref k0, V.ref k1]) hKK
  have h11 : (upd H10 KK (.lst [V.ref k0, V.ref k1])) KK = some (.lst [V.ref k0, V.ref k1]) := upd_same
  generalize (upd H10 KK (.lst [V.ref k0, V.ref k1])) = H11 at e11 h11 ⊢
  have e8b := e9.trans (e10.trans e11)
  have tr0' := tr0.mono (e10.trans e11)
  have tr1' := tr1.mono e11
  have hd2' := e8b _ _ hd2
  have hd1' := (e8.trans e8b) _ _ hd1
  dsimp only [gName]
  refine seq_at (ifs_at (or_at (test_at (cb_at ?_))))
  refine lc_at (n := 2) (item := nth ys1) (fun _ => true) (fun j D y H' => y = .str (TT.line (wn j) (rr j))) (line_big (by omega)) (fun P q => ⟨_, rfl, D1, rfl, ⟨_, SqL.of hd1'⟩, q _ _ (Ex.refl _) (yl1 ▸ its_l (SqL.of hd1'))⟩) (fun _ _ _ _ _ _ h => h) (fun _ _ _ _ _ _ h => h) ?_ ?_
  · intro j D H12 hj hD e12 hacc Ny Nn hy _
    obtain ⟨t, Fs, et, tr⟩ := webs j hj
    have en : nth ys1 j = .ref t := by unfold nth; rw [et]; rfl
    rw [en]
    have tr12 := tr.mono (e8.trans (e8b.trans e12))
    obtain ⟨dx6, v1, v2, v3, xs6, ys6, f6⟩ := tr12.f
    obtain ⟨_, _, g6⟩ := f6.g
    exact ⟨rfl, _, rfl, t, dx6, _, rfl, g6, rfl, _, rfl, t, _, _, Fs, rfl, tr12, fun H13 e13 => hy _ _ rfl e13 rfl⟩
  intro D3 ys3 H12 hD3 e12 hd3 f3
  rw [range_all] at f3
  have y3 : ys3 = [.str (TT.line (wn 0) (rr 0)), .str (TT.line (wn 1) (rr 1))] := F2.map_eq (f := fun j => V.str (TT.line (wn j) (rr j))) f3
  subst y3
  clear f3
  have sm : Small 1100 2 (.list [.str (TT.line (wn 0) (rr 0)), .str (TT.line (wn 1) (rr 1))]) := small_two _ (small_str ((wok 0 (by omega)).tx.up (by omega))) ((wok 1 (by omega)).tx.up (by omega))
  refine rRepr_of (.lst (SqL.of hd3) (.cons (.str _) (.cons (.str _) .nil))) sm (by omega) (by omega) ?_
  refine cb_at ⟨_, rfl, rRepr_of (.lst (SqL.of (e12 _ _ hd2')) (.cons (.str _) (.cons (.str _) .nil))) sm (by omega) (by omega) ?_⟩
  refine ⟨rfl, _, rfl, ?_⟩
  rw [decide_eq_true rfl]
  refine iteF (or_at (test_at ?_))
  obtain ⟨t0, F0, et0, trw0⟩ := webs 0 (by omega)
  obtain ⟨t1, F1, et1, trw1⟩ := webs 1 (by omega)
  have e7c := e8.trans (e8b.trans e12)
  refine ⟨_, rfl, KK, _, 0, _, rfl, rfl, SqL.of (e12 _ _ h11), atI_nat (j := 0) rfl, _, rfl, D1, _, 0, _, rfl, rfl, SqL.of (e12 _ _ hd1'), atI_nat et0, ne_trees T (tr0'.mono e12) (trw0.mono e7c) ⟨_, rfl, ?_⟩⟩
  rw [decide_eq_true rfl, decide_eq_true rfl]
  refine iteF (test_at ?_)
  refine ⟨_, rfl, KK, _, 1, _, rfl, rfl, SqL.of (e12 _ _ h11), atI_nat (j := 1) rfl, _, rfl, D1, _, 1, _, rfl, rfl, SqL.of (e12 _ _ hd1'), atI_nat et1, ne_trees T (tr1'.mono e12) (trw1.mono e7c) ⟨_, rfl, ?_⟩⟩
  rw [decide_eq_true rfl, decide_eq_true rfl]
  refine iteF ?_
  have e6c := e7.trans e7c
  have hbc := hb6.mono e6c
  have hWc := e6c _ _ hW6
  have hTc := e12 _ _ hd2'
  have wkc : ∀ j, j < 2 → ∃ wv, wl[j]? = some wv ∧ WorldAt K (L2.del H12 A) wv (wn j) (rr j) := fun j hj => let ⟨wv, a, b⟩ := wk j hj; ⟨wv, a, b.mono (Ex.del e6c)⟩
  have eHc := e06.trans e6c
  obtain ⟨lc, hlc⟩ := hbc.some
  have DA : D2 ≠ A := fun z => by rw [z] at hTc; rw [hlc] at hTc; obtain ⟨x, b, y, k, zz, _⟩ := hbc; rw [hlc] at zz; cases zz; cases hTc
  dsimp only [tNext]
  have WD : Ex (L2.del H12 A) H12 := Ex.ofDel
  have hWd : L2.del H12 A W = some (.lst wl) := by rw [del_ne WA]; exact hWc
  have hTd : L2.del H12 A D2 = some (.lst [V.str (TT.line (wn 0) (rr 0)), V.str (TT.line (wn 1) (rr 1))]) := by rw [del_ne DA]; exact hTc
  have eHd : ∀ {H'}, Ex (L2.del H12 A) H' → Ex H H' := fun e => ex_of_del eHc hA0 e
  refine for_at (B := fun _ => none) (n := 2) (item := fun i => .int (0 + i)) (fun P q => w_rngB (n := 2) (fun Q q => q) (by omega) q)
    (fun t σ' H' => (∃ s7 s8 s9 s10 s11, σ' = [some (.ref p), some (iV i), some (.ref A), some (.ref W), some (.ref D1), some (.ref D2), some (.ref KK), s7, s8, s9, s10, s11]) ∧ Ex (L2.del H12 A) H' ∧ BoxAt H' A (80 + 300 * t)) ?_ (fun _ _ _ _ a o z => by cases z) ?_ ?_
  · exact fun H13 e13 => ⟨⟨_, _, _, _, _, rfl⟩, WD.trans e13, (hbc.mono e13).up (by omega)⟩
  rotate_left
  · rintro σ' H' ⟨⟨s7, s8, s9, s10, s11, rfl⟩, e, _⟩
    exact ⟨⟨_, _, _, _, _, _, _, _, _, _, _, rfl⟩, eHd e⟩
  rintro t σ' H13 ht ⟨⟨s7, s8, s9, s10, s11, rfl⟩, e13, hb13⟩
  rw [show (V.int (0 + (t : Int))) = iV t by rw [Int.zero_add]; rfl]
  dsimp only [gName]
  refine for_at (B := fun _ => none) (n := 10) (item := fun i => .int (0 + i)) (fun P q => w_rngB (n := 10) (fun Q q => q) (by omega) q)
    (fun a σ' H' => (∃ s8 s9 s10 s11, σ' = [some (.ref p), some (iV i), some (.ref A), some (.ref W), some (.ref D1), some (.ref D2), some (.ref KK), some (iV t), s8, s9, s10, s11]) ∧ Ex (L2.del H12 A) H' ∧ BoxAt H' A (80 + 300 * t + 30 * a)) ?_ (fun _ _ _ _ a o z => by cases z) ?_ ?_
  · exact fun H14 e14 => ⟨⟨_, _, _, _, rfl⟩, e13.trans e14, (hb13.mono e14).up (by omega)⟩
  rotate_left
  · rintro σ' H' ⟨⟨s8, s9, s10, s11, rfl⟩, e, hb⟩
    exact ⟨⟨_, _, _, _, _, rfl⟩, e, hb.up (by omega)⟩
  rintro a σ' H14 ha ⟨⟨s8, s9, s10, s11, rfl⟩, e14, hb14⟩
  dsimp only [gName]
  obtain ⟨wv, ewv, wo⟩ := wkc t ht
  have tx := (wok t ht).tx
  refine seq_at (ifs_at (not_at (b_at ?_)))
  refine ⟨_, rfl, _, rfl, D2, _, _, _, rfl, rfl, SqL.of (e14 _ _ hTd), atI_nat (tat t ht), _, rfl, _, _, rfl, rfl, (by show (0 : Int) < 2; omega), _, _, rfl, _, _, rfl, tx.up (by omega), rfl, fun H15 e15 => ⟨_, rfl, iteF ?_⟩⟩
  dsimp only [tNext]
  refine seq_at (asg_at ?_)
  have hb15 := hb14.mono e15
  have ed15 := e14.trans e15
  refine ⟨_, rfl, _, rfl, _, rfl, W, _, _, _, rfl, rfl, SqL.of (ed15 _ _ hWd), atI_nat ewv, _, rfl, _, rfl, D2, _, _, _, rfl, rfl, SqL.of (ed15 _ _ hTd), atI_nat (tat t ht), _, _, _, rfl, A, 80 + 300 * t + 30 * a, wn t, rr t, _, rfl, by omega, hb15, wo.mono (ex_dd ed15), rfl, tx, line_pos _ _, fun z' H16 e16 hb16 tz' => ?_⟩
  dsimp only [gName]
  have ed16 : Ex (L2.del H12 A) H16 := ex_of_del ed15 del_same e16
  refine ifs_at (not_at (b_at ?_))
  refine ⟨_, rfl, _, rfl, _, _, rfl, rfl, (by show (0 : Int) < 2; omega), _, _, rfl, _, _, rfl, tz', rfl, fun H17 e17 => ⟨_, rfl, iteF ?_⟩⟩
  exact ⟨⟨_, _, _, _, rfl⟩, ed16.trans e17, (hb16.mono e17).up (by omega)⟩
end

end T1

namespace T1
open PySem PySem.Spec PyProof.Rows L2 G
theorem end_law {P : Program} {w : World} {K : PySem.W.Frag} {h : Heap} {mg : Str → Option Value} {f : Addr} (X : K.In h) (G : h.Ns mainGlobals mg) (hfa : mg ("law" : Str) = some (.ref f)) (c : Says K) :
    ∃ fd : FuncData, (∀ (s : Shared) (v : Value), BindsTo s fd ⟨[v], []⟩ [("_law_script", v)]) ∧ ∀ base : Heap, K.In base → base.Ns mainGlobals mg → FG P w K mg base CX0 11 f fd ["_law_script"] (sp_law K) := by
  have T := tx_of X G c
  have e := hfa.symm.trans (T.glo 37 rfl)
  cases e
  obtain ⟨fd, D⟩ := fD_law T
  have b := FunD.bindsA (ps := ["_law_script"]) D fun _ _ _ _ _ _ us hl => match us, hl with | [_], _ => rfl
  refine ⟨fd, fun s v => b s [v] rfl, fun base _ _ => ?_⟩
  obtain ⟨fd', D', G'⟩ := cal_fg (ok_law (P := P) (w := w) (base := base) T) ⟨fd, D⟩
  have eq : fd = fd' := by
    obtain ⟨oc, od, _, _, _, _, _, _, _, osl, _, lk, _⟩ := id D.ex
    obtain ⟨oc', od', _, _, _, _, _, _, _, osl', _, lk', _⟩ := id D'.ex
    rw [lk] at lk'
    cases lk'
    rfl
  subst eq
  exact G'
end T1
open PyProof.Rows PySem PySem.W PySem.Calls
theorem PySem.Challenge.cw_looksleft_k02_tree_lines_holds : PySem.Challenge.rw_looksleft_k02_tree_lines.Holds := by
  w_on; o_law
  refine HandSHeadRun.head_any (r := T1.R) (q := view T1.R.prog [43]) (H := T1.hk) (ob := T1.ob) (M := 30000) (loose := T1.names) (kwd := [])
    (d := HandSHeadRun.topDef T1.R.prog 43) T1.ob_eq (by kernel_rfl) (fun s => by kernel_rfl) T1.run (by kernel_rfl) (by kernel_rfl) (by kernel_rfl)
    (by rfl) (by first | assumption | decide +kernel) (by decide +kernel)
    ⟨rfl, rfl, rfl, rfl, rfl, by decide +kernel⟩ ?hw ?hc
  case hw => w_witness2
  case hc =>
    refine G.walk_G (l := PySem.Challenge.rw_looksleft_k02_tree_lines) (n := 63) (k := 11) (x := "_law_script") rfl (by decide) (by kernel_rfl) ?room ?F
    case room => exact ⟨rfl, by decide, by decide⟩
    case F =>
      intro w mg fa h Y nsG hmg0
      obtain ⟨K, KX, c⟩ := Y
      have at_law : mg ("law" : PySem.Str) = some (.ref fa) := by
        have e : (HandSHeadRun.topDef T1.R.prog 43).name = ("law" : PySem.Str) := by kernel_rfl
        rw [← e]
        exact hmg0
      obtain ⟨fd, hb, hF⟩ := T1.end_law (P := (PySem.Challenge.rw_looksleft_k02_tree_lines).prog) (w := w) KX nsG at_law c
      exact ⟨K, fd, T1.sp_law K, KX, hb, fun H a ns hl _ hS => ⟨_, rfl, a, ns, rfl, hS, fun _ _ => rfl⟩, hF⟩

