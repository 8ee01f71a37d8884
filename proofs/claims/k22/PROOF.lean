import PyProof.Rows.All
import Wide.All
import OpenK.AllK
import Wide.FinOn
import HandS.More
import HandS.Nested
import HandS.Star
import HandS.Words
import KE.KSuperObj
import KE.KSuper
import HandS.HeadHook1
import HandS.HeadHook2
import HandS.Head0
import HandS.Head1
import HandS.Head2
import KE.KTypeName
import PyProof.InstEq
import HandS.OwnEq
import HandS.ForMost
import HandS.Defaults
import HandS.IsInst
import HandS.Style
import HandS.Flow
import HandS.TupAny
import HandS.Small
import HandS.Walk
import HandS.Zip
import HandS.ExcOwn
import HandS.WordsExc
import KE.DataMinMax
import KE.LtData
import KE.SortData
import KE.GoesSet
import PySem.Challenge.RW_nevergone_k22_whole_seats_handed_on
import HandS.SetBool
import HandS.Strs
import HandS.Dict
import HandS.TupLen
import HandS.Iter
import HandS.List
import KE.KDictKeyed
import KE.KDictWalk
import KE.KDictCopyH
import HandS.DictComp
import HandS.DictEq
import HandS.ReCall
import HandS.Conv
import HandS.Codes
import HandS.Lambda
import KE.KDflt
import PyProof.Conv_bool
import PyProof.Rows.Range3
import HandS.MakeKw
import KE.KStateDown
import HandS.Ends
import HandS.HeadEnd
import HandS.HeadHook3
import HandS.HeadHook4
import HandS.HeadWalk
import KE.KNestM
set_option Elab.async false
set_option linter.all false
set_option maxRecDepth 100000
set_option maxHeartbeats 1000000
namespace KSup
open PySem PySem.Spec PyProof.Rows L2 NdefX
/-- a method at f of the class at C whose body begins with super().__init__(..), that being the function at f2 -/
structure SupD (P : Program) (K : PySem.W.Frag) (name qual : Str) (params : Arguments) (body : List Stmt) (scope : Scope) (C f f2 : Addr) (F : NF) : Prop where
  hF : ∃ cda cc, F = ⟨name, qual, params, body, scope, [(("__class__" : Str), cc)], cda⟩
  fd : ∃ oc od kV doc pm an ct osl cc, F.cl = [(("__class__" : Str), cc)] ∧ K.lookup f = some ⟨oc, od, .func (PySem.W.ksFn name qual params body scope .none kV doc pm an (.ref F.c) ct cc), osl⟩ ∧
    (∃ cl cld csl, K.lookup cc = some ⟨cl, cld, .cell (some (.ref C)), csl⟩)
  code : PySem.W.codeIn K (.ref F.c) qual = true
  file : ∃ ccl cdd vs ccs file tf, K.lookup F.c = some ⟨ccl, cdd, .fields vs, ccs⟩ ∧ vs[2]? = some (.str file tf) ∧ ((P.main.file : Str) == file) = true
  cls : ∃ cdD, PySem.W.clsIn K C = some cdD
  sub : PySem.W.mroIn K C (.ref C) = some true
  sup : PySem.W.ks_superIn K C C "__init__" = some (some (.ref f2))
  ty : PySem.W.typeIn K (.ref f2) = some (.type "function")
  opq : PySem.W.nsIn K cStatics "thirdparty.any" = some none
  fi : PySem.W.fnIn K f2 = true
  ks : scope.names.lookup ("super" : Str) = some .globalImplicit
  kc : scope.names.lookup ("__class__" : Str) = some .free
  top : (P.main.scope.names.lookup ("super" : Str)).isSome = false
section
variable {CX : CXT} {P : Program} {w : World} {K : PySem.W.Frag} {mg : Str → Option Value} {base : Heap} {k : Nat} {f f2 C : Addr} {name qual : Str} {params : Arguments} {body rest : List Stmt} {scope : Scope} {N ps : List Str} {F : NF} {sp sp2 : Sp} {e : Expr} {es : List Expr} {p0 p1 apos pos epos : Pos} {ar : Arg} {E : XK}
/-- the statement super().__init__(e, ..) -/
abbrev supSt (e : Expr) (es : List Expr) (p0 p1 apos pos epos : Pos) : Stmt := .Expr (.Call (.Attribute (.Call (.Name "super" p0) [] [] p1) "__init__" apos) (e :: es) [] pos) epos
theorem sup_stmt {X : Cx} {pins : List (Addr × Obj)} {s : Shared} {σ : L2.St} {H : Hp} {D : Ends} {x dx : Addr} {fs : List (Str × V)} {t : TA} {L : Addr} (S : SupD X.prog X.K name qual params body scope C f f2 F) (hX : X.env = envF F f L) (hc : X.calm = true)
    (hp : (params.posonlyargs ++ params.args).head? = some ar) (hN : X.N[0]? = some ar.arg) (hka : scope.names.lookup ar.arg = some .local) (hsup : X.mg "super" = none) (I : Inv X pins σ H s) (hσ : σ[0]? = some (some (.ref x))) (hx : H x = some (.ins C dx fs))
    (G : FnR X.prog X.w X.K X.mg X.base CX k f2 sp2) (hr : Room k X.A) (hxe : Passes CX X E) (ha : PA X (e :: es) t)
    (he : starEach (e :: es) X.env = (false, eval e X.env) :: starEach es X.env) (hpl : (backTo pos (starEach es X.env)).any (·.1) = false)
    {pl : Sem Bool} (ht : eval (.Call (.Attribute (.Call (.Name "super" p0) [] [] p1) "__init__" apos) (e :: es) [] pos) X.env = (do
      let ov ← attributeBase (.Call (.Name "super" p0) [] [] p1) "__init__" X.env (eval (.Call (.Name "super" p0) [] [] p1) X.env)
      standAt apos.atName
      let (f, first) ← holding [ov] (getMethod ov "__init__" pl)
      callWith pos f first (backTo pos (starEach (e :: es) X.env)) []))
    (hi : interactive X.env = false) (hs : swapsWith (.Call (.Attribute (.Call (.Name "super" p0) [] [] p1) "__init__" apos) (e :: es) [] pos) none epos.line X.env = pure false)
    (h : ∀ q, H q = none → t σ (upd H q (.met f2 x)) fun vs H2 => H2 q = some (.met f2 x) ∧ sp2 (.ref x :: vs) H2 (fun _ H3 => D.nx σ H3) E) :
    PySem.wpAt (model X.prog X.w) X.A (.func body X.env) (exec (supSt e es p0 p1 apos pos epos) X.env) (SP X pins D) X.xe s := by
  obtain ⟨cda, cc0, hF⟩ := S.hF
  obtain ⟨oc, od, kV, doc, pm, an, ct, osl, cc, hcl, lk, cl, cld, csl, hcell⟩ := S.fd
  obtain ⟨ccl, cdd, vs, ccs, file, tf, hcode, hvs, hfile⟩ := S.file
  obtain ⟨cdD, hD⟩ := S.cls
  have XK : X.K.In s.heap := I.kIn
  obtain ⟨oD, hD1, hD2⟩ : ∃ oD, s.heap.get? C = some oD ∧ oD.data = .cls cdD := by
    unfold PySem.W.clsIn at hD
    split at hD
    · rename_i c d cd' sl ho
      cases hD
      exact ⟨_, XK _ _ ho, rfl⟩
    · cases hD
  obtain ⟨mA, O, _, _, _, _⟩ := ins_get I.hok hx
  obtain ⟨odx, J, _⟩ := O.look
  have hks : X.env.kindOf "super" = some .globalImplicit := by
    rw [hX, hF]
    exact S.ks
  have hkc : X.env.kindOf "__class__" = some .free := by
    rw [hX, hF]
    exact S.kc
  have hka' : X.env.kindOf ar.arg = some .local := by
    rw [hX, hF]
    exact hka
  have hfu : X.env.func = some f := by
    rw [hX]
  have hco : X.env.code = .ref F.c := by
    rw [hX]
  refine PySem.ks_wpAt_Expr_any (PySem.ks_wpAt_MethodCall (pl := pl) ?_ ht) hi hs
  refine PySem.ks_wpAt_super_base hks hkc (by decide) hfu (XK _ _ lk) rfl hp hco (XK _ _ hcode) rfl hvs hfile S.top ?_
  obtain ⟨mb, b1, b2⟩ := I.mod.blt
  refine PySem.W.ks_loadName_global I.ok.kind hks (Calls.loadGlobal_builtin (by rw [I.ok.glob]; exact I.mod.glob.keeps I.bk) hsup (by rw [I.ok.blt]; exact b1.keeps I.bk) ((b2 "super" (by decide)).trans (by decide +kernel)) ⟨rfl, ?_⟩)
  refine wpAny_loadName_free I.ok.kind hkc (by rw [hX]; exact (by rw [hcl]; rfl : F.cl.lookup ("__class__" : Str) = some cc)) ⟨_, XK _ _ hcell, rfl⟩ ?_
  obtain ⟨m, hn, hl⟩ := I.loc
  obtain ⟨u, ru, l⟩ := hl 0 ar.arg (.ref x) hN hσ (by rw [hX, hF]; exact .inl hka)
  obtain rfl : u = Value.ref x := ru
  have hm : m ar.arg = some (.ref x) := by
    rcases l with ⟨_, hm⟩ | ⟨q, _⟩
    · exact hm
    · rw [hka'] at q
      rcases q with q | q <;> cases q
  refine wpAny_loadName_local I.ok.kind hka' hn hm ?_
  obtain ⟨hh, g, d, tk, os⟩ := s
  refine PySem.ks_wpAny_isType_cls hD1 hD2 ⟨rfl, ?_⟩
  refine PySem.ks_wpAny_call_super hD1 hD2 J.at_ J.cls (fun c e => ?_) (PySem.W.looks_mroIn XK S.sub) (fun h' e1 k1 => ?_)
  · have := J.no
    unfold PySem.W.notCls at this
    rw [e] at this
    exact Bool.noConfusion this
  have I1 : Inv X pins σ H ⟨h', g, d, tk, os⟩ := I.kept (t' := tk) k1
  have XK1 : X.K.In h' := I1.kIn
  obtain ⟨mA1, O1, _, _, _, _⟩ := ins_get I1.hok hx
  obtain ⟨odx1, J1, _⟩ := O1.look
  obtain ⟨of, hof, hofc⟩ : ∃ of, h'.get? f2 = some of ∧ of.cls = .type "function" := by
    have ht' : (X.K.lookup f2).map (·.cls) = some (.type "function") := S.ty
    cases z : X.K.lookup f2 with
    | none => rw [z] at ht'; cases ht'
    | some of => rw [z] at ht'; exact ⟨of, XK1 _ _ z, Option.some.inj ht'⟩
  have hm' := S.sup
  unfold PySem.W.ks_superIn at hm'
  rw [hD] at hm'
  refine PySem.ks_wpAny_getMethod_super (l₀ := cdD.mro) e1 (PySem.W.looks_opaque XK1 S.opq) (fun A Q E s k q => wpAny_bind ((PySem.W.looks_clsIn XK1 hD) A _ E s k (wpAny_pure q))) rfl XK1 hm' hof hofc (PySem.W.ks_ne XK1 J1 hD) (by decide) ?_
  have I2 : Inv X pins σ (upd H h'.objs.size (.met f2 x)) ⟨h'.push (PySem.W.methodObj (.ref f2) (.ref x)), g, d, tk + 1, os⟩ :=
    I1.laid (t' := tk + 1) (a := h'.objs.size) (o := .met f2 x) (fun b u z => Heap.get?_push_of_some _ z) (Nat.le_refl _)
      (show (h'.push (PySem.W.methodObj (.ref f2) (.ref x))).get? h'.objs.size = some (PySem.W.methodObj (.ref f2) (.ref x)) from Heap.get?_push_size h' rfl)
  have hq := h h'.objs.size (I1.hok.fresh (Nat.le_refl _))
  have z := ha.run pos pins _ σ _ _ I2 hq
  show wpAny _ _ (callWith pos (.ref h'.objs.size) [] (backTo pos (starEach (e :: es) X.env)) []) _ _ _
  rw [he] at z ⊢
  refine PySem.W.callWith_of (P := PySem.W.MethP X.K h'.objs.size f2 (.ref x)) (by show ((false || (backTo pos (starEach es X.env)).any (·.1)) || false) = false; rw [hpl]; rfl) (PySem.W.keeps_M S.fi) (Calls.evalArgs_plain (thn z fun us s4 ⟨vs, H2, I4, rv, hmet, hsp⟩ => ?_))
  refine ⟨met_P I4 hmet, ?_⟩
  exact thn (wpAny_call (PySem.W.method_call (met_P I4 hmet).1 (run_fnR (us := Value.ref x :: us) (vs := V.ref x :: vs) G hr hxe I4 (.cons rfl rv) hsp))) fun v s5 ⟨_, H3, I5, _, q⟩ => ⟨σ, H3, I5, q⟩
/-- THE RULE: such a method, by its body. ps its parameters, N begins by ps and __class__ -/
theorem fnR_sup (S : SupD P K name qual params body scope C f f2 F) (Sc : NScope N ps [("__class__" : Str)] scope) (hb : ∀ (kV doc pm : Value) (an : Option Addr) (ct : Value) (cc : Addr) (us : List Value), us.length = ps.length → bindArgs (PySem.W.ksFn name qual params body scope .none kV doc pm an (.ref F.c) ct cc) ⟨us, []⟩ = pure (ps.zip us))
    (len : ∀ vs H Q E, sp vs H Q E → vs.length = ps.length)
    (hbody : ∀ (A : Around) (outer : List Env) (s : Shared) (H : Hp) (vs : List V) (Q : VK) (E : XK), Room k (A.deeper (envF F f s.heap.objs.size)) → sp vs H Q E →
      ∀ (s1 : Shared), Inv (ncx CX P w K mg base N F f A outer s H E) [] (startF N vs [none]) H s1 →
        PySem.wpAt (model P w) (A.deeper (envF F f s.heap.objs.size)) (.func body (envF F f s.heap.objs.size)) (execs body (envF F f s.heap.objs.size)) (SP (ncx CX P w K mg base N F f A outer s H E) [] { nx := fun _ H' => Q .non H', rt := Q }) (ncx CX P w K mg base N F f A outer s H E).xe s1) :
    FnR P w K mg base CX (k + 1) f sp := by
  intro A outer s H us vs Q E hr e0 r hsp
  have hl := len _ _ _ _ hsp
  have hlu : us.length = ps.length := by rw [← r.length]; exact hl
  have KX : K.In s.heap := e0.mod.kin.keeps fun b o e => (e0.bs b o e).1
  have lim : s.heap.NoLimit := e0.mod.nolimit.keeps fun b o e => (e0.bs b o e).1
  obtain ⟨cda, cc0, hF⟩ := S.hF
  obtain ⟨oc, od, kV, doc, pm, an, ct, osl, cc, hcl, lk, cl, cld, csl, hcell⟩ := S.fd
  have hcc : cc0 = cc := by
    rw [hF] at hcl
    injection hcl with h1 _
    injection h1
  subst hcc
  refine PySem.ks_codeAny_call_defAt (fd := PySem.W.ksFn name qual params body scope .none kV doc pm an (.ref F.c) ct cc0) (body := body) (binds := ps.zip us) hr.depth (KX _ _ lk) rfl lim (PySem.W.codeRec_of KX S.code) rfl (BindsTo.of_eq (hb _ _ _ _ _ _ us hlu)) Sc.nocell
    (fun y hy => Sc.par y.1 (List.of_mem_zip (show (y.1, y.2) ∈ _ from hy)).1) (fun h₁ hns kp => ?_) Sc.co Sc.gen Sc.kind
  have C0 : CellsAt F.cl [("__class__" : Str)] [none] s.heap H := by
    refine ⟨rfl, fun y c e => ?_, fun x y c e1 e2 => ?_, fun i y e => ?_⟩
    · rw [hcl] at e
      have ec : c = cc0 := by
        simp only [List.lookup] at e
        split at e
        · exact (Option.some.inj e).symm
        · cases e
      subst ec
      have hb := (e0.bs c _ (e0.mod.kin _ _ hcell)).2
      exact ⟨hb, _, _, KX _ _ hcell, rfl⟩
    · rw [hcl] at e1 e2
      simp only [List.lookup] at e1 e2
      split at e1
      · rename_i h1
        split at e2
        · rename_i h2
          rw [eq_of_beq h1, eq_of_beq h2]
        · cases e2
      · cases e1
    · refine ⟨cc0, ?_, fun v hv => ?_⟩
      · cases i with
        | zero =>
          simp at e
          subst e
          rw [hcl]
          rfl
        | succ i => simp at e
      · cases i with
        | zero => simp at hv
        | succ i => simp at hv
  have hFs : F.scope = scope := by rw [hF]
  have I : Inv (ncx CX P w K mg base N F f A outer s H E) [] (startF N vs [none]) H { s with heap := h₁, toks := s.toks + (ps.zip us).length } := inv_startN (by rw [hFs]; exact Sc) hr.hd e0 hl r C0 hns kp
  have z := hbody A outer s H vs Q E (hr.deeper _) hsp _ I
  have eE : callEnv (PySem.W.ksFn name qual params body scope .none kV doc pm an (.ref F.c) ct cc0) s.heap.objs.size f = envF F f s.heap.objs.size := by
    rw [hF]
    rfl
  rw [eE]
  refine PySem.ks_wpAt_mono z (fun fl s' hs => ?_) fun e s' hs => hs
  have fin : ∀ {σ' : L2.St} {H' : Hp} {v : V} {u : Value}, Inv (ncx CX P w K mg base N F f A outer s H E) [] σ' H' s' → L2.RelV v u → Q v H' → CE outer P w H s Q u s' :=
    fun {σ' H' v u} J rv q => ⟨v, H', J.os, J.bare, J.base, J.hok, rv, q⟩
  cases fl with
  | ret u =>
    obtain ⟨v, σ', H', J, rv, q⟩ := hs
    exact fin J rv q
  | next =>
    obtain ⟨σ', H', J, q⟩ := hs
    exact fin (v := V.non) (u := Value.none) J rfl q
  | brk =>
    obtain ⟨_, _, _, q⟩ := hs
    exact False.elim q
  | cont =>
    obtain ⟨_, _, _, q⟩ := hs
    exact False.elim q
/-- .. its first statement super().__init__(..), then the rest -/
theorem wpAt_body {X : Cx} {pins : List (Addr × Obj)} {s : Shared} {D : Ends} {st : Stmt} {t : TS} (h1 : PySem.wpAt (model X.prog X.w) X.A (.func body X.env) (exec st X.env) (SP X pins { D with nx := t D }) X.xe s) (h2 : PSs X rest t) :
    PySem.wpAt (model X.prog X.w) X.A (.func body X.env) (execs (st :: rest) X.env) (SP X pins D) X.xe s := by
  refine PySem.ks_wpAt_execs_cons (PySem.ks_wpAt_mono h1 (fun f s' hs => ?_) fun _ _ z => z)
  cases f with
  | next =>
    obtain ⟨σ', H', I', q⟩ := hs
    exact PySem.wpAt_of_wpAny (h2.run pins s' σ' H' D I' q)
  | ret v => exact hs
  | brk => exact hs
  | cont => exact hs
end
end KSup
set_option maxHeartbeats 1000000
namespace KSup
open PySem PySem.Spec PyProof.Rows L2 NdefX He
/-- a class's __init__ that begins by super().__init__(..), that being the function at base -/
structure SupDef where
  cls : Str
  qual : Str
  params : Arguments
  body : List Stmt
  scope : Scope
  base : Str × Option Str
abbrev SupW : Type := Option (Str × Str × Arguments × FuncBody × Scope × Addr × List Str × Addr)
def supW (K : PySem.W.Frag) (d : SupDef) : SupW := match K.lookup (ma K (ga K d.cls) "__init__") with
  | some ⟨_, _, .func fd, _⟩ => some (fd.name, fd.qualname, fd.params, fd.body, fd.scope, fd.globals, fd.closure.map (·.1), fd.builtins)
  | _ => none
def SupDef.val (d : SupDef) : SupW := some ("__init__", d.qual, d.params, .stmts d.body, d.scope, mainGlobals, ["__class__"], builtinsNs)
def codeF (K : PySem.W.Frag) (file : Str) (c : Addr) : Bool := match K.lookup c with
  | some ⟨_, _, .fields vs, _⟩ => (match (vs : Array Value)[2]? with
    | some (Value.str fl _) => file == fl
    | _ => false)
  | _ => false
def codeB (K : PySem.W.Frag) (file qual : Str) : Value → Bool
  | .ref c => PySem.W.codeIn K (.ref c) qual && codeF K file c
  | _ => false
def cellF (K : PySem.W.Frag) (C : Addr) (cl : List (Str × Addr)) : Bool := match cl with
  | [(_, cc)] => (match K.lookup cc with
    | some ⟨_, _, .cell (some (.ref D)), _⟩ => decide (D = C)
    | _ => false)
  | _ => false
def nonB : Value → Bool
  | .none => true
  | _ => false
def supB (file : Str) (K : PySem.W.Frag) (d : SupDef) : Bool := match K.lookup (ma K (ga K d.cls) "__init__") with
  | some ⟨_, _, .func fd, _⟩ => nonB fd.defaults && (codeB K file d.qual fd.code && (cellF K (ga K d.cls) fd.closure && ((PySem.W.clsIn K (ga K d.cls)).isSome && (decide (PySem.W.mroIn K (ga K d.cls) (.ref (ga K d.cls)) = some true) &&
        (eqO (PySem.W.ks_superIn K (ga K d.cls) (ga K d.cls) "__init__") (some (some (.ref (fAd K d.base)))) && (decide (PySem.W.typeIn K (.ref (fAd K d.base)) = some (.type "function")) &&
        (eqO (PySem.W.nsIn K cStatics "thirdparty.any") (some none) && PySem.W.fnIn K (fAd K d.base))))))))
  | _ => false
theorem supD_of {P : Program} {K : PySem.W.Frag} {d : SupDef} (e : supW K d = d.val) (c : supB P.main.file K d = true) (ks : d.scope.names.lookup ("super" : Str) = some .globalImplicit) (kc : d.scope.names.lookup ("__class__" : Str) = some .free)
    (top : (P.main.scope.names.lookup ("super" : Str)).isSome = false) : ∃ F, SupD P K "__init__" d.qual d.params d.body d.scope (ga K d.cls) (ma K (ga K d.cls) "__init__") (fAd K d.base) F := by
  unfold supW at e
  unfold supB at c
  cases q : K.lookup (ma K (ga K d.cls) "__init__") with
  | none =>
    rw [q] at c
    cases c
  | some o =>
    obtain ⟨oc, od, dt, osl⟩ := o
    rw [q] at c e
    cases dt with
    | func fd =>
      obtain ⟨n1, n2, n3, n4, n5, n6, n7, n8, n9, n10, n11, n12, n13, n14, n15⟩ := fd
      have e2 : (some (n1, n2, n3, n4, n5, n6, n7.map (·.1), n15) : SupW) = (some ((Str.ofString "__init__"), d.qual, d.params, FuncBody.stmts d.body, d.scope, mainGlobals, [Str.ofString "__class__"], builtinsNs) : SupW) := e
      simp only [Option.some.injEq, Prod.mk.injEq] at e2
      obtain ⟨h1, h2, h3, h4, h5, h6, h7, h8⟩ := e2
      subst h1 h2 h3 h4 h5 h6 h8
      obtain ⟨c1, c⟩ := ba c
      obtain ⟨c2, c⟩ := ba c
      obtain ⟨c3, c⟩ := ba c
      obtain ⟨c4, c⟩ := ba c
      obtain ⟨c5, c⟩ := ba c
      obtain ⟨c6, c⟩ := ba c
      obtain ⟨c7, c⟩ := ba c
      obtain ⟨c8, c9⟩ := ba c
      have c1 : nonB n8 = true := c1
      have e8 : n8 = .none := by
        cases n8 <;> first | rfl | cases c1
      subst e8
      have c2 : codeB K P.main.file d.qual n13 = true := c2
      cases n13 with
      | ref cda =>
        obtain ⟨k1, k2⟩ := ba c2
        have c3 : cellF K (ga K d.cls) n7 = true := c3
        match n7, h7, c3, q with
        | [(y, cc)], h7, c3, q =>
          have ey : y = "__class__" := by simpa using h7
          subst ey
          unfold cellF at c3
          dsimp only at c3
          have hcell : ∃ cl cld csl, K.lookup cc = some ⟨cl, cld, .cell (some (.ref (ga K d.cls))), csl⟩ := by
            split at c3
            · rename_i cl cld D csl hc
              exact ⟨cl, cld, csl, by rw [hc, of_decide_eq_true c3]⟩
            · cases c3
          unfold codeF at k2
          have hfile : ∃ ccl cdd vs ccs file tf, K.lookup cda = some ⟨ccl, cdd, .fields vs, ccs⟩ ∧ vs[2]? = some (.str file tf) ∧ ((P.main.file : Str) == file) = true := by
            split at k2
            · rename_i ccl cdd vs ccs hc
              split at k2
              · rename_i fl tf hv
                exact ⟨ccl, cdd, vs, ccs, fl, tf, hc, hv, k2⟩
              · cases k2
            · cases k2
          refine ⟨⟨"__init__", d.qual, d.params, d.body, d.scope, [(("__class__" : Str), cc)], cda⟩, ?_⟩
          exact ⟨⟨cda, cc, rfl⟩, ⟨oc, od, n9, n10, n11, n12, n14, osl, cc, rfl, q, hcell⟩, k1, hfile, Option.isSome_iff_exists.mp c4, of_decide_eq_true c5, eqO_ok c6, of_decide_eq_true c7, eqO_ok c8, c9, ks, kc, top⟩
      | _ => cases c2
    | _ => cases c
/-! ### the Hook: HeadHook2's with such methods told -/
abbrev AlU : Type := AlD × Bool × List SupW
def obsU (file : Str) (fa : List Fa) (fn : List DefD) (su : List SupDef) (K : PySem.W.Frag) : AlU := (obsD fa fn K, su.all (fun d => supB file K d), su.map fun d => supW K d)
def valU (fn : List DefD) (su : List SupDef) : AlU := (valD fn, true, su.map SupDef.val)
def asU (g : Addr → Option Obj) (n : Nat) : List Addr := cStatics :: asD g n
def obsUG (n : Nat) (file : Str) (fa : List Fa) (fn : List DefD) (su : List SupDef) (g : Addr → Option Obj) : AlU := obsU file fa fn su (frG g (asU g n))
def SaysU (file : Str) (fa : List Fa) (fn : List DefD) (su : List SupDef) (K : PySem.W.Frag) : Prop := obsU file fa fn su K = valU fn su
def hookU (n : Nat) (file : Str) (fa : List Fa) (fn : List DefD) (su : List SupDef) : PySem.W.Hook where
  α := AlU
  obs := fun s => obsUG n file fa fn su s.heap.get?
  val := fun _ => valU fn su
  says := fun _ h => ∃ K : PySem.W.Frag, K.In h ∧ SaysU file fa fn su K
  of := fun _ _ e => ⟨_, frG_in, e⟩
  keeps := fun _ _ _ ⟨K, hK, c⟩ k => ⟨K, PySem.W.Frag.In.keeps hK k, c⟩
theorem obsUG_eq {n : Nat} {file : Str} {fa : List Fa} {fn : List DefD} {su : List SupDef} {g : Addr → Option Obj} {s : Shared} (h : ∀ a, g a = s.heap.get? a) : obsUG n file fa fn su g = (hookU n file fa fn su).obs s := by
  have e : g = s.heap.get? := funext h
  rw [e] <;> rfl
section
variable {file : Str} {fa : List Fa} {fn : List DefD} {su : List SupDef} {K : PySem.W.Frag}
theorem SaysU.d (c : SaysU file fa fn su K) : SaysD fa fn K := congrArg (fun z : AlU => z.1) c
theorem SaysU.sup {P : Program} (c : SaysU P.main.file fa fn su K) (i : Nat) {d : SupDef} (h : su[i]? = some d) (ks : d.scope.names.lookup ("super" : Str) = some .globalImplicit) (kc : d.scope.names.lookup ("__class__" : Str) = some .free)
    (top : (P.main.scope.names.lookup ("super" : Str)).isSome = false) : ∃ F, SupD P K "__init__" d.qual d.params d.body d.scope (ga K d.cls) (ma K (ga K d.cls) "__init__") (fAd K d.base) F := by
  have c2 : su.all (fun d => supB P.main.file K d) = true := congrArg (fun z : AlU => z.2.1) c
  have e : su.map (fun d => supW K d) = su.map SupDef.val := congrArg (fun z : AlU => z.2.2) c
  have e2 : (su.map fun d => supW K d)[i]? = (su.map SupDef.val)[i]? := by rw [e]
  rw [List.getElem?_map, List.getElem?_map, h] at e2
  exact supD_of (Option.some.inj e2) (List.all_eq_true.mp c2 d (List.mem_of_getElem? h)) ks kc top
end
end KSup
set_option maxHeartbeats 1000000
namespace KSup
open PySem PySem.W PySem.Calls PyProof.Rows Builtin Builtin.ObjectAttr Builtin.Getset_descriptor
/-- the kept __name__ of the class at C -/
def nameIn (K : Frag) (C : Addr) : Option Value := match K.lookup C with
  | some ⟨.type T, _, _, sl⟩ => if T = "type" then (match sl[2]? with
    | some (some v) => some v
    | _ => none) else none
  | _ => none
section
variable {prog : Program} {w : World} {A : Around} {E : Value → Shared → Prop} {s : Shared} {K : Frag} {R : Result → Shared → Prop} {C : Addr} {v : Value}
theorem nameIn_at {h : Heap} (X : K.In h) (e : nameIn K C = some v) : ∃ od dt sl, h.get? C = some ⟨.type "type", od, dt, sl⟩ ∧ sl[2]? = some (some v) := by
  unfold nameIn at e
  split at e
  · rename_i T od dt sl ho
    split at e
    · rename_i hT
      subst hT
      split at e
      · rename_i v' hv
        cases e
        exact ⟨od, dt, sl, X _ _ ho, hv⟩
      · cases e
    · cases e
  · cases e
theorem cname_get {tp : Value} (X : K.In s.heap) (e : nameIn K C = some v) (h : R (.ok (.ret v)) s) :
    codeAny (model prog w) A (.call (.builtin "getset_descriptor.__get__") ⟨[.builtin "type.__name__", .ref C, tp], []⟩) R s := by
  obtain ⟨hh, g, dr, t, os⟩ := s
  obtain ⟨od, dt, sl, ho, hv⟩ := nameIn_at X e
  have L0 : Looks (model prog w) hh (typeOf (.ref C)) (.type "type") := fun A' Q' E' s' k q => wpAny_typeOf (show s'.TypeIs (.ref C) "type" from ⟨_, k _ _ ho, rfl⟩) q
  have L1 : Looks (model prog w) hh (isSubtype (.type "type") (.type "type")) true := Looks.of_pure (by rw [isSubtype_type]; kernel_rfl)
  refine codeAny_call_builtin KF.slot_gs.plain KF.entry_gs (KF.slot_gs.check _ _ _ _ _ _ _ _ ktyn_type (KF.args_gs _ _ _) ?_)
  unfold Builtin.«getset_descriptor.__get__» descrGet
  rw [dga_obj]
  refine wpAny_bind (wpAny_pure ?_)
  unfold descrGetter descrCheckInstance descrNameAndClass isInstance
  simp only [ktyn_owner]
  repeat lk
  refine ⟨Code.quiet_builtin _ (by decide +kernel), codeAny_builtin ktyn_entry ?_⟩
  unfold Builtin.«type.__name__» keptObject
  dsimp only
  unfold slotAt
  refine wpAny_bind (wpAny_bind (wpAny_loadPart_at ho (wpAny_pure ?_)))
  have hj : (sl[2]?).join = some v := by rw [hv]; rfl
  dsimp only
  rw [hj]
  first
    | exact wpAny_pure h
    | exact wpAny_bind (wpAny_pure (wpAny_pure h))
    | exact wpAny_pure (wpAny_pure h)
end
section
variable {prog : Program} {w : World} {A : Around} {E : Value → Shared → Prop} {s : Shared} {K : Frag} {C : Addr} {v : Value}
/-- C.__name__ -/
theorem cname_attr {expr : Bool} {Q : Value → Shared → Prop} (X : K.In s.heap) (ho : nsIn K cStatics "thirdparty.any" = some none)
    (e : findCls K (.ref C) (.type "type") "__name__" = some (.get (.builtin "getset_descriptor.__get__") (.builtin "type.__name__") (.ref C) (.type "type"))) (en : nameIn K C = some v) (hv : handedIn v = true)
    (h : ∀ u, Q v { s with toks := u }) : wpAny (model prog w) A (getAttr (.ref C) "__name__" expr) Q E s := by
  obtain ⟨od, dt, sl, hC, _⟩ := nameIn_at X en
  have L0 : Looks (model prog w) s.heap (typeOf (.ref C)) (.type "type") := fun A' Q' E' s' k q => wpAny_typeOf (show s'.TypeIs (.ref C) "type" from ⟨_, k _ _ hC, rfl⟩) q
  have LO : Looks (model prog w) s.heap (opaqueClassAbove (.ref C)) none := looks_opaque X ho
  have hg : findIn K (.type "type") "__getattribute__" = some (some (.builtin "type.__getattribute__")) := type_tga
  refine cls_open X LO L0 hg (looks_hook X (r := none) (by rfl)) (by show subIn K _ _ = _; rfl) e ?_
  show wpAny _ _ (do ret (← holding [Value.builtin "type.__name__"] (call (.builtin "getset_descriptor.__get__") [.builtin "type.__name__", .ref C, .type "type"]))) _ _ _
  refine wpAny_bind (wpAny_holding (wpAny_call (cname_get (s := { s with toks := s.toks + 1 }) X en ?_)))
  exact wpAny_pure (handed_on hv (h _))
end
end KSup
namespace KSup
open PySem PySem.Spec PyProof.Rows L2
/-- what x.__class__.__name__ asks of the class at C -/
structure CName (K : PySem.W.Frag) (C : Addr) (y : Str) : Prop where
  cl : Cls K C
  ha : PySem.W.findIn K (.ref C) "__class__" = some (some (.builtin "object.__class__"))
  hn : PySem.W.specialIn K (.builtin "object.__class__") "__get__" = some (some (.builtin "getset_descriptor.__get__"))
  htk : PySem.W.takesIn K (.builtin "object.__class__") = some true
  hm : PySem.W.mroIn K C (.type "object") = some true
  op : PySem.W.nsIn K cStatics "thirdparty.any" = some none
  fc : PySem.W.findCls K (.ref C) (.type "type") "__name__" = some (.get (.builtin "getset_descriptor.__get__") (.builtin "type.__name__") (.ref C) (.type "type"))
  nm : ∃ t, nameIn K C = some (.str y t)
section
variable {X : Cx} {e : Expr} {te : TE} {p1 p2 : Pos}
def tClassName (K : PySem.W.Frag) (te : TE) : TE := fun σ H Q => te σ H fun x H1 => ∃ a C dx fs y, x = .ref a ∧ H1 a = some (.ins C dx fs) ∧ CName K C y ∧ Q (.str y) H1
/-- e.__class__.__name__ -/
theorem pe_className (he : PE X e te) (hb : attributeBase e "__class__" X.env (eval e X.env) = eval e X.env) (hb2 : attributeBase (.Attribute e "__class__" p1) "__name__" X.env (eval (.Attribute e "__class__" p1) X.env) = eval (.Attribute e "__class__" p1) X.env) :
    PE X (.Attribute (.Attribute e "__class__" p1) "__name__" p2) (tClassName X.K te) := by
  refine ⟨fun pins s σ H Q I h => ?_⟩
  refine attr_of hb2 (attr_of hb (thn (he.run pins s σ H _ I h) fun u s1 ⟨x, H1, I1, rx, a, C, dx, fs, y, ex, ea, c, q⟩ => ?_))
  subst ex
  obtain rfl : u = Value.ref a := rx
  obtain ⟨m, F⟩ := I1.fr
  obtain ⟨mA, O, _, _, _, _⟩ := ins_get I1.hok ea
  obtain ⟨od, J, _⟩ := O.look
  obtain ⟨t, ht⟩ := c.nm
  refine PySem.W.get_class F I1.ok.mod.kin J (c.cl.get _) c.cl.hd c.ha c.hn c.htk c.hm ?_
  refine cname_attr (I1.tok (s.toks)).kIn c.op c.fc ht rfl fun u => ?_
  exact ⟨.str y, H1, I1.tok _, ⟨t, rfl⟩, q⟩
end
end KSup
set_option maxHeartbeats 1000000
namespace KSup
open PySem PySem.W PySem.Calls PyProof.Rows Builtin
section
variable {prog : Program} {w : World} {A : Around} {E : Value → Shared → Prop} {s : Shared} {K : Frag} {x C L f : Addr} {h₀ : Heap} {m : Str → Option Value} {ox : Obj} {od : Option Obj} {b tb : Value}
theorem ne_call {Q : Value → Shared → Prop} (hu : A.in1.units < cLine) (X : K.In s.heap) (I : InstAt s.heap x ox C od) (hs : findIn K (.ref C) "__eq__" = some (some (.ref f))) (hf : isFn K (.ref f) = true) (hm : mroIn K C (.type "object") = some true)
    (h : wpAny (model prog w) A.in1 (call (.ref f) [.ref x, b]) (fun v s' => ∃ r, v = .bool r ∧ Q (.bool (!r)) s') E s) : wpAny (model prog w) A (call (.builtin "object.__ne__") [.ref x, b]) Q E s := by
  have hi : Looks (model prog w) s.heap (isInstance (.ref x) (.type "object")) true := I.type.andThen (looks_mroIn X hm)
  refine wpAny_call (codeAny_call_builtin F.cmp_object.ne.plain F.cmpEntry_ne (@check_slot (model prog w) _ _ s "object.__ne__" "object" "__ne__" (.ref x) [b] [] _ F.cmpKind_ne F.cmpSplit_ne hi (F.cmpArgs_ne _ _) ?_))
  unfold Builtin.«object.__ne__»
  refine wpAny_bind (m := slotArgs "__ne__" 1 ⟨[.ref x, b], []⟩) (wpAny_of_eq (a := ((Value.ref x : Value), [b])) (by first | rfl | (simp only [slotArgs]; rfl)) ?_)
  dsimp only
  refine wpAny_bind (wpAny_cRoomFor hu ?_)
  refine wpAny_bind (ifBound_K X I hs hf (wpAny_mono h (fun v s' hv => ?_) fun _ _ e => e))
  obtain ⟨r, rfl, q⟩ := hv
  dsimp only
  refine wpAny_bind (wpAny_truthy_bool ?_)
  exact wpAny_pure q
theorem ne_K {Q : Value → Shared → Prop} (hu : A.units + 1 < cLine) (F0 : Fr h₀ L s.heap m) (X₀ : K.In h₀) (I : InstAt s.heap x ox C od) (hb : Looks (model prog w) s.heap (typeOf b) tb) (hn : notFirst K C tb = true) (hne : findIn K (.ref C) "__ne__" = some (some (.builtin "object.__ne__")))
    (hs : findIn K (.ref C) "__eq__" = some (some (.ref f))) (hf : isFn K (.ref f) = true) (hm : mroIn K C (.type "object") = some true)
    (h : wpAny (model prog w) A.in1 (call (.ref f) [.ref x, b]) (fun v s' => ∃ r, v = .bool r ∧ Q (.bool (!r)) s') E s) : wpAny (model prog w) A (richCompare .NotEq (.ref x) b) Q E s := by
  have X := X₀.keeps F0.keep
  have hu0 : A.units < cLine := Nat.lt_of_succ_lt hu
  have one : wpAny (model prog w) A (tryCompare (.ref x) "__ne__" b) (fun r s' => ∃ v, r = some v ∧ Q v s') E s := by
    unfold tryCompare
    refine wpAny_bind ?_
    simp only [callSpecialIfBound?, bindSpecialIfBound?]
    have hcall : wpAny (model prog w) A (call (.builtin "object.__ne__") [.ref x, b]) (fun v s' => ∃ r, v = .bool r ∧ Q (.bool r) s') E s :=
      ne_call (Q := fun v s' => ∃ r, v = .bool r ∧ Q (.bool r) s') hu X I hs hf hm (wpAny_mono h (fun v s' ⟨r, e, q⟩ => ⟨r, e, _, rfl, q⟩) fun _ _ e => e)
    refine wpAny_holding (wpAny_bind (wpAny_bind (wpAny_bind (I.type.here ((looks_findIn X hne).here ?_)))))
    simp only [F.cmp_object.ne.bind]
    refine wpAny_bind (wpAny_askSetting (wpAny_ite ?_))
    split
    · refine wpAny_bind (wpAny_pure (wpAny_pure ?_))
      refine wpAny_bind (wpAny_mono hcall (fun v s' ⟨r, e, q⟩ => ?_) fun _ _ h' => h')
      subst e
      exact wpAny_pure (wpAny_pure ⟨_, rfl, q⟩)
    · refine wpAny_tryCatch (wpAny_bind (wpAny_pure (wpAny_pure ?_)))
      refine wpAny_bind (wpAny_mono hcall (fun v s' ⟨r, e, q⟩ => ?_) fun _ _ h' => h')
      subst e
      exact wpAny_pure (wpAny_pure ⟨_, rfl, q⟩)
  unfold richCompare
  simp only [oneThing_ref]
  refine wpAny_holding (wpAny_bind (wpAny_cRoomFor hu0 ?_))
  refine wpAny_bind (I.type.here (wpAny_bind (hb.here ?_)))
  split
  · rename_i q
    have e : subIn K tb (.ref C) = some false := by
      rcases Bool.or_eq_true_iff.mp hn with e | e
      · rw [beq_iff_eq.mp e] at q; simp at q
      · exact beq_iff_eq.mp e
    refine wpAny_bind ((looks_subIn X e).here ?_)
    simp only [Bool.false_eq_true, if_false]
    refine wpAny_bind (wpAny_mono one (fun r s' z => ?_) fun _ _ e => e)
    obtain ⟨v, rfl, hq⟩ := z
    exact wpAny_pure hq
  · refine wpAny_bind (wpAny_pure ?_)
    simp only [Bool.false_eq_true, if_false]
    refine wpAny_bind (wpAny_mono one (fun r s' z => ?_) fun _ _ e => e)
    obtain ⟨v, rfl, hq⟩ := z
    exact wpAny_pure hq
end
end KSup
namespace KSup
open PySem PySem.Spec PyProof.Rows L2
/-- an own __eq__ at f, != by it -/
structure EqC (K : PySem.W.Frag) (C f : Addr) : Prop where
  eq : PySem.W.findIn K (.ref C) "__eq__" = some (some (.ref f))
  ne : PySem.W.findIn K (.ref C) "__ne__" = some (some (.builtin "object.__ne__"))
  fn : PySem.W.isFn K (.ref f) = true
  mo : PySem.W.mroIn K C (.type "object") = some true
section
variable {X : Cx} {CX : CXT} {k : Nat} {f : Addr} {sp : Sp} {E : XK}
/-- the two sides, and what the own == promises -/
def rOwn (K : PySem.W.Frag) (f : Addr) (sp : Sp) (E : XK) (g : Bool → Bool) : R2 := fun x y H Q => ∃ a b C D dx dy fs gs, x = .ref a ∧ y = .ref b ∧ H a = some (.ins C dx fs) ∧ H b = some (.ins D dy gs) ∧ EqC K C f ∧ PySem.W.notFirst K C (.ref D) = true ∧
  sp [x, y] H (fun v H' => ∃ r, v = .bl r ∧ Q (.bl (g r)) H') E
theorem own_run {A : Around} {pins : List (Addr × Obj)} {σ : L2.St} {H : Hp} {s : Shared} {us : List Value} {vs : List V} {Q : VK} (F : FnR X.prog X.w X.K X.mg X.base CX k f sp) (hr : Room k A) (hA : A.frames = X.A.frames) (hx : Passes CX X E) (I : Inv X pins σ H s) (r : Vals vs us) (h : sp vs H Q E) :
    wpAny (model X.prog X.w) A (call (.ref f) us) (EP X pins σ Q) X.xe s := by
  have e0 : Env0 X.prog X.w X.K X.mg X.base A X.stack s H := by
    have e := I.env0
    exact ⟨by rw [hA]; exact e.frames, e.mod, e.bs, e.bsz, e.funs, e.frf, e.hok, e.bare⟩
  refine wpAny_call (codeAny_mono (F A X.stack s H us vs Q E hr e0 r h) fun r s' hq => ?_)
  cases r with
  | error e => exact hx pins σ H s e s' I hq
  | ok fl =>
    cases fl with
    | ret w => exact I.after hq
    | next => exact False.elim hq
    | brk => exact False.elim hq
    | cont => exact False.elim hq
theorem op_eqO (F : FnR X.prog X.w X.K X.mg X.base CX k f sp) (hr : Room k X.A) (hx : Passes CX X E) : OpR X (compareOp .Eq) (rOwn X.K f sp E fun r => r) := by
  intro pins s σ H x y v u Q I rx ry h
  obtain ⟨a, b, C, D, dx, dy, fs, gs, rfl, rfl, ha, hb, ec, nf, hsp⟩ := h
  cases rx
  cases ry
  obtain ⟨mA, O, _⟩ := ins_get I.hok ha
  obtain ⟨mB, O', _⟩ := ins_get I.hok hb
  obtain ⟨od, J, _⟩ := O.look
  obtain ⟨od', J', _⟩ := O'.look
  obtain ⟨m, hF⟩ := I.fr
  show wpAny (model X.prog X.w) X.A (richCompare .Eq (.ref a) (.ref b)) (EP X pins σ Q) X.xe s
  refine PySem.W.cmp_K (op := .Eq) (tb := .ref D) hr.units0 hF I.ok.mod.kin J J'.type nf ec.eq ec.fn ?_
  refine thn (own_run F hr rfl hx I (us := [Value.ref a, Value.ref b]) (vs := [V.ref a, V.ref b]) (.cons rfl (.cons rfl .nil)) hsp) fun v s' ⟨y, H', I', ry, r, e, q⟩ => ?_
  subst e
  cases ry
  exact ⟨V.bl _, H', I', rfl, q⟩
theorem op_neO (F : FnR X.prog X.w X.K X.mg X.base CX k f sp) (hr : Room (k + 1) X.A) (hx : Passes CX X E) : OpR X (compareOp .NotEq) (rOwn X.K f sp E fun r => !r) := by
  intro pins s σ H x y v u Q I rx ry h
  obtain ⟨a, b, C, D, dx, dy, fs, gs, rfl, rfl, ha, hb, ec, nf, hsp⟩ := h
  cases rx
  cases ry
  obtain ⟨mA, O, _⟩ := ins_get I.hok ha
  obtain ⟨mB, O', _⟩ := ins_get I.hok hb
  obtain ⟨od, J, _⟩ := O.look
  obtain ⟨od', J', _⟩ := O'.look
  obtain ⟨m, hF⟩ := I.fr
  show wpAny (model X.prog X.w) X.A (richCompare .NotEq (.ref a) (.ref b)) (EP X pins σ Q) X.xe s
  refine ne_K (tb := .ref D) (by have := hr.un; omega) hF I.ok.mod.kin J J'.type nf ec.ne ec.eq ec.fn ec.mo ?_
  refine thn (own_run F hr.in1 rfl hx I (us := [Value.ref a, Value.ref b]) (vs := [V.ref a, V.ref b]) (.cons rfl (.cons rfl .nil)) hsp) fun v s' ⟨y, H', I', ry, r, e, q⟩ => ?_
  subst e
  cases ry
  exact ⟨r, rfl, V.bl _, H', I', rfl, q⟩
/-! ### truth by an own __bool__ -/
structure BoolC (K : PySem.W.Frag) (C f : Addr) : Prop where
  bl : PySem.W.findIn K (.ref C) "__bool__" = some (some (.ref f))
  fn : PySem.W.isFn K (.ref f) = true
/-- a value that is an instance whose class has its __bool__ at one of two defs -/
def tTruO (K : PySem.W.Frag) (f1 f2 : Addr) (sp1 sp2 : Sp) (E : XK) (te : TE) : TT := fun σ H Q => te σ H fun x H1 => ∃ a C dx fs, x = .ref a ∧ H1 a = some (.ins C dx fs) ∧
  ((BoolC K C f1 ∧ sp1 [x] H1 (fun v H' => ∃ r, v = .bl r ∧ Q r H') E) ∨ (BoolC K C f2 ∧ sp2 [x] H1 (fun v H' => ∃ r, v = .bl r ∧ Q r H') E))
theorem pt_own {e : Expr} {te : TE} {f1 f2 : Addr} {sp1 sp2 : Sp} (F1 : FnR X.prog X.w X.K X.mg X.base CX k f1 sp1) (F2 : FnR X.prog X.w X.K X.mg X.base CX k f2 sp2) (hr : Room k X.A) (hx : Passes CX X E) (ha : PE X e te)
    (he : ∀ whole, isTrue e X.env whole = (do let v ← whole; standAt e.pos; holding [v] (truthy v)) := by intro _; rfl) : PT X e (tTruO X.K f1 f2 sp1 sp2 E te) := by
  refine ⟨fun pins s σ H Q I h => ?_⟩
  refine isTrue_plain (thn (ha.run pins s σ H _ I h) fun v s1 ⟨x, H1, I1, r1, a, C, dx, fs, ex, ea, q⟩ => ?_) (he _)
  subst ex
  obtain rfl : v = Value.ref a := r1
  obtain ⟨mA, O, _⟩ := ins_get I1.hok ea
  obtain ⟨od, J, _⟩ := O.look
  obtain ⟨m, hF⟩ := I1.fr
  rcases q with ⟨bc, hsp⟩ | ⟨bc, hsp⟩
  · refine PySem.W.truthy_K hF I1.ok.mod.kin J bc.bl bc.fn ?_
    refine thn (own_run F1 hr rfl hx I1 (us := [Value.ref a]) (vs := [V.ref a]) (.cons rfl .nil) hsp) fun v s' ⟨y, H', I', ry, r, e, q⟩ => ?_
    subst e
    cases ry
    exact ⟨H', I', q⟩
  · refine PySem.W.truthy_K hF I1.ok.mod.kin J bc.bl bc.fn ?_
    refine thn (own_run F2 hr rfl hx I1 (us := [Value.ref a]) (vs := [V.ref a]) (.cons rfl .nil) hsp) fun v s' ⟨y, H', I', ry, r, e, q⟩ => ?_
    subst e
    cases ry
    exact ⟨H', I', q⟩
end
end KSup
namespace K23
open PySem PySem.Spec PyProof.Rows L2
def topS (i : Nat) : Stmt := PySem.Challenge.pw_nevergone_k22_whole_seats_handed_on.main.body.getD i (.Pass ⟨0, 0, 0, 0⟩)
abbrev sIsInt : Stmt := topS 1
abbrev sIsWithin : Stmt := topS 2
abbrev sIsListed : Stmt := topS 3
abbrev sIsPlain : Stmt := topS 4
abbrev sFixed : Stmt := topS 19
abbrev sAreLike : Stmt := topS 20
abbrev sPInit : Stmt := inClass (topS 21) 0
abbrev sPBool : Stmt := inClass (topS 21) 1
abbrev sPEq : Stmt := inClass (topS 21) 2
abbrev sDBool : Stmt := inClass (topS 22) 0
abbrev sBInit : Stmt := inClass (topS 29) 0
abbrev sUInit : Stmt := inClass (topS 30) 0
abbrev sFree : Stmt := topS 31
abbrev sMoves : Stmt := topS 32
abbrev sPutAt : Stmt := topS 33
abbrev sLedTo : Stmt := topS 34
abbrev sLayouts : Stmt := topS 35
abbrev sWinning : Stmt := topS 36
abbrev sRanks : Stmt := topS 37
abbrev sForcedRows : Stmt := topS 38
abbrev sSafe : Stmt := topS 39
abbrev sServedRows : Stmt := topS 40
abbrev sSeatsIn : Stmt := topS 41
abbrev sNeedFrame : Stmt := topS 42
abbrev sNeedGame : Stmt := topS 43
abbrev sSeats : Stmt := topS 44
abbrev sLeastSeats : Stmt := topS 45
abbrev sIsLayout : Stmt := topS 47
abbrev sTable : Stmt := topS 48
abbrev sIsServed : Stmt := topS 49
abbrev sRanksIn : Stmt := topS 50
abbrev sIsForced : Stmt := topS 51
abbrev sShows : Stmt := topS 52
abbrev sPen : Stmt := topS 54
abbrev sDraw : Stmt := topS 55
abbrev sPick : Stmt := topS 56
abbrev sMixed : Stmt := topS 57
abbrev sHeard : Stmt := topS 58
abbrev sRowsLet : Stmt := topS 59
abbrev sLaw : Stmt := topS 60
abbrev SC (N ps : List Str) (s : Stmt) : Prop := FnScope N ps (defScope s)
theorem scIsInt : SC ["value"] ["value"] sIsInt := ⟨rfl, rfl, rfl, by decide +kernel, rfl, by decide +kernel, by decide +kernel⟩
theorem scIsWithin : SC ["value", "least", "most"] ["value", "least", "most"] sIsWithin := ⟨rfl, rfl, rfl, by decide +kernel, rfl, by decide +kernel, by decide +kernel⟩
theorem scIsListed : SC ["value"] ["value"] sIsListed := ⟨rfl, rfl, rfl, by decide +kernel, rfl, by decide +kernel, by decide +kernel⟩
theorem scIsPlain : SC ["value", "many"] ["value", "many"] sIsPlain := ⟨rfl, rfl, rfl, by decide +kernel, rfl, by decide +kernel, by decide +kernel⟩
theorem scFixed : SC ["value", "part"] ["value"] sFixed := ⟨rfl, rfl, rfl, by decide +kernel, rfl, by decide +kernel, by decide +kernel⟩
theorem scAreLike : SC ["one", "other", "keys", "here", "there"] ["one", "other"] sAreLike := ⟨rfl, rfl, rfl, by decide +kernel, rfl, by decide +kernel, by decide +kernel⟩
theorem scPInit : SC ["self", "word", "parts"] ["self", "word", "parts"] sPInit := ⟨rfl, rfl, rfl, by decide +kernel, rfl, by decide +kernel, by decide +kernel⟩
theorem scPBool : SC ["self"] ["self"] sPBool := ⟨rfl, rfl, rfl, by decide +kernel, rfl, by decide +kernel, by decide +kernel⟩
theorem scPEq : SC ["self", "other"] ["self", "other"] sPEq := ⟨rfl, rfl, rfl, by decide +kernel, rfl, by decide +kernel, by decide +kernel⟩
theorem scDBool : SC ["self"] ["self"] sDBool := ⟨rfl, rfl, rfl, by decide +kernel, rfl, by decide +kernel, by decide +kernel⟩
theorem scFree : SC ["game", "layout", "size", "found", "at", "start", "many"] ["game", "layout", "size"] sFree := ⟨rfl, rfl, rfl, by decide +kernel, rfl, by decide +kernel, by decide +kernel⟩
theorem scMoves : SC ["game", "layout", "found", "cells", "start", "size"] ["game", "layout"] sMoves := ⟨rfl, rfl, rfl, by decide +kernel, rfl, by decide +kernel, by decide +kernel⟩
theorem scPutAt : SC ["layout", "start", "size"] ["layout", "start", "size"] sPutAt := ⟨rfl, rfl, rfl, by decide +kernel, rfl, by decide +kernel, by decide +kernel⟩
theorem scLedTo : SC ["game", "layout", "move", "word", "what", "row", "start"] ["game", "layout", "move"] sLedTo := ⟨rfl, rfl, rfl, by decide +kernel, rfl, by decide +kernel, by decide +kernel⟩
theorem scLayouts : SC ["game", "found", "line", "later", "layout", "move", "other"] ["game"] sLayouts := ⟨rfl, rfl, rfl, by decide +kernel, rfl, by decide +kernel, by decide +kernel⟩
theorem scWinning : SC ["game", "ranks", "layout", "move", "other"] ["game", "ranks", "layout"] sWinning := ⟨rfl, rfl, rfl, by decide +kernel, rfl, by decide +kernel, by decide +kernel⟩
theorem scRanks : SC ["game", "ranks", "left", "turn", "some", "won", "layout", "move"] ["game"] sRanks := ⟨rfl, rfl, rfl, by decide +kernel, rfl, by decide +kernel, by decide +kernel⟩
theorem scForcedRows : SC ["game", "ranks", "found", "line", "layout", "other"] ["game", "ranks"] sForcedRows := ⟨rfl, rfl, rfl, by decide +kernel, rfl, by decide +kernel, by decide +kernel⟩
theorem scSafe : SC ["game", "ranks", "layout", "size", "start"] ["game", "ranks", "layout", "size"] sSafe := ⟨rfl, rfl, rfl, by decide +kernel, rfl, by decide +kernel, by decide +kernel⟩
theorem scServedRows : SC ["game", "ranks", "rows", "found", "line", "layout", "word", "what", "other", "start"] ["game", "ranks"] sServedRows := ⟨rfl, rfl, rfl, by decide +kernel, rfl, by decide +kernel, by decide +kernel⟩
theorem scSeatsIn : SC ["game", "ranks"] ["game"] sSeatsIn := ⟨rfl, rfl, rfl, by decide +kernel, rfl, by decide +kernel, by decide +kernel⟩
theorem scNeedFrame : SC ["sizes", "many", "live", "size"] ["sizes", "many", "live"] sNeedFrame := ⟨rfl, rfl, rfl, by decide +kernel, rfl, by decide +kernel, by decide +kernel⟩
theorem scNeedGame : SC ["cells", "sizes", "many", "live"] ["cells", "sizes", "many", "live"] sNeedGame := ⟨rfl, rfl, rfl, by decide +kernel, rfl, by decide +kernel, by decide +kernel⟩
theorem scSeats : SC ["cells", "sizes", "many", "live"] ["cells", "sizes", "many", "live"] sSeats := ⟨rfl, rfl, rfl, by decide +kernel, rfl, by decide +kernel, by decide +kernel⟩
theorem scLeastSeats : SC ["sizes", "many", "live", "told", "cells"] ["sizes", "many", "live"] sLeastSeats := ⟨rfl, rfl, rfl, by decide +kernel, rfl, by decide +kernel, by decide +kernel⟩
theorem scIsLayout : SC ["game", "value", "at", "start", "size", "row"] ["game", "value"] sIsLayout := ⟨rfl, rfl, rfl, by decide +kernel, rfl, by decide +kernel, by decide +kernel⟩
theorem scTable : SC ["game", "value", "found", "layout", "size", "start", "row"] ["game", "value"] sTable := ⟨rfl, rfl, rfl, by decide +kernel, rfl, by decide +kernel, by decide +kernel⟩
theorem scIsServed : SC ["game", "rows", "table", "found", "line", "layout", "word", "what", "other"] ["game", "rows"] sIsServed := ⟨rfl, rfl, rfl, by decide +kernel, rfl, by decide +kernel, by decide +kernel⟩
theorem scRanksIn : SC ["game", "value", "found", "layout", "rank", "move", "row", "one"] ["game", "value"] sRanksIn := ⟨rfl, rfl, rfl, by decide +kernel, rfl, by decide +kernel, by decide +kernel⟩
theorem scIsForced : SC ["game", "rows", "ranks", "layout", "rank", "move", "other"] ["game", "rows"] sIsForced := ⟨rfl, rfl, rfl, by decide +kernel, rfl, by decide +kernel, by decide +kernel⟩
theorem scShows : SC ["cells", "sizes", "many", "live", "value", "game"] ["cells", "sizes", "many", "live", "value"] sShows := ⟨rfl, rfl, rfl, by decide +kernel, rfl, by decide +kernel, by decide +kernel⟩
theorem scPen : SC ["script", "cell"] ["script"] sPen := ⟨rfl, rfl, rfl, by decide +kernel, rfl, by decide +kernel, by decide +kernel⟩
theorem scDraw : SC ["pen", "many", "rest", "at", "cell", "mixed"] ["pen", "many"] sDraw := ⟨rfl, rfl, rfl, by decide +kernel, rfl, by decide +kernel, by decide +kernel⟩
theorem scPick : SC ["pen", "some"] ["pen", "some"] sPick := ⟨rfl, rfl, rfl, by decide +kernel, rfl, by decide +kernel, by decide +kernel⟩
theorem scMixed : SC ["pen", "some", "rest", "found", "at"] ["pen", "some"] sMixed := ⟨rfl, rfl, rfl, by decide +kernel, rfl, by decide +kernel, by decide +kernel⟩
theorem scHeard : SC ["ask", "found", "caught", "error", "words", "kinds"] ["ask"] sHeard := ⟨rfl, rfl, rfl, by decide +kernel, rfl, by decide +kernel, by decide +kernel⟩
theorem scRowsLet : SC ["rows", "sizes", "many", "live", "found", "layout", "size", "start", "total", "at", "one"] ["rows", "sizes", "many", "live"] sRowsLet := ⟨rfl, rfl, rfl, by decide +kernel, rfl, by decide +kernel, by decide +kernel⟩
theorem scLaw : SC ["script", "pen", "turn", "cells", "many", "sizes", "live", "less", "told", "its", "mixed", "rows", "foreign", "first", "last", "size", "most_live", "row", "at", "one"] ["script"] sLaw := ⟨rfl, rfl, rfl, by decide +kernel, rfl, by decide +kernel, by decide +kernel⟩
end K23
namespace K23
open PySem PySem.Spec PyProof.Rows L2
/-! ### data under a grown heap -/
theorem sqT_same {K : PySem.W.Frag} {H H' : Hp} {a : Addr} {xs : List V} (e : Same H H') (h : SqT K H a xs) : SqT K H' a xs := by
  rcases h with (h | ⟨o, h⟩) | h
  · exact .inl (.inl (e _ _ h))
  · exact .inl (.inr ⟨o, e _ _ h⟩)
  · exact .inr h
mutual
theorem dp_same {K : PySem.W.Frag} {H H' : Hp} (e : Same H H') : ∀ {d : PyData} {v : V}, Dp K H v d → Dp K H' v d
  | .none, _, h => by cases h; exact .non
  | .bool b, _, h => by cases h; exact .bl b
  | .int i, _, h => by cases h; exact .int i
  | .str x, _, h => by cases h; exact .str x
  | .list ds, _, h => by
    cases h with
    | lst s a => exact .lst (e.seq s) (dpAll_same e a)
  | .tuple ds, _, h => by
    cases h with
    | tup s a => exact .tup (sqT_same e s) (dpAll_same e a)
  | .dict _, _, h => by cases h
theorem dpAll_same {K : PySem.W.Frag} {H H' : Hp} (e : Same H H') : ∀ {ds : List PyData} {vs : List V}, DpAll K H vs ds → DpAll K H' vs ds
  | [], _, h => by cases h; exact .nil
  | d :: ds, _, h => by
    cases h with
    | cons h1 h2 => exact .cons (dp_same e h1) (dpAll_same e h2)
end
theorem same_upd {H : Hp} {p : Addr} {o : HO} (h : H p = none) : Same H (upd H p o) := fun b x e => by
  rw [upd_ne (ne_of_none e h)]
  exact e
theorem same_upd' {H H1 : Hp} {p : Addr} {o : HO} (s : Same H H1) (h : H1 p = none) : Same H (upd H1 p o) := s.trans (same_upd h)
theorem dpAll_len {K : PySem.W.Frag} {H : Hp} : ∀ {ds : List PyData} {vs : List V}, DpAll K H vs ds → vs.length = ds.length
  | [], _, h => by cases h; rfl
  | d :: ds, _, h => by
    cases h with
    | cons h1 h2 => rw [List.length_cons, List.length_cons, dpAll_len h2]
/-! ### types -/
def tyD : PyData → String
  | .none => "NoneType"
  | .bool _ => "bool"
  | .int _ => "int"
  | .str _ => "str"
  | .list _ => "list"
  | .tuple _ => "tuple"
  | .dict _ => "dict"
theorem tyX_lst {K : PySem.W.Frag} {H : Hp} {a : Addr} {xs : List V} (s : SqL K H a xs) : TyX K H (.ref a) (.type "list") := by
  rcases s with (h | ⟨o, h⟩) | ⟨o, its, n, h, c, _⟩
  · exact .base (.lst h)
  · exact .base (.frz h)
  · exact .kList h c
theorem tyX_tup {K : PySem.W.Frag} {H : Hp} {a : Addr} {xs : List V} (s : SqT K H a xs) : TyX K H (.ref a) (.type "tuple") := by
  rcases s with (h | ⟨o, h⟩) | ⟨o, its, n, h, c, _⟩
  · exact .base (.tup h)
  · exact .fTuple h
  · exact .kTuple h c
theorem tyX_dp {K : PySem.W.Frag} {H : Hp} {v : V} {d : PyData} (h : Dp K H v d) : TyX K H v (.type (tyD d)) := by
  cases h with
  | non => exact .base .non
  | bl b => exact .base (.bl b)
  | int i => exact .base (.int i)
  | str x => exact .base (.str x)
  | lst s _ => exact tyX_lst s
  | tup s _ => exact tyX_tup s
theorem kt {K : PySem.W.Frag} (a b : String) {r : Bool} (h : kitB a b = some r) : PySem.W.kitOne K (.type a) (.type b) = some r := kit_ty h
theorem k_NoneType_int {K : PySem.W.Frag} : PySem.W.kitOne K (.type "NoneType") (.type "int") = some false := kit_ty (by decide +kernel)
theorem k_NoneType_bool {K : PySem.W.Frag} : PySem.W.kitOne K (.type "NoneType") (.type "bool") = some false := kit_ty (by decide +kernel)
theorem k_NoneType_list {K : PySem.W.Frag} : PySem.W.kitOne K (.type "NoneType") (.type "list") = some false := kit_ty (by decide +kernel)
theorem k_NoneType_tuple {K : PySem.W.Frag} : PySem.W.kitOne K (.type "NoneType") (.type "tuple") = some false := kit_ty (by decide +kernel)
theorem k_NoneType_dict {K : PySem.W.Frag} : PySem.W.kitOne K (.type "NoneType") (.type "dict") = some false := kit_ty (by decide +kernel)
theorem k_bool_int {K : PySem.W.Frag} : PySem.W.kitOne K (.type "bool") (.type "int") = some true := kit_ty (by decide +kernel)
theorem k_bool_bool {K : PySem.W.Frag} : PySem.W.kitOne K (.type "bool") (.type "bool") = some true := kit_ty (by decide +kernel)
theorem k_bool_list {K : PySem.W.Frag} : PySem.W.kitOne K (.type "bool") (.type "list") = some false := kit_ty (by decide +kernel)
theorem k_bool_tuple {K : PySem.W.Frag} : PySem.W.kitOne K (.type "bool") (.type "tuple") = some false := kit_ty (by decide +kernel)
theorem k_bool_dict {K : PySem.W.Frag} : PySem.W.kitOne K (.type "bool") (.type "dict") = some false := kit_ty (by decide +kernel)
theorem k_int_int {K : PySem.W.Frag} : PySem.W.kitOne K (.type "int") (.type "int") = some true := kit_ty (by decide +kernel)
theorem k_int_bool {K : PySem.W.Frag} : PySem.W.kitOne K (.type "int") (.type "bool") = some false := kit_ty (by decide +kernel)
theorem k_int_list {K : PySem.W.Frag} : PySem.W.kitOne K (.type "int") (.type "list") = some false := kit_ty (by decide +kernel)
theorem k_int_tuple {K : PySem.W.Frag} : PySem.W.kitOne K (.type "int") (.type "tuple") = some false := kit_ty (by decide +kernel)
theorem k_int_dict {K : PySem.W.Frag} : PySem.W.kitOne K (.type "int") (.type "dict") = some false := kit_ty (by decide +kernel)
theorem k_str_int {K : PySem.W.Frag} : PySem.W.kitOne K (.type "str") (.type "int") = some false := kit_ty (by decide +kernel)
theorem k_str_bool {K : PySem.W.Frag} : PySem.W.kitOne K (.type "str") (.type "bool") = some false := kit_ty (by decide +kernel)
theorem k_str_list {K : PySem.W.Frag} : PySem.W.kitOne K (.type "str") (.type "list") = some false := kit_ty (by decide +kernel)
theorem k_str_tuple {K : PySem.W.Frag} : PySem.W.kitOne K (.type "str") (.type "tuple") = some false := kit_ty (by decide +kernel)
theorem k_str_dict {K : PySem.W.Frag} : PySem.W.kitOne K (.type "str") (.type "dict") = some false := kit_ty (by decide +kernel)
theorem k_list_int {K : PySem.W.Frag} : PySem.W.kitOne K (.type "list") (.type "int") = some false := kit_ty (by decide +kernel)
theorem k_list_bool {K : PySem.W.Frag} : PySem.W.kitOne K (.type "list") (.type "bool") = some false := kit_ty (by decide +kernel)
theorem k_list_list {K : PySem.W.Frag} : PySem.W.kitOne K (.type "list") (.type "list") = some true := kit_ty (by decide +kernel)
theorem k_list_tuple {K : PySem.W.Frag} : PySem.W.kitOne K (.type "list") (.type "tuple") = some false := kit_ty (by decide +kernel)
theorem k_list_dict {K : PySem.W.Frag} : PySem.W.kitOne K (.type "list") (.type "dict") = some false := kit_ty (by decide +kernel)
theorem k_tuple_int {K : PySem.W.Frag} : PySem.W.kitOne K (.type "tuple") (.type "int") = some false := kit_ty (by decide +kernel)
theorem k_tuple_bool {K : PySem.W.Frag} : PySem.W.kitOne K (.type "tuple") (.type "bool") = some false := kit_ty (by decide +kernel)
theorem k_tuple_list {K : PySem.W.Frag} : PySem.W.kitOne K (.type "tuple") (.type "list") = some false := kit_ty (by decide +kernel)
theorem k_tuple_tuple {K : PySem.W.Frag} : PySem.W.kitOne K (.type "tuple") (.type "tuple") = some true := kit_ty (by decide +kernel)
theorem k_tuple_dict {K : PySem.W.Frag} : PySem.W.kitOne K (.type "tuple") (.type "dict") = some false := kit_ty (by decide +kernel)
/-! ### the built-in names -/
structure Bl (mg : Str → Option Value) : Prop where
  isi : mg "isinstance" = none
  int : mg "int" = none
  bool : mg "bool" = none
  list : mg "list" = none
  tuple : mg "tuple" = none
  dict : mg "dict" = none
  len : mg "len" = none
  min : mg "min" = none
  max : mg "max" = none
  sum : mg "sum" = none
  all : mg "all" = none
  sorted : mg "sorted" = none
  range : mg "range" = none
  abs : mg "abs" = none
  zip : mg "zip" = none
  super : mg "super" = none
def isInt : PyData → Bool
  | .int _ => true
  | _ => false
def isSeq : PyData → Bool
  | .list _ => true
  | .tuple _ => true
  | _ => false
def sizeD : PyData → Nat
  | .list xs => xs.length
  | .tuple xs => xs.length
  | _ => 0
def inI (d : PyData) (l m : Int) : Bool := match d with
  | .int i => decide (l ≤ i) && decide (i ≤ m)
  | _ => false
def isPlain (d : PyData) (n : Int) : Bool := isSeq d && decide ((sizeD d : Int) = n)
section
variable {P : Program} {w : World} {K : PySem.W.Frag} {mg : Str → Option Value} {base : Heap} {f g : Addr} {fd gd : FuncData}
abbrev FnP (K : PySem.W.Frag) (x : Str) (st : Stmt) (f : Addr) (fd : FuncData) : Prop := FunD K x x (defArgs st) (defBody st) (defScope st) [] [] f fd
def spIsInt (K : PySem.W.Frag) : Sp := fun vs H Q _ => ∃ v d, vs = [v] ∧ Dp K H v d ∧ Q (.bl (isInt d)) H
theorem ok_isInt (F : FnP K "is_integer" sIsInt f fd) (T : Bl mg) : FnOk P w K mg base CX0 1 f fd ["value"] (spIsInt K) := by
  refine F.ok scIsInt (fun vs H Q E h => ?_) (fun cdv A outer s H vs Q E hr h => ?_)
  · obtain ⟨v, d, rfl, _⟩ := h
    rfl
  · obtain ⟨v, d, rfl, hd, hq⟩ := h
    refine ⟨_, PSs.nox (pss_one (ps_ret (pe_and (pe_callB call_isi (by rfl) T.isi (by decide +kernel) (pa_cons (pv 0) (pa_cons (pe_bltn (v := .ty "int") (by rfl) T.int (by decide +kernel) rfl) pa_nil)))
      (pe_one (pe_not (pe_callB call_isi (by rfl) T.isi (by decide +kernel) (pa_cons (pv 0) (pa_cons (pe_bltn (v := .ty "bool") (by rfl) T.bool (by decide +kernel) rfl) pa_nil)))))))), ?_⟩
    have ty := tyX_dp hd
    cases hd with
    | int i => exact ⟨_, rfl, _, _, _, _, true, rfl, .ty _, ty, k_int_int, true, rfl, iteT ⟨_, rfl, _, _, _, _, false, rfl, .ty _, ty, k_int_bool, false, rfl, hq⟩⟩
    | bl i => exact ⟨_, rfl, _, _, _, _, true, rfl, .ty _, ty, k_bool_int, true, rfl, iteT ⟨_, rfl, _, _, _, _, true, rfl, .ty _, ty, k_bool_bool, true, rfl, hq⟩⟩
    | non => exact ⟨_, rfl, _, _, _, _, false, rfl, .ty _, ty, k_NoneType_int, false, rfl, iteF hq⟩
    | str x => exact ⟨_, rfl, _, _, _, _, false, rfl, .ty _, ty, k_str_int, false, rfl, iteF hq⟩
    | lst s a => exact ⟨_, rfl, _, _, _, _, false, rfl, .ty _, ty, k_list_int, false, rfl, iteF hq⟩
    | tup s a => exact ⟨_, rfl, _, _, _, _, false, rfl, .ty _, ty, k_tuple_int, false, rfl, iteF hq⟩
def spIsWithin (K : PySem.W.Frag) : Sp := fun vs H Q _ => ∃ v d l m, vs = [v, .int l, .int m] ∧ Dp K H v d ∧ Q (.bl (inI d l m)) H
theorem ok_isWithin (F : FnP K "is_within" sIsWithin f fd) (G : FnOk P w K mg base CX0 1 g gd ["value"] (spIsInt K)) (kg : PySem.W.keepIn K (.ref g) = true) (bg : Binds K gd ["value"] []) (gm : mg "is_integer" = some (.ref g)) :
    FnOk P w K mg base CX0 2 f fd ["value", "least", "most"] (spIsWithin K) := by
  refine F.ok scIsWithin (fun vs H Q E h => ?_) (fun cdv A outer s H vs Q E hr h => ?_)
  · obtain ⟨v, d, l, m, rfl, _⟩ := h
    rfl
  · obtain ⟨v, d, l, m, rfl, hd, hq⟩ := h
    refine ⟨_, PSs.nox (pss_one (ps_ret (pe_and (pe_call G hr (by rfl) gm kg bg .nil pass0 (pa_cons (pv 0) pa_nil)) (pe_one (pe_chain op_le op_le (pv 1) (pv 0) (pv 2)))))), ?_⟩
    refine ⟨_, rfl, _, _, rfl, hd, _, rfl, ?_⟩
    cases hd with
    | int i =>
      refine iteT ⟨_, rfl, _, rfl, _, _, rfl, rfl, _, rfl, ?_⟩
      by_cases h1 : l ≤ i
      · rw [if_pos (decide_eq_true h1)]
        have e : inI (.int i) l m = decide (i ≤ m) := by
          show (decide (l ≤ i) && decide (i ≤ m)) = _
          rw [decide_eq_true h1, Bool.true_and]
        rw [e] at hq
        exact ⟨_, rfl, _, _, rfl, rfl, hq⟩
      · rw [if_neg (by simpa using h1)]
        have e : inI (.int i) l m = false := by
          show (decide (l ≤ i) && decide (i ≤ m)) = _
          rw [decide_eq_false h1, Bool.false_and]
        rw [e] at hq
        exact hq
    | _ => exact iteF hq
end
end K23
namespace K23
open PySem PySem.Spec PyProof.Rows L2
section
variable {P : Program} {w : World} {K : PySem.W.Frag} {mg : Str → Option Value} {base : Heap} {f g : Addr} {fd gd : FuncData}
theorem kitListed {K : PySem.W.Frag} (d : PyData) (hd : ∀ kvs, d ≠ .dict kvs) : PySem.W.kitAny K (.type (tyD d)) [.type "list", .type "tuple"] = some (isSeq d) := by
  cases d with
  | none => exact kitAny_cons k_NoneType_list (fun _ => kitAny_cons k_NoneType_tuple (fun _ => kitAny_nil) (fun h => nomatch h)) (fun h => nomatch h)
  | bool b => exact kitAny_cons k_bool_list (fun _ => kitAny_cons k_bool_tuple (fun _ => kitAny_nil) (fun h => nomatch h)) (fun h => nomatch h)
  | int b => exact kitAny_cons k_int_list (fun _ => kitAny_cons k_int_tuple (fun _ => kitAny_nil) (fun h => nomatch h)) (fun h => nomatch h)
  | str b => exact kitAny_cons k_str_list (fun _ => kitAny_cons k_str_tuple (fun _ => kitAny_nil) (fun h => nomatch h)) (fun h => nomatch h)
  | list b => exact kitAny_cons k_list_list (fun h => nomatch h) (fun _ => rfl)
  | tuple b => exact kitAny_cons k_tuple_list (fun _ => kitAny_cons k_tuple_tuple (fun h => nomatch h) (fun _ => rfl)) (fun h => nomatch h)
  | dict b => exact absurd rfl (hd b)
theorem dp_nodict {H : Hp} {v : V} {d : PyData} (h : Dp K H v d) : ∀ kvs, d ≠ .dict kvs := by
  intro kvs e
  subst e
  cases h
def spIsListed (K : PySem.W.Frag) : Sp := fun vs H Q _ => ∃ v d, vs = [v] ∧ Dp K H v d ∧ ∀ H', Same H H' → Q (.bl (isSeq d)) H'
theorem ok_isListed (F : FnP K "is_listed" sIsListed f fd) (T : Bl mg) : FnOk P w K mg base CX0 1 f fd ["value"] (spIsListed K) := by
  refine F.ok scIsListed (fun vs H Q E h => ?_) (fun cdv A outer s H vs Q E hr h => ?_)
  · obtain ⟨v, d, rfl, _⟩ := h
    rfl
  · obtain ⟨v, d, rfl, hd, hq⟩ := h
    refine ⟨_, PSs.nox (pss_one (ps_ret (pe_callB call_isiT (by rfl) T.isi (by decide +kernel) (pa_cons (pv 0) (pa_cons (pe_tup (pa_cons (pe_bltn (v := .ty "list") (by rfl) T.list (by decide +kernel) rfl)
      (pa_cons (pe_bltn (v := .ty "tuple") (by rfl) T.tuple (by decide +kernel) rfl) pa_nil))) pa_nil))))), ?_⟩
    refine ⟨_, rfl, by decide, fun p np => ?_⟩
    have s1 : Same H (upd H p (.tup [.ty "list", .ty "tuple"])) := same_upd np
    exact ⟨_, p, _, _, _, _, rfl, upd_same, .cons (.ty _) (.cons (.ty _) .nil), tyX_dp (dp_same s1 hd), kitListed d (dp_nodict hd), hq _ s1⟩
def spIsPlain (K : PySem.W.Frag) : Sp := fun vs H Q _ => ∃ v d n, vs = [v, .int n] ∧ Dp K H v d ∧ ∀ H', Same H H' → Q (.bl (isPlain d n)) H'
theorem ok_isPlain (F : FnP K "is_plain_tuple" sIsPlain f fd) (T : Bl mg) (G : FnOk P w K mg base CX0 1 g gd ["value"] (spIsListed K)) (kg : PySem.W.keepIn K (.ref g) = true) (bg : Binds K gd ["value"] []) (gm : mg "is_listed" = some (.ref g)) :
    FnOk P w K mg base CX0 2 f fd ["value", "many"] (spIsPlain K) := by
  refine F.ok scIsPlain (fun vs H Q E h => ?_) (fun cdv A outer s H vs Q E hr h => ?_)
  · obtain ⟨v, d, n, rfl, _⟩ := h
    rfl
  · obtain ⟨v, d, n, rfl, hd, hq⟩ := h
    refine ⟨_, PSs.nox (pss_one (ps_ret (pe_and (pe_call G hr (by rfl) gm kg bg .nil pass0 (pa_cons (pv 0) pa_nil))
      (pe_one (pe_cmpR op_eq (pe_callB call_len_seq (by rfl) T.len PySem.boot_len (pa_cons (pv 0) pa_nil)) (pv 1) (nomark _)))))), ?_⟩
    refine ⟨_, rfl, _, _, rfl, hd, fun H' s1 => ⟨_, rfl, ?_⟩⟩
    have e : ∀ L : Nat, isSeq d = true → sizeD d = L → decide (V.int (L : Int) = V.int n) = isPlain d n := by
      intro L he hz
      unfold isPlain
      rw [he, Bool.true_and, hz]
      by_cases h1 : (L : Int) = n
      · rw [decide_eq_true h1, decide_eq_true (by rw [h1])]
      · rw [decide_eq_false h1, decide_eq_false (fun z => h1 (V.int.inj z))]
    have d1 := dp_same s1 hd
    cases d1 with
    | lst s a =>
      refine iteT ⟨_, rfl, _, _, rfl, .inl s, _, rfl, rfl, ?_⟩
      rw [e _ rfl (dpAll_len a).symm]
      exact hq _ s1
    | tup s a =>
      refine iteT ⟨_, rfl, _, _, rfl, .inr s, _, rfl, rfl, ?_⟩
      rw [e _ rfl (dpAll_len a).symm]
      exact hq _ s1
    | _ => exact iteF (hq _ s1)
end
end K23
namespace K23
open PySem PySem.Spec PyProof.Rows L2
theorem dpAll_get {K : PySem.W.Frag} {H : Hp} : ∀ {ds : List PyData} {vs : List V} {i : Nat} {v : V}, DpAll K H vs ds → vs[i]? = some v → ∃ d, ds[i]? = some d ∧ Dp K H v d
  | [], _, i, v, h, e => by cases h; simp at e
  | d :: ds, _, 0, v, h, e => by
    cases h with
    | cons h1 h2 => simp at e; subst e; exact ⟨d, rfl, h1⟩
  | d :: ds, _, i + 1, v, h, e => by
    cases h with
    | cons h1 h2 =>
      obtain ⟨d', a, b⟩ := dpAll_get h2 (by simpa using e)
      exact ⟨d', by simpa using a, b⟩
theorem dpAll_snoc {K : PySem.W.Frag} {H : Hp} : ∀ {ds : List PyData} {vs : List V} {d : PyData} {v : V}, DpAll K H vs ds → Dp K H v d → DpAll K H (vs ++ [v]) (ds ++ [d])
  | [], _, d, v, h, e => by cases h; exact .cons e .nil
  | d0 :: ds, _, d, v, h, e => by
    cases h with
    | cons h1 h2 => exact .cons h1 (dpAll_snoc h2 e)
theorem filter_take_succ {α : Type} (p : α → Bool) {l : List α} {i : Nat} {x : α} (h : l[i]? = some x) : (l.take (i + 1)).filter p = (l.take i).filter p ++ (if p x = true then [x] else []) := by
  rw [List.take_succ, h, List.filter_append]
  show (l.take i).filter p ++ [x].filter p = _
  rw [List.filter_cons]
  split <;> rfl
/-! data without lists: what changes a list leaves it -/
mutual
def tupOnly : PyData → Bool
  | .list _ => false
  | .dict _ => false
  | .tuple ds => tupAll ds
  | _ => true
def tupAll : List PyData → Bool
  | [] => true
  | d :: ds => tupOnly d && tupAll ds
end
theorem tupAll_cons {d : PyData} {ds : List PyData} (h : tupAll (d :: ds) = true) : tupOnly d = true ∧ tupAll ds = true := by
  rw [tupAll, Bool.and_eq_true] at h
  exact h
theorem tupOnly_tuple {ds : List PyData} (h : tupOnly (.tuple ds) = true) : tupAll ds = true := by
  rw [tupOnly] at h
  exact h
theorem rd_tup_upd {H : Hp} {D a : Addr} {zs ws xs : List V} (hD : H D = some (.lst zs)) (h : Rd H a (.tup xs)) : Rd (upd H D (.lst ws)) a (.tup xs) := by
  rcases h with h | ⟨o, h⟩
  · exact .inl (by rw [upd_ne (ne_of h hD (fun z => nomatch z))]; exact h)
  · exact .inr ⟨o, by rw [upd_ne (ne_of h hD (fun z => nomatch z))]; exact h⟩
mutual
theorem dp_updL {K : PySem.W.Frag} {H : Hp} {D : Addr} {zs ws : List V} (hD : H D = some (.lst zs)) : ∀ {d : PyData} {v : V}, tupOnly d = true → Dp K H v d → Dp K (upd H D (.lst ws)) v d
  | .none, _, _, h => by cases h; exact .non
  | .bool b, _, _, h => by cases h; exact .bl b
  | .int i, _, _, h => by cases h; exact .int i
  | .str x, _, _, h => by cases h; exact .str x
  | .list ds, _, t, h => by rw [tupOnly] at t; cases t
  | .tuple ds, _, t, h => by
    cases h with
    | tup s a =>
      refine .tup ?_ (dpAll_updL hD (tupOnly_tuple t) a)
      rcases s with s | s
      · exact .inl (rd_tup_upd hD s)
      · exact .inr s
  | .dict _, _, _, h => by cases h
theorem dpAll_updL {K : PySem.W.Frag} {H : Hp} {D : Addr} {zs ws : List V} (hD : H D = some (.lst zs)) : ∀ {ds : List PyData} {vs : List V}, tupAll ds = true → DpAll K H vs ds → DpAll K (upd H D (.lst ws)) vs ds
  | [], _, _, h => by cases h; exact .nil
  | d :: ds, _, t, h => by
    cases h with
    | cons h1 h2 => exact .cons (dp_updL hD (tupAll_cons t).1 h1) (dpAll_updL hD (tupAll_cons t).2 h2)
end
theorem tupAll_of : ∀ {ds : List PyData}, (∀ d ∈ ds, tupOnly d = true) → tupAll ds = true
  | [], _ => by rw [tupAll]
  | d :: ds, h => by
    rw [tupAll, h d (List.mem_cons_self), tupAll_of fun x hx => h x (List.mem_cons_of_mem _ hx)]
    rfl
section
variable {K : PySem.W.Frag} {a : Addr} {xs : List V} {ds : List PyData} {g : TG} {tt : TT} {te : TE} {vs : List Nat} {σ : L2.St} {H1 : Hp} {D : Addr} {Qd : Hp → Prop}
/-- what a turn of a comprehension is to show: from data d, kept by keep, the data F d -/
abbrev LcStep (K : PySem.W.Frag) (ds : List PyData) (g : TG) (tt : TT) (te : TE) (vs : List Nat) (σ : L2.St) (H1 : Hp) (keep : PyData → Bool) (F : PyData → PyData) : Prop :=
  ∀ x d H, Same H1 H → Dp K H x d → d ∈ ds → ∀ (R : V → Hp → Prop) (S : Hp → Prop), (∀ y H', Same H H' → keep d = true → Dp K H' y (F d) → R y H') → (∀ H', Same H H' → keep d = false → S H') →
    g x (wipe σ vs) H fun σ2 H2 => wipe σ2 vs = wipe σ vs ∧ tt σ2 H2 fun b H3 => if b = true then te σ2 H3 R else S H3
def LcP (K : PySem.W.Frag) (ds : List PyData) (H1 : Hp) (D : Addr) (keep : PyData → Bool) (F : PyData → PyData) (i : Nat) (H : Hp) : Prop :=
  Same H1 H ∧ ∃ ys, H D = some (.lst ys) ∧ DpAll K H ys (((ds.take i).filter keep).map F)
theorem lcP_turn {keep : PyData → Bool} {F : PyData → PyData} (hlen : ds.length ≤ 1000000) (nD : H1 D = none) (hds : DpAll K H1 xs ds) (hF : ∀ d ∈ ds, keep d = true → tupOnly (F d) = true) (step : LcStep K ds g tt te vs σ H1 keep F)
    (i : Nat) (x : V) (H : Hp) (hx : xs[i]? = some x) (p : LcP K ds H1 D keep F i H) :
    g x (wipe σ vs) H fun σ2 H2 => wipe σ2 vs = wipe σ vs ∧ tt σ2 H2 fun b H3 =>
      if b = true then te σ2 H3 fun y H4 => ∃ acc, H4 D = some (.lst acc) ∧ acc.length < sizeLine ∧ LcP K ds H1 D keep F (i + 1) (upd H4 D (.lst (acc ++ [y]))) else LcP K ds H1 D keep F (i + 1) H3 := by
  obtain ⟨s1, ys, eD, hys⟩ := p
  obtain ⟨d, hd, hxd⟩ := dpAll_get hds hx
  refine step x d H s1 (dp_same s1 hxd) (List.mem_of_getElem? hd) _ _ (fun y H' s2 hk hy => ⟨ys, s2 _ _ eD, ?_, ?_⟩) (fun H' s2 hk => ?_)
  · rw [dpAll_len hys, List.length_map]
    have h1 := List.length_filter_le keep (ds.take i)
    have h2 : (ds.take i).length ≤ ds.length := List.length_take_le' _ _
    rw [sizeLine_eq]
    omega
  · have sU : Same H1 (upd H' D (.lst (ys ++ [y]))) := fun b o e => by
      have hb : b ≠ D := ne_of_none e nD
      rw [upd_ne hb]
      exact s2 _ _ (s1 _ _ e)
    refine ⟨sU, _, upd_same, ?_⟩
    rw [filter_take_succ keep hd, if_pos hk, List.map_append]
    refine dpAll_updL (s2 _ _ eD) (tupAll_of fun z hz => ?_) (dpAll_snoc (dpAll_same s2 hys) hy)
    rcases List.mem_append.mp hz with hz | hz
    · obtain ⟨z0, h0, rfl⟩ := List.mem_map.mp hz
      obtain ⟨h1, h2⟩ := List.mem_filter.mp h0
      exact hF _ (List.mem_of_mem_take h1) h2
    · rw [List.map_singleton, List.mem_singleton] at hz
      rw [hz]
      exact hF _ (List.mem_of_getElem? hd) hk
  · refine ⟨s1.trans s2, ys, s2 _ _ eD, ?_⟩
    rw [filter_take_succ keep hd, hk]
    simp only [Bool.false_eq_true, if_false, List.append_nil]
    exact dpAll_same s2 hys
theorem lc_dpL {keep : PyData → Bool} {F : PyData → PyData} (hlen : ds.length ≤ 1000000) (hsrc : SqL K H1 a xs) (nD : H1 D = none) (hds : DpAll K H1 xs ds) (hF : ∀ d ∈ ds, keep d = true → tupOnly (F d) = true) (step : LcStep K ds g tt te vs σ H1 keep F)
    (hd : ∀ H ys, Same H1 H → H D = some (.lst ys) → DpAll K H ys ((ds.filter keep).map F) → Qd H) :
    ∃ W : Nat → Nat → Hp → Prop, (∃ m, W 0 m (upd H1 D (.lst []))) ∧ ∀ i m H, W i m H →
      ((Itl K a).stop i H ∧ Qd H) ∨ ((Itl K a).go i H ∧ ∃ Nx : Hp → Prop, (∀ H', Nx H' → ∃ m', m' < m ∧ W (i + 1) m' H') ∧ ∀ x H', (Itl K a).yld i H x H' → g x (wipe σ vs) H' fun σ2 H2 => wipe σ2 vs = wipe σ vs ∧ tt σ2 H2 fun b H3 =>
        if b = true then te σ2 H3 fun y H4 => ∃ acc, H4 D = some (.lst acc) ∧ acc.length < sizeLine ∧ Nx (upd H4 D (.lst (acc ++ [y]))) else Nx H3) :=
  lc_list (K := K) (a := a) (xs := xs) (LcP K ds H1 D keep F) ⟨same_upd nD, [], upd_same, .nil⟩ (fun i H hi p => p.1.seq hsrc) (fun i x H hx p => lcP_turn hlen nD hds hF step i x H hx p) (fun H p => by
    obtain ⟨s1, ys, e, h⟩ := p
    rw [dpAll_len hds, List.take_length] at h
    exact hd H ys s1 e h)
theorem lc_dpT {keep : PyData → Bool} {F : PyData → PyData} (hlen : ds.length ≤ 1000000) (hsrc : SqT K H1 a xs) (nD : H1 D = none) (hds : DpAll K H1 xs ds) (hF : ∀ d ∈ ds, keep d = true → tupOnly (F d) = true) (step : LcStep K ds g tt te vs σ H1 keep F)
    (hd : ∀ H ys, Same H1 H → H D = some (.lst ys) → DpAll K H ys ((ds.filter keep).map F) → Qd H) :
    ∃ W : Nat → Nat → Hp → Prop, (∃ m, W 0 m (upd H1 D (.lst []))) ∧ ∀ i m H, W i m H →
      ((Itt K a).stop i H ∧ Qd H) ∨ ((Itt K a).go i H ∧ ∃ Nx : Hp → Prop, (∀ H', Nx H' → ∃ m', m' < m ∧ W (i + 1) m' H') ∧ ∀ x H', (Itt K a).yld i H x H' → g x (wipe σ vs) H' fun σ2 H2 => wipe σ2 vs = wipe σ vs ∧ tt σ2 H2 fun b H3 =>
        if b = true then te σ2 H3 fun y H4 => ∃ acc, H4 D = some (.lst acc) ∧ acc.length < sizeLine ∧ Nx (upd H4 D (.lst (acc ++ [y]))) else Nx H3) :=
  lc_tup (K := K) (a := a) (xs := xs) (LcP K ds H1 D keep F) ⟨same_upd nD, [], upd_same, .nil⟩ (fun i H hi p => sqT_same p.1 hsrc) (fun i x H hx p => lcP_turn hlen nD hds hF step i x H hx p) (fun H p => by
    obtain ⟨s1, ys, e, h⟩ := p
    rw [dpAll_len hds, List.take_length] at h
    exact hd H ys s1 e h)
end
end K23
namespace K23
open PySem PySem.Spec PyProof.Rows L2
mutual
def tupD : PyData → PyData
  | .list xs => .tuple (tupDs xs)
  | .tuple xs => .tuple (tupDs xs)
  | d => d
def tupDs : List PyData → List PyData
  | [] => []
  | d :: ds => tupD d :: tupDs ds
end
theorem tupDs_map : ∀ ds, tupDs ds = ds.map tupD
  | [] => by rw [tupDs]; rfl
  | d :: ds => by rw [tupDs, tupDs_map ds]; rfl
def fits : Nat → PyData → Prop
  | n + 1, .list ds => ds.length ≤ 1000000 ∧ ∀ d ∈ ds, fits n d
  | n + 1, .tuple ds => ds.length ≤ 1000000 ∧ ∀ d ∈ ds, fits n d
  | 0, .list _ => False
  | 0, .tuple _ => False
  | _, .dict _ => False
  | _, _ => True
theorem tupOnly_tupD : ∀ n d, fits n d → tupOnly (tupD d) = true
  | _, .none, _ => by simp [tupD, tupOnly]
  | _, .bool _, _ => by simp [tupD, tupOnly]
  | _, .int _, _ => by simp [tupD, tupOnly]
  | _, .str _, _ => by simp [tupD, tupOnly]
  | n + 1, .list ds, h => by
    rw [tupD, tupOnly, tupDs_map]
    refine tupAll_of fun z hz => ?_
    obtain ⟨d, hd, rfl⟩ := List.mem_map.mp hz
    exact tupOnly_tupD n d (h.2 d hd)
  | n + 1, .tuple ds, h => by
    rw [tupD, tupOnly, tupDs_map]
    refine tupAll_of fun z hz => ?_
    obtain ⟨d, hd, rfl⟩ := List.mem_map.mp hz
    exact tupOnly_tupD n d (h.2 d hd)
  | 0, .list _, h => h.elim
  | 0, .tuple _, h => h.elim
  | 0, .dict _, h => by simp [fits] at h
  | n + 1, .dict _, h => by simp [fits] at h
theorem filter_tt {α : Type} (l : List α) : l.filter (fun _ => true) = l := List.filter_eq_self.mpr fun _ _ => rfl
theorem wipe_one (σ : L2.St) (i : Nat) (x : Option V) : wipe ((wipe σ [i]).set i x) [i] = wipe σ [i] := by
  simp [wipe]
section
variable {P : Program} {w : World} {K : PySem.W.Frag} {mg : Str → Option Value} {base : Heap} {f g : Addr} {fd gd : FuncData}
def spFixed (K : PySem.W.Frag) (n : Nat) : Sp := fun vs H Q _ => ∃ v d, vs = [v] ∧ Dp K H v d ∧ fits n d ∧ ∀ H' v', Same H H' → Dp K H' v' (tupD d) → Q v' H'
theorem ok_fixed (F : FnP K "fixed" sFixed f fd) (T : Bl mg) (bf : Binds K fd ["value"] []) (gm : mg "fixed" = some (.ref f)) : ∀ n, FnOk P w K mg base CX0 (n + 1) f fd ["value"] (spFixed K n)
  | 0 => by
    refine F.ok scFixed (fun vs H Q E h => ?_) (fun cdv A outer s H vs Q E hr h => ?_)
    · obtain ⟨v, d, rfl, _⟩ := h
      rfl
    · obtain ⟨v, d, rfl, hd, hf, hq⟩ := h
      refine ⟨_, PSs.nox (pss_cons (ps_if (pt_val (pe_callB call_isiT (by rfl) T.isi (by decide +kernel) (pa_cons (pv 0) (pa_cons (pe_tup (pa_cons (pe_bltn (v := .ty "list") (by rfl) T.list (by decide +kernel) rfl)
          (pa_cons (pe_bltn (v := .ty "tuple") (by rfl) T.tuple (by decide +kernel) rfl) pa_nil))) pa_nil)))) pss_never pss_nil)
        (pss_cons (ps_if (pt_val (pe_callB call_isi (by rfl) T.isi (by decide +kernel) (pa_cons (pv 0) (pa_cons (pe_bltn (v := .ty "dict") (by rfl) T.dict (by decide +kernel) rfl) pa_nil)))) pss_never pss_nil)
        (pss_one (ps_ret (pv 0))))), ?_⟩
      refine ⟨_, rfl, by decide, fun p np => ?_⟩
      have s1 : Same H (upd H p (.tup [.ty "list", .ty "tuple"])) := same_upd np
      refine ⟨_, p, _, _, _, _, rfl, upd_same, .cons (.ty _) (.cons (.ty _) .nil), tyX_dp (dp_same s1 hd), kitListed d (dp_nodict hd), _, rfl, ?_⟩
      have hd1 := dp_same s1 hd
      have ty := tyX_dp hd1
      cases hd with
      | non => exact iteF ⟨_, rfl, _, _, _, _, false, rfl, .ty _, ty, k_NoneType_dict, _, rfl, iteF ⟨_, rfl, hq _ _ s1 hd1⟩⟩
      | bl b => exact iteF ⟨_, rfl, _, _, _, _, false, rfl, .ty _, ty, k_bool_dict, _, rfl, iteF ⟨_, rfl, hq _ _ s1 hd1⟩⟩
      | int b => exact iteF ⟨_, rfl, _, _, _, _, false, rfl, .ty _, ty, k_int_dict, _, rfl, iteF ⟨_, rfl, hq _ _ s1 hd1⟩⟩
      | str b => exact iteF ⟨_, rfl, _, _, _, _, false, rfl, .ty _, ty, k_str_dict, _, rfl, iteF ⟨_, rfl, hq _ _ s1 hd1⟩⟩
      | lst _ _ => exact hf.elim
      | tup _ _ => exact hf.elim
  | n + 1 => by
    have G := ok_fixed F T bf gm n
    refine F.ok scFixed (fun vs H Q E h => ?_) (fun cdv A outer s H vs Q E hr h => ?_)
    · obtain ⟨v, d, rfl, _⟩ := h
      rfl
    · obtain ⟨v, d, rfl, hd, hf, hq⟩ := h
      -- [fixed(part) for part in value] of a list, of a tuple
      have step : ∀ ds, (∀ d ∈ ds, fits n d) → ∀ σ : L2.St, σ.length = 2 → ∀ H1, LcStep K ds (gName 1) tYes (tCall (spFixed K n) [] E0 (tCons (tVar 1) tNil)) [1] σ H1 (fun _ => true) tupD := by
        intro ds hds σ hσ H1 x d H2 s2 hx hm R S hR hS
        refine ⟨wipe_one σ 1 _, ?_⟩
        dsimp only [tYes]
        rw [if_pos rfl]
        refine ⟨x, ?_, x, d, rfl, hx, hds d hm, fun H' v' s3 h3 => hR _ _ s3 rfl h3⟩
        rw [List.getElem?_set_self]
        rw [wipe_length, hσ]
        decide
      have src : (∃ a xs ds, v = .ref a ∧ SqL K H a xs ∧ DpAll K H xs ds ∧ d = .list ds) ∨ (∃ a xs ds, v = .ref a ∧ SqT K H a xs ∧ DpAll K H xs ds ∧ d = .tuple ds) ∨ (isSeq d = false) := by
        cases hd with
        | lst s a => exact .inl ⟨_, _, _, rfl, s, a, rfl⟩
        | tup s a => exact .inr (.inl ⟨_, _, _, rfl, s, a, rfl⟩)
        | _ => exact .inr (.inr rfl)
      rcases src with ⟨a, xs, ds, rfl, hs, ha, rfl⟩ | ⟨a, xs, ds, rfl, hs, ha, rfl⟩ | hn
      · refine ⟨_, PSs.nox (pss_cons (ps_if (pt_val (pe_callB call_isiT (by rfl) T.isi (by decide +kernel) (pa_cons (pv 0) (pa_cons (pe_tup (pa_cons (pe_bltn (v := .ty "list") (by rfl) T.list (by decide +kernel) rfl)
            (pa_cons (pe_bltn (v := .ty "tuple") (by rfl) T.tuple (by decide +kernel) rfl) pa_nil))) pa_nil))))
            (pss_one (ps_ret (pe_callTy call_tuple_of (by rfl) T.tuple (by decide +kernel) (pa_cons (pe_lc (own := [("part", 1)]) (g := gName 1) (tt := tYes) rfl scFixed.nd (pi_list (pv 0)) (blkOk_by (N := ["value", "part"]) (sc := defScope sFixed) (by decide +kernel))
              (fun _ _ _ _ _ => pg_name (i := 1) scFixed.nd rfl (Or.inl rfl)) (fun _ _ _ _ _ => pts_nil) (fun _ _ _ _ _ => pe_call G hr (by rfl) gm F.kp bf .nil pass0 (pa_cons (pv 1) pa_nil))) pa_nil)))) pss_nil)
          pss_never), ?_⟩
        refine ⟨_, rfl, by decide, fun p np => ?_⟩
        have s1 : Same H (upd H p (.tup [.ty "list", .ty "tuple"])) := same_upd np
        refine ⟨_, p, _, _, _, _, rfl, upd_same, .cons (.ty _) (.cons (.ty _) .nil), tyX_dp (dp_same s1 hd), kitListed _ (dp_nodict hd), true, rfl, iteT ?_⟩
        refine ⟨_, rfl, a, rfl, ⟨_, s1.seq hs⟩, fun D nD => ?_⟩
        refine lc_dpL (keep := fun _ => true) (F := tupD) hf.1 (s1.seq hs) nD (dpAll_same s1 ha) (fun d hd _ => tupOnly_tupD n d (hf.2 d hd)) (step ds hf.2 _ rfl _) (fun H2 ys s2 eD hys => ?_)
        refine ⟨D, ys, rfl, .inl ⟨.inl (.inl eD), fun l nl => ?_⟩⟩
        have s3 : Same H2 (upd H2 l (.tup ys)) := same_upd nl
        refine hq _ _ ((s1.trans s2).trans s3) ?_
        rw [tupD, tupDs_map]
        rw [filter_tt] at hys
        exact .tup (.inl (.inl upd_same)) (dpAll_same s3 hys)
      · refine ⟨_, PSs.nox (pss_cons (ps_if (pt_val (pe_callB call_isiT (by rfl) T.isi (by decide +kernel) (pa_cons (pv 0) (pa_cons (pe_tup (pa_cons (pe_bltn (v := .ty "list") (by rfl) T.list (by decide +kernel) rfl)
            (pa_cons (pe_bltn (v := .ty "tuple") (by rfl) T.tuple (by decide +kernel) rfl) pa_nil))) pa_nil))))
            (pss_one (ps_ret (pe_callTy call_tuple_of (by rfl) T.tuple (by decide +kernel) (pa_cons (pe_lc (own := [("part", 1)]) (g := gName 1) (tt := tYes) rfl scFixed.nd (pi_tup (pv 0)) (blkOk_by (N := ["value", "part"]) (sc := defScope sFixed) (by decide +kernel))
              (fun _ _ _ _ _ => pg_name (i := 1) scFixed.nd rfl (Or.inl rfl)) (fun _ _ _ _ _ => pts_nil) (fun _ _ _ _ _ => pe_call G hr (by rfl) gm F.kp bf .nil pass0 (pa_cons (pv 1) pa_nil))) pa_nil)))) pss_nil)
          pss_never), ?_⟩
        refine ⟨_, rfl, by decide, fun p np => ?_⟩
        have s1 : Same H (upd H p (.tup [.ty "list", .ty "tuple"])) := same_upd np
        refine ⟨_, p, _, _, _, _, rfl, upd_same, .cons (.ty _) (.cons (.ty _) .nil), tyX_dp (dp_same s1 hd), kitListed _ (dp_nodict hd), true, rfl, iteT ?_⟩
        refine ⟨_, rfl, a, rfl, ⟨_, sqT_same s1 hs⟩, fun D nD => ?_⟩
        refine lc_dpT (keep := fun _ => true) (F := tupD) hf.1 (sqT_same s1 hs) nD (dpAll_same s1 ha) (fun d hd _ => tupOnly_tupD n d (hf.2 d hd)) (step ds hf.2 _ rfl _) (fun H2 ys s2 eD hys => ?_)
        refine ⟨D, ys, rfl, .inl ⟨.inl (.inl eD), fun l nl => ?_⟩⟩
        have s3 : Same H2 (upd H2 l (.tup ys)) := same_upd nl
        refine hq _ _ ((s1.trans s2).trans s3) ?_
        rw [tupD, tupDs_map]
        rw [filter_tt] at hys
        exact .tup (.inl (.inl upd_same)) (dpAll_same s3 hys)
      · refine ⟨_, PSs.nox (pss_cons (ps_if (pt_val (pe_callB call_isiT (by rfl) T.isi (by decide +kernel) (pa_cons (pv 0) (pa_cons (pe_tup (pa_cons (pe_bltn (v := .ty "list") (by rfl) T.list (by decide +kernel) rfl)
          (pa_cons (pe_bltn (v := .ty "tuple") (by rfl) T.tuple (by decide +kernel) rfl) pa_nil))) pa_nil)))) pss_never pss_nil)
          (pss_cons (ps_if (pt_val (pe_callB call_isi (by rfl) T.isi (by decide +kernel) (pa_cons (pv 0) (pa_cons (pe_bltn (v := .ty "dict") (by rfl) T.dict (by decide +kernel) rfl) pa_nil)))) pss_never pss_nil)
          (pss_one (ps_ret (pv 0))))), ?_⟩
        refine ⟨_, rfl, by decide, fun p np => ?_⟩
        have s1 : Same H (upd H p (.tup [.ty "list", .ty "tuple"])) := same_upd np
        refine ⟨_, p, _, _, _, _, rfl, upd_same, .cons (.ty _) (.cons (.ty _) .nil), tyX_dp (dp_same s1 hd), kitListed _ (dp_nodict hd), _, rfl, ?_⟩
        have hd1 := dp_same s1 hd
        have ty := tyX_dp hd1
        cases hd with
        | non => exact iteF ⟨_, rfl, _, _, _, _, false, rfl, .ty _, ty, k_NoneType_dict, _, rfl, iteF ⟨_, rfl, hq _ _ s1 hd1⟩⟩
        | bl b => exact iteF ⟨_, rfl, _, _, _, _, false, rfl, .ty _, ty, k_bool_dict, _, rfl, iteF ⟨_, rfl, hq _ _ s1 hd1⟩⟩
        | int b => exact iteF ⟨_, rfl, _, _, _, _, false, rfl, .ty _, ty, k_int_dict, _, rfl, iteF ⟨_, rfl, hq _ _ s1 hd1⟩⟩
        | str b => exact iteF ⟨_, rfl, _, _, _, _, false, rfl, .ty _, ty, k_str_dict, _, rfl, iteF ⟨_, rfl, hq _ _ s1 hd1⟩⟩
        | lst _ _ => cases hn
        | tup _ _ => cases hn
end
end K23
namespace K23
open PySem PySem.Spec PyProof.Rows L2 RZ
section
variable {K : PySem.W.Frag} {es : List PyData} {g : TG} {tt : TT} {te : TE} {vs : List Nat} {σ : L2.St} {H1 : Hp} {D : Addr} {Qd : Hp → Prop}
/-- a comprehension over whatever yields data, only making objects -/
theorem lc_data {J : It} {n : Nat} {G : Hp → Prop} {Y : Nat → Hp → V → Hp → Prop} (wk : Walk J n G Y) {keep : PyData → Bool} {F : PyData → PyData} (hn : n = es.length) (hlen : es.length ≤ 1000000) (nD : H1 D = none)
    (hG : ∀ H, Same H1 H → G H) (hY : ∀ i H x H', i < n → Same H1 H → Y i H x H' → Same H H' ∧ ∃ e, es[i]? = some e ∧ Dp K H' x e)
    (hF : ∀ d ∈ es, keep d = true → tupOnly (F d) = true) (step : LcStep K es g tt te vs σ H1 keep F)
    (hd : ∀ H ys, Same H1 H → H D = some (.lst ys) → DpAll K H ys ((es.filter keep).map F) → Qd H) :
    ∃ W : Nat → Nat → Hp → Prop, (∃ m, W 0 m (upd H1 D (.lst []))) ∧ ∀ i m H, W i m H →
      (J.stop i H ∧ Qd H) ∨ (J.go i H ∧ ∃ Nx : Hp → Prop, (∀ H', Nx H' → ∃ m', m' < m ∧ W (i + 1) m' H') ∧ ∀ x H', J.yld i H x H' → g x (wipe σ vs) H' fun σ2 H2 => wipe σ2 vs = wipe σ vs ∧ tt σ2 H2 fun b H3 =>
        if b = true then te σ2 H3 fun y H4 => ∃ acc, H4 D = some (.lst acc) ∧ acc.length < sizeLine ∧ Nx (upd H4 D (.lst (acc ++ [y]))) else Nx H3) := by
  refine lc_it wk (LcP K es H1 D keep F) ⟨same_upd nD, [], upd_same, .nil⟩ (fun i H hi p => hG H p.1) (fun i x H H' hi p y => ?_) (fun H p => ?_)
  · obtain ⟨s2, d, hd', hx⟩ := hY i H x H' hi p.1 y
    obtain ⟨s1, ys, eD, hys⟩ := p
    refine step x d H' (s1.trans s2) hx (List.mem_of_getElem? hd') _ _ (fun y H3 s3 hk hy => ⟨ys, s3 _ _ (s2 _ _ eD), ?_, ?_⟩) (fun H3 s3 hk => ?_)
    · rw [dpAll_len hys, List.length_map]
      have h1 := List.length_filter_le keep (es.take i)
      have h2 : (es.take i).length ≤ es.length := List.length_take_le' _ _
      rw [sizeLine_eq]
      omega
    · have sU : Same H1 (upd H3 D (.lst (ys ++ [y]))) := fun b o e => by
        have hb : b ≠ D := ne_of_none e nD
        rw [upd_ne hb]
        exact s3 _ _ (s2 _ _ (s1 _ _ e))
      refine ⟨sU, _, upd_same, ?_⟩
      rw [filter_take_succ keep hd', if_pos hk, List.map_append]
      refine dpAll_updL (s3 _ _ (s2 _ _ eD)) (tupAll_of fun z hz => ?_) (dpAll_snoc (dpAll_same (s2.trans s3) hys) hy)
      rcases List.mem_append.mp hz with hz | hz
      · obtain ⟨z0, h0, rfl⟩ := List.mem_map.mp hz
        obtain ⟨h1, h2⟩ := List.mem_filter.mp h0
        exact hF _ (List.mem_of_mem_take h1) h2
      · rw [List.map_singleton, List.mem_singleton] at hz
        rw [hz]
        exact hF _ (List.mem_of_getElem? hd') hk
    · refine ⟨(s1.trans s2).trans s3, ys, s3 _ _ (s2 _ _ eD), ?_⟩
      rw [filter_take_succ keep hd', hk]
      simp only [Bool.false_eq_true, if_false, List.append_nil]
      exact dpAll_same (s2.trans s3) hys
  · obtain ⟨s1, ys, e, h⟩ := p
    rw [hn, List.take_length] at h
    exact hd H ys s1 e h
end
theorem walk_zipT {K : PySem.W.Frag} {a b : Addr} {xs ys : List V} {n : Nat} (hn : n = min xs.length ys.length) : Walk (ItzT K a b) n (fun H => SqT K H a xs ∧ SqT K H b ys) (YPair (fun i => xs[i]?) (fun i => ys[i]?)) := by
  subst hn
  refine ⟨fun i H hi q => ?_, fun H q => ?_, fun i H x H' hi q y => ?_⟩
  · have h1 : i < xs.length := by omega
    have h2 : i < ys.length := by omega
    exact ⟨xs, ys, xs[i], ys[i], q.1, q.2, List.getElem?_eq_getElem h1, List.getElem?_eq_getElem h2⟩
  · refine ⟨xs, ys, q.1, q.2, ?_⟩
    omega
  · obtain ⟨T, x', y', e, hT, e', f1, f2⟩ := y
    exact ⟨T, x', y', e, hT, e', f1 xs q.1, f2 ys q.2⟩
theorem dpAll_at {K : PySem.W.Frag} {H : Hp} : ∀ {ds : List PyData} {vs : List V} {i : Nat} {v : V}, DpAll K H vs ds → vs[i]? = some v → ∃ d, ds[i]? = some d ∧ Dp K H v d :=
  fun h e => dpAll_get h e
/-! ### are_like -/
def isBoolD : PyData → Bool
  | .bool _ => true
  | _ => false
def leafD : PyData → Bool
  | .none => true
  | .bool _ => true
  | .int _ => true
  | .str _ => true
  | _ => false
def leafLike (d e : PyData) : Bool := if isBoolD d = isBoolD e then PyData.eqv d e else false
mutual
def likeD : PyData → PyData → Bool
  | .tuple xs, .tuple ys => likeDs xs ys
  | d, e => leafLike d e
def likeDs : List PyData → List PyData → Bool
  | [], [] => true
  | x :: xs, y :: ys => likeD x y && likeDs xs ys
  | _, _ => false
end
theorem likeDs_zip : ∀ xs ys : List PyData, likeDs xs ys = (decide (xs.length = ys.length) && ((xs.zip ys).map fun p => likeD p.1 p.2).all id)
  | [], [] => by simp [likeDs]
  | [], y :: ys => by simp [likeDs]
  | x :: xs, [] => by simp [likeDs]
  | x :: xs, y :: ys => by
    rw [likeDs, likeDs_zip xs ys]
    simp only [List.length_cons, List.zip_cons_cons, List.map_cons, List.all_cons, id, Nat.add_right_cancel_iff]
    cases likeD x y <;> cases decide (xs.length = ys.length) <;> rfl
theorem likeD_leaf {d e : PyData} (hd : leafD d = true) : likeD d e = leafLike d e := by
  cases d <;> first | (cases hd; done) | (simp [likeD])
/-- data of one shape: leaves, or tuples of at most a million items -/
def pairT : Nat → PyData → PyData → Prop
  | n + 1, .tuple xs, .tuple ys => xs.length ≤ 1000000 ∧ ys.length ≤ 1000000 ∧ ∀ p ∈ xs.zip ys, pairT n p.1 p.2
  | _, d, e => leafD d = true ∧ leafD e = true ∧ SeqAt.shaped d = true ∧ SeqAt.shaped e = true
theorem pairT_cases {n : Nat} {d e : PyData} (h : pairT n d e) : (∃ m xs ys, n = m + 1 ∧ d = .tuple xs ∧ e = .tuple ys ∧ xs.length ≤ 1000000 ∧ ys.length ≤ 1000000 ∧ ∀ p ∈ xs.zip ys, pairT m p.1 p.2) ∨ (leafD d = true ∧ leafD e = true ∧ SeqAt.shaped d = true ∧ SeqAt.shaped e = true) := by
  cases n with
  | zero => exact .inr (by simpa [pairT] using h)
  | succ m =>
    cases d with
    | tuple xs =>
      cases e with
      | tuple ys => exact .inl ⟨m, xs, ys, rfl, rfl, rfl, by simpa [pairT] using h⟩
      | _ => exact .inr (by simpa [pairT] using h)
    | _ => exact .inr (by simpa [pairT] using h)
theorem zip_get {α β : Type} {xs : List α} {ys : List β} {i : Nat} {x : α} {y : β} (h1 : xs[i]? = some x) (h2 : ys[i]? = some y) : (xs.zip ys)[i]? = some (x, y) := by
  rw [List.getElem?_zip_eq_some]
  exact ⟨h1, h2⟩
section
variable {P : Program} {w : World} {K : PySem.W.Frag} {mg : Str → Option Value} {base : Heap} {f g : Addr} {fd gd : FuncData}
def spLike (K : PySem.W.Frag) (n : Nat) : Sp := fun vs H Q _ => ∃ v u d e, vs = [v, u] ∧ Dp K H v d ∧ Dp K H u e ∧ pairT n d e ∧ ∀ H', Same H H' → Q (.bl (likeD d e)) H'
theorem kT {K : PySem.W.Frag} (d : PyData) (hd : ∀ kvs, d ≠ .dict kvs) (hl : leafD d = true) : PySem.W.kitOne K (.type (tyD d)) (.type "tuple") = some false ∧ PySem.W.kitOne K (.type (tyD d)) (.type "dict") = some false ∧ PySem.W.kitOne K (.type (tyD d)) (.type "bool") = some (isBoolD d) := by
  cases d with
  | none => exact ⟨k_NoneType_tuple, k_NoneType_dict, k_NoneType_bool⟩
  | bool b => exact ⟨k_bool_tuple, k_bool_dict, k_bool_bool⟩
  | int b => exact ⟨k_int_tuple, k_int_dict, k_int_bool⟩
  | str b => exact ⟨k_str_tuple, k_str_dict, k_str_bool⟩
  | _ => cases hl
end
end K23
namespace K23
open PySem PySem.Spec PyProof.Rows L2 RZ
section
variable {P : Program} {w : World} {K : PySem.W.Frag} {mg : Str → Option Value} {base : Heap} {f g : Addr} {fd gd : FuncData}
theorem ok_leaf (F : FnP K "are_like" sAreLike f fd) (T : Bl mg) (k : Nat) : FnOk P w K mg base CX0 (k + 1) f fd ["one", "other"]
    (fun vs H Q _ => ∃ v u d e, vs = [v, u] ∧ Dp K H v d ∧ Dp K H u e ∧ leafD d = true ∧ leafD e = true ∧ SeqAt.shaped d = true ∧ SeqAt.shaped e = true ∧ Q (.bl (leafLike d e)) H) := by
  refine F.ok scAreLike (fun vs H Q E h => ?_) (fun cdv A outer s H vs Q E hr h => ?_)
  · obtain ⟨v, u, d, e, rfl, _⟩ := h
    rfl
  · obtain ⟨v, u, d, e, rfl, hd, he, ld, le, sd, se, hq⟩ := h
    have ty1 := tyX_dp hd
    have ty2 := tyX_dp he
    obtain ⟨a1, a2, a3⟩ := kT (K := K) d (dp_nodict hd) ld
    obtain ⟨b1, b2, b3⟩ := kT (K := K) e (dp_nodict he) le
    refine ⟨_, PSs.nox (pss_cons (ps_if (PW.pt (pw_and (pt_val (pe_callB call_isi (by rfl) T.isi (by decide +kernel) (pa_cons (pv 0) (pa_cons (pe_bltn (v := .ty "tuple") (by rfl) T.tuple (by decide +kernel) rfl) pa_nil)))) (pw_and1 (pt_val (pe_callB call_isi (by rfl) T.isi (by decide +kernel) (pa_cons (pv 1) (pa_cons (pe_bltn (v := .ty "tuple") (by rfl) T.tuple (by decide +kernel) rfl) pa_nil))))))) pss_never pss_nil)
      (pss_cons (ps_if (PW.pt (pw_and (pt_val (pe_callB call_isi (by rfl) T.isi (by decide +kernel) (pa_cons (pv 0) (pa_cons (pe_bltn (v := .ty "dict") (by rfl) T.dict (by decide +kernel) rfl) pa_nil)))) (pw_and1 (pt_val (pe_callB call_isi (by rfl) T.isi (by decide +kernel) (pa_cons (pv 1) (pa_cons (pe_bltn (v := .ty "dict") (by rfl) T.dict (by decide +kernel) rfl) pa_nil))))))) pss_never pss_nil)
      (pss_cons (ps_if (pt_cmpR op_ne (pe_callB call_isi (by rfl) T.isi (by decide +kernel) (pa_cons (pv 0) (pa_cons (pe_bltn (v := .ty "bool") (by rfl) T.bool (by decide +kernel) rfl) pa_nil))) (pe_callB call_isi (by rfl) T.isi (by decide +kernel) (pa_cons (pv 1) (pa_cons (pe_bltn (v := .ty "bool") (by rfl) T.bool (by decide +kernel) rfl) pa_nil))) (nomark _)) (pss_one (ps_ret pe_bl)) pss_nil)
      (pss_one (ps_ret (pe_callTy call_bool1 (by rfl) T.bool (by decide +kernel) (pa_cons (pe_cmpR (op_eqD hr.units) (pv 0) (pv 1) (nomark _)) pa_nil))))))), ?_⟩
    refine ⟨_, rfl, _, _, _, _, _, rfl, .ty _, ty1, a1, _, rfl, iteF (iteF ?_)⟩
    refine ⟨_, rfl, _, _, _, _, _, rfl, .ty _, ty1, a2, _, rfl, iteF (iteF ?_)⟩
    refine ⟨_, rfl, _, _, _, _, _, rfl, .ty _, ty1, a3, _, rfl, _, _, _, _, _, rfl, .ty _, ty2, b3, rfl, _, rfl, ?_⟩
    unfold leafLike at hq
    by_cases hb : isBoolD d = isBoolD e
    · rw [if_pos hb] at hq
      rw [hb]
      simp only [decide_true, Bool.not_true]
      refine iteF ⟨_, rfl, _, rfl, _, _, hd, he, sd, se, .inr ⟨_, rfl, hq⟩⟩
    · rw [if_neg hb] at hq
      have : (!decide (V.bl (isBoolD d) = V.bl (isBoolD e))) = true := by simp [hb]
      rw [this]
      exact iteT hq
theorem dpAll_zip {H : Hp} {xs ys : List V} {ds es : List PyData} {i : Nat} {x y : V} (h1 : DpAll K H xs ds) (h2 : DpAll K H ys es) (e1 : xs[i]? = some x) (e2 : ys[i]? = some y) : ∃ d e, (ds.zip es)[i]? = some (d, e) ∧ Dp K H x d ∧ Dp K H y e := by
  obtain ⟨d, hd, pd⟩ := dpAll_get h1 e1
  obtain ⟨e, he, pe⟩ := dpAll_get h2 e2
  exact ⟨d, e, zip_get hd he, pd, pe⟩
def pairF : PyData → PyData
  | .tuple [d, e] => .bool (likeD d e)
  | d => d
theorem bools_of {H : Hp} : ∀ {bs : List Bool} {ys : List V}, DpAll K H ys (bs.map PyData.bool) → ys = bs.map V.bl
  | [], _, h => by cases h; rfl
  | b :: bs, _, h => by
    cases h with
    | cons h1 h2 =>
      cases h1
      rw [List.map_cons, bools_of h2]
theorem FnOk_or {CX : CXT} {k : Nat} {ps : List Str} {sp sp' : Sp} (F : FnOk P w K mg base CX k f fd ps sp) (G : FnOk P w K mg base CX k f fd ps sp') : FnOk P w K mg base CX k f fd ps (fun vs H Q E => sp vs H Q E ∨ sp' vs H Q E) :=
  ⟨fun vs H Q E q => q.elim (F.len _ _ _ _) (G.len _ _ _ _), fun A outer s H args us vs Q E hr he hb hv hs => hs.elim (F.run A outer s H args us vs Q E hr he hb hv) (G.run A outer s H args us vs Q E hr he hb hv)⟩
theorem wipe_two (σ : L2.St) (i j : Nat) (x y : Option V) : wipe ((((wipe σ [i, j]).set i x)).set j y) [i, j] = wipe σ [i, j] := by
  apply List.ext_getElem?
  intro k
  simp only [wipe, List.foldl_cons, List.foldl_nil, List.getElem?_set]
  grind
theorem ok_tupl (F : FnP K "are_like" sAreLike f fd) (T : Bl mg) (bf : Binds K fd ["one", "other"] []) (gm : mg "are_like" = some (.ref f)) (n k : Nat) (G : FnOk P w K mg base CX0 k f fd ["one", "other"] (spLike K n)) : FnOk P w K mg base CX0 (k + 1) f fd ["one", "other"]
    (fun vs H Q _ => ∃ v u xs ys, vs = [v, u] ∧ Dp K H v (.tuple xs) ∧ Dp K H u (.tuple ys) ∧ xs.length ≤ 1000000 ∧ ys.length ≤ 1000000 ∧ (∀ p ∈ xs.zip ys, pairT n p.1 p.2) ∧ ∀ H', Same H H' → Q (.bl (likeDs xs ys)) H') := by
  refine F.ok scAreLike (fun vs H Q E h => ?_) (fun cdv A outer s H vs Q E hr h => ?_)
  · obtain ⟨v, u, d, e, rfl, _⟩ := h
    rfl
  · obtain ⟨v, u, ds, es, rfl, hd, he, l1, l2, hp, hq⟩ := h
    have ty1 := tyX_dp hd
    have ty2 := tyX_dp he
    refine ⟨_, PSs.nox (pss_cons (ps_if (PW.pt (pw_and (pt_val (pe_callB call_isi (by rfl) T.isi (by decide +kernel) (pa_cons (pv 0) (pa_cons (pe_bltn (v := .ty "tuple") (by rfl) T.tuple (by decide +kernel) rfl) pa_nil)))) (pw_and1 (pt_val (pe_callB call_isi (by rfl) T.isi (by decide +kernel) (pa_cons (pv 1) (pa_cons (pe_bltn (v := .ty "tuple") (by rfl) T.tuple (by decide +kernel) rfl) pa_nil)))))))
      (pss_one (ps_ret (pe_and (pe_cmpR op_eq (pe_callB call_len_seq (by rfl) T.len PySem.boot_len (pa_cons (pv 0) pa_nil)) (pe_callB call_len_seq (by rfl) T.len PySem.boot_len (pa_cons (pv 1) pa_nil)) (nomark _))
        (pe_one (pe_callB (cr_all rfl) (by rfl) T.all (by decide +kernel) (pa_cons (pe_lc (own := [("here", 3), ("there", 4)]) (g := gTup K 2 (gCons (gName 3) (gCons (gName 4) gNil))) (tt := tYes) rfl scAreLike.nd
          (pi_zipA (by rfl) T.zip (pa_cons (pv 0) (pa_cons (pv 1) pa_nil))) (blkOk_by (N := ["one", "other", "keys", "here", "there"]) (sc := defScope sAreLike) (by decide +kernel))
          (fun _ _ _ _ _ => pg_tup rfl (pgs_cons (pg_name (i := 3) scAreLike.nd rfl (Or.inl rfl)) (pgs_cons (pg_name (i := 4) scAreLike.nd rfl (Or.inl rfl)) pgs_nil))) (fun _ _ _ _ _ => pts_nil)
          (fun _ _ _ _ _ => pe_call G hr (by rfl) gm F.kp bf .nil pass0 (pa_cons (pv 3) (pa_cons (pv 4) pa_nil)))) pa_nil)))))) pss_nil) pss_never), ?_⟩
    cases hd with
    | tup s1 a1 =>
    cases he with
    | tup s2 a2 =>
    rename_i a xs b ys
    refine ⟨_, rfl, _, _, _, _, _, rfl, .ty _, ty1, k_tuple_tuple, _, rfl, iteT ?_⟩
    refine ⟨_, rfl, _, _, _, _, _, rfl, .ty _, ty2, k_tuple_tuple, _, rfl, iteT ?_⟩
    refine ⟨_, rfl, _, _, rfl, .inr s1, _, rfl, _, _, rfl, .inr s2, rfl, _, rfl, ?_⟩
    have e1 := dpAll_len a1
    have e2 := dpAll_len a2
    rw [likeDs_zip] at hq
    by_cases hl : ds.length = es.length
    · rw [decide_eq_true hl, Bool.true_and] at hq
      have : decide (V.int (xs.length : Int) = V.int (ys.length : Int)) = true := by simp [e1, e2, hl]
      rw [this]
      refine iteT ?_
      refine ⟨_, rfl, _, rfl, a, b, xs, ys, rfl, .inr ⟨s1, s2, fun D nD => ?_⟩⟩
      refine lc_data (K := K) (es := (ds.zip es).map fun p => .tuple [p.1, p.2]) (n := min xs.length ys.length) (walk_zipT rfl) (keep := fun _ => true) (F := pairF) ?_ ?_ nD (fun H' s => ⟨sqT_same s s1, sqT_same s s2⟩) (fun i H x H' hi s y => ?_) (fun d hd _ => ?_) (fun x d H3 s3 hx hm R S hR hS => ?_) (fun H2 ys s4 eD hys => ?_)
      · rw [List.length_map, List.length_zip, e1, e2]
      · rw [List.length_map, List.length_zip]
        omega
      · obtain ⟨T', x', y', rfl, hT, rfl, f1, f2⟩ := y
        have sT : Same H (upd H T' (.tup [x', y'])) := same_upd hT
        obtain ⟨d, e, hz, hd1, he1⟩ := dpAll_zip a1 a2 f1 f2
        refine ⟨sT, .tuple [d, e], ?_, .tup (.inl (.inl upd_same)) (.cons (dp_same (s.trans sT) hd1) (.cons (dp_same (s.trans sT) he1) .nil))⟩
        rw [List.getElem?_map, hz]
        rfl
      · obtain ⟨p, hp', rfl⟩ := List.mem_map.mp hd
        rfl
      · obtain ⟨⟨d', e'⟩, hp', rfl⟩ := List.mem_map.mp hm
        cases hx with
        | tup sx ax =>
          rename_i ax' vs'
          cases ax with
          | cons h1 ax =>
            cases ax with
            | cons h2 ax =>
              cases ax
              refine ⟨_, _, rfl, sx, rfl, _, _, rfl, _, _, rfl, rfl, wipe_two _ 3 4 _ _, ?_⟩
              dsimp only [tYes]
              rw [if_pos rfl]
              refine ⟨_, rfl, _, rfl, _, _, _, _, rfl, h1, h2, hp _ hp', fun H' s5 => hR _ _ s5 rfl (.bl _)⟩
      · rw [filter_tt, List.map_map] at hys
        have hb := bools_of (bs := (ds.zip es).map fun p => likeD p.1 p.2) (ys := ys) (by rw [List.map_map]; exact hys)
        subst hb
        exact ⟨D, _, rfl, .inl (.inl eD), hq _ s4⟩
    · rw [decide_eq_false hl, Bool.false_and] at hq
      have : decide (V.int (xs.length : Int) = V.int (ys.length : Int)) = false := by simp [e1, e2]; omega
      rw [this]
      exact iteF (hq _ (Same.refl _))
theorem ok_like (F : FnP K "are_like" sAreLike f fd) (T : Bl mg) (bf : Binds K fd ["one", "other"] []) (gm : mg "are_like" = some (.ref f)) : ∀ n, FnOk P w K mg base CX0 (n + 1) f fd ["one", "other"] (spLike K n) := by
  intro n
  induction n with
  | zero =>
    refine (ok_leaf F T 0).imp fun vs H Q E h => ?_
    obtain ⟨v, u, d, e, rfl, hd, he, hp, hq⟩ := h
    rcases pairT_cases hp with ⟨m, _, _, e, _⟩ | ⟨l1, l2, s1, s2⟩
    · cases e
    · refine ⟨v, u, d, e, rfl, hd, he, l1, l2, s1, s2, ?_⟩
      rw [← likeD_leaf l1]
      exact hq _ (Same.refl _)
  | succ n G =>
    refine (FnOk_or (ok_leaf F T (n + 1)) (ok_tupl F T bf gm n (n + 1) G)).imp fun vs H Q E h => ?_
    obtain ⟨v, u, d, e, rfl, hd, he, hp, hq⟩ := h
    rcases pairT_cases hp with ⟨m, xs, ys, en, rfl, rfl, l1, l2, hz⟩ | ⟨l1, l2, s1, s2⟩
    · cases en
      refine .inr ⟨v, u, xs, ys, rfl, hd, he, l1, l2, hz, ?_⟩
      rw [likeD] at hq
      exact hq
    · refine .inl ⟨v, u, d, e, rfl, hd, he, l1, l2, s1, s2, ?_⟩
      rw [← likeD_leaf l1]
      exact hq _ (Same.refl _)
end
end K23
set_option maxHeartbeats 2000000
namespace KSup
open PySem PySem.Spec PyProof.Rows L2 PpSet
/-! ### a set comprehension of items of any one kind: how the empty set is told, how an item is added -/
def FrO (O0 : World → Addr → HO) : Prop := ∀ (P : Program) (w : World) (H : Hp) (h : Heap), ObjOk P w H (h.push { cls := .type "set", dict := none, data := .set #[] 0 (.fresh 0 0 (!w.params.followText "set-order")) }) h.objs.size (O0 w h.objs.size)
def AdO (Ad : World → Addr → V → Hp → Hp → Prop) : Prop := ∀ (X : Cx) {pins : List (Addr × Obj)} {σ : L2.St} {H H' : Hp} {s : Shared} {E : Value → Shared → Prop} {D : Addr} {y : V} {z : Value} {Q : Value → Shared → Prop}, Inv X pins σ H s → RelV y z → Ad X.w D y H H' →
  (∀ s', Inv X pins σ H' s' → Q .none s') → wpAny (model X.prog X.w) X.A (call (.builtin "set.add") [.ref D, z]) Q E s
section
variable {X : Cx} {O0 : World → Addr → HO} {Ad : World → Addr → V → Hp → Hp → Prop}
/-- {elt for target in iter if ..}: D the new set -/
def tScG (O0 : World → Addr → HO) (Ad : World → Addr → V → Hp → Hp → Prop) (w : World) (wi : TI) (g : TG) (tt : TT) (te : TE) (vs : List Nat) : TE := fun σ H Q => wi σ H fun J H1 => ∀ D, H1 D = none → ∃ W : Nat → Nat → Hp → Prop, (∃ m, W 0 m (upd H1 D (O0 w D))) ∧ ∀ i m H, W i m H →
  (J.stop i H ∧ Q (.ref D) H) ∨ (J.go i H ∧ ∃ Nx : Hp → Prop, (∀ H', Nx H' → ∃ m', m' < m ∧ W (i + 1) m' H') ∧ ∀ x H', J.yld i H x H' → g x (wipe σ vs) H' fun σ2 H2 => wipe σ2 vs = wipe σ vs ∧ tt σ2 H2 fun b H3 =>
    if b = true then te σ2 H3 fun y H4 => ∃ H5, Ad w D y H4 H5 ∧ Nx H5 else Nx H3)
theorem scg_core (fr : FrO O0) (ad : AdO Ad) {pins : List (Addr × Obj)} {s : Shared} {σ : L2.St} {H : Hp} {Q : VK} {elt tg iter : Expr} {ifs : List Expr} {scope : Scope} {own : List (PySem.Str × Nat)} {pos pos' : Pos} {wi : TI} {g : TG} {tt : TT} {te : TE} {use : Option (Value → Sem Unit)} {Qf : Value → Shared → Prop}
    (hc : X.calm = true) (hN : X.N.Nodup) (I : Inv X pins σ H s) (hi : PI X tg iter wi) (ok : BlkOk X.N X.env.scope scope own)
    (hg : ∀ (s : Shared) (H : Hp) (C : Addr) (cl : List (PySem.Str × Addr)) (fp : List Addr), PG (X.blk s H scope (compEnvC scope cl C X.env) fp) tg g) (ht : ∀ (s : Shared) (H : Hp) (C : Addr) (cl : List (PySem.Str × Addr)) (fp : List Addr), PTs (X.blk s H scope (compEnvC scope cl C X.env) fp) ifs tt)
    (he : ∀ (s : Shared) (H : Hp) (C : Addr) (cl : List (PySem.Str × Addr)) (fp : List Addr), PE (X.blk s H scope (compEnvC scope cl C X.env) fp) elt te) (hs : ∀ x, foldedSetIterable iter X.env x = pure x)
    (h : tScG O0 Ad X.w wi g tt te (own.map (·.2)) σ H Q)
    (hRR : ∀ D C s' m H', Inv X pins σ H' s' → Q (.ref D) H' → s'.heap.Ns C m → FpOk X pins H' C → compPost (model X.prog X.w) X.A X.xe use Qf (.ref D) C (.ok .next) s') :
    wpAny (model X.prog X.w) X.A (comprehension (.SetComp elt [⟨tg, iter, ifs, 0⟩] scope pos) scope X.env pos' (newSet (.type "set")) false (eval iter X.env) use) Qf X.xe s := by
  have hfree : ∀ y ∈ scope.names, y.2 = .free → ∃ c, X.env.cells.lookup y.1 = some c := fun y hy e => by
    rcases ok.free y hy e with k | k
    · exact I.ok.has _ (.inl k)
    · exact I.ok.has _ (.inr k)
  refine wpAny_comprehension_free (use := use) rfl hs (closure_ok hfree) ok.kind (fun y hy e => by rw [ok.uniq y hy, e])
    (thn (hi.run pins s σ H _ I h) fun xv s1 hx => thn hx fun itv s2 h2 => ?_)
  obtain ⟨it, fp, tn, J, H2, e, I2, T, st2, f2, q⟩ := h2
  subst e
  refine PpSet.newSet_ok (newEnv_comp ?_)
  generalize hD : s2.heap.objs.size = D
  have hDn : H2 D = none := I2.hok.fresh (Nat.le_of_eq hD)
  obtain ⟨W, ⟨m0, w0⟩, turn⟩ := q D hDn
  -- the new list
  generalize hs3 : ({ s2 with heap := s2.heap.push { cls := .type "set", dict := none, data := .set #[] 0 (.fresh 0 0 (!X.w.params.followText "set-order")) } } : Shared) = s3
  have I3 : Inv X pins σ (upd H2 D (O0 X.w D)) s3 := by
    rw [← hs3]
    refine I2.laid (t' := s2.toks) (fun b o e => Heap.get?_push_of_some _ e) (Nat.le_of_eq hD) ?_
    rw [← hD]
    exact fr _ _ _ _
  have h3 : s3.heap = s2.heap.push { cls := .type "set", dict := none, data := .set #[] 0 (.fresh 0 0 (!X.w.params.followText "set-order")) } := by rw [← hs3]
  have sz : ∀ b ∈ fp, b < s2.heap.objs.size := fun b hb => by
    obtain ⟨o, e, _⟩ := T.obj _ _ st2 b hb
    exact Heap.lt_size e
  have f3 : ∀ b ∈ fp, FpOk X pins (upd H2 D (O0 X.w D)) b ∧ b < s3.heap.objs.size := fun b hb => by
    have hlt := sz b hb
    refine ⟨⟨?_, (f2 b hb).2⟩, by rw [h3, Heap.size_push]; exact Nat.lt_succ_of_lt hlt⟩
    rw [upd_ne (by rw [← hD]; exact Nat.ne_of_lt hlt)]
    exact (f2 b hb).1
  have st3 : tn 0 s3.heap := T.keep _ _ _ st2 fun b _ o e => by rw [h3]; exact Heap.get?_push_of_some _ e
  have I4 := block_start I3 ok hN f3
  have pg := hg s3 (upd H2 D (O0 X.w D)) s3.heap.objs.size (cellsFrom (s3.heap.objs.size + 1) scope.names (cloFrom X.env.cells scope.names [])) fp
  have pt := ht s3 (upd H2 D (O0 X.w D)) s3.heap.objs.size (cellsFrom (s3.heap.objs.size + 1) scope.names (cloFrom X.env.cells scope.names [])) fp
  have pe := he s3 (upd H2 D (O0 X.w D)) s3.heap.objs.size (cellsFrom (s3.heap.objs.size + 1) scope.names (cloFrom X.env.cells scope.names [])) fp
  show codeAny _ _ (.compStart (.SetComp elt [⟨tg, iter, ifs, 0⟩] scope pos) 0 (.ref it) (.ref D) (compEnvC scope (cellsFrom (s3.heap.objs.size + 1) scope.names (cloFrom X.env.cells scope.names [])) s3.heap.objs.size X.env)) (compPost (model X.prog X.w) X.A X.xe use Qf (.ref D) s3.heap.objs.size) { s3 with heap := pushCells (s3.heap.push { cls := .type "dict", data := .dict #[] }) scope.names }
  have nfp : ∀ b ∈ fp, (upd H2 D (O0 X.w D)) b = none := fun b hb => (f3 b hb).1.1
  generalize hce : compEnvC scope (cellsFrom (s3.heap.objs.size + 1) scope.names (cloFrom X.env.cells scope.names [])) s3.heap.objs.size X.env = ce at I4 pg pt pe ⊢
  have cL : ce.locals = s3.heap.objs.size := by subst hce; rfl
  generalize hH3 : upd H2 D (O0 X.w D) = H3 at I3 I4 pg pt pe w0 nfp f3
  generalize hs4 : ({ s3 with heap := pushCells (s3.heap.push { cls := .type "dict", data := .dict #[] }) scope.names } : Shared) = s4 at I4 ⊢
  have st4 : tn 0 s4.heap := T.keep _ _ _ st3 fun b _ o e => by rw [← hs4]; exact pushCells_keeps _ _ _ _ (Heap.get?_push_of_some _ e)
  have stat : ∀ {σ' : L2.St} {H' : Hp} {s' : Shared}, Inv (X.blk s3 H3 scope ce fp) [] σ' H' s' → (∀ b ∈ fp, H' b = none) → ∀ b ∈ fp, FpOk (X.blk s3 H3 scope ce fp) [] H' b := fun {σ' H' s'} I' hn b hb =>
    ⟨hn b hb, (I'.ok.exf b hb).1, I'.ok.exfs b hb, .inl hb, fun x c e => (I'.ok.exf b hb).2 x c e, fun p hp => absurd (show p ∈ ([] : List (Addr × Obj)) ++ [] from hp) (by simp)⟩
  have loop : codeAny (model X.prog X.w) X.A (.compLoop (.SetComp elt [⟨tg, iter, ifs, 0⟩] scope pos) 0 (.ref it) (.ref D) ce) (compPost (model X.prog X.w) X.A X.xe use Qf (.ref D) s3.heap.objs.size) s4 := by
    refine PpSet.compLoopS_any (fun n s' => ∃ i H', Inv (X.blk s3 H3 scope ce fp) [] (wipe σ (own.map (·.2))) H' s' ∧ tn i s'.heap ∧ (∀ b ∈ fp, H' b = none) ∧ W i n H') ?_ m0 ⟨0, H3, I4, st4, nfp, w0⟩
    rintro n s5 ⟨i, H5, I5, st5, n5, w5⟩
    rcases turn i n H5 w5 with ⟨stop, qq⟩ | ⟨go, Nx, hNx, step⟩
    · have td := T.done (X.blk s3 H3 scope ce fp) rfl rfl rfl hc i [] s5 _ H5 (fun _ _ => False) I5 (stat I5 n5) st5 stop
      refine thnF td fun r s6 ⟨hr, I6⟩ => ?_
      subst hr
      -- back in the def's context
      have I7 : Inv X pins σ H5 s6 := I3.call' (ch := fp) I6.os I6.base I6.hok I6.bare fun b hb => ⟨(f3 b hb).1.2.2.2.1, (f3 b hb).1.2.1, (f3 b hb).1.2.2.2.2.1, (f3 b hb).1.2.2.2.2.2⟩
      have nC : H5 s3.heap.objs.size = none := by
        have z : H5 ce.locals = none := I6.free
        rw [cL] at z
        exact z
      obtain ⟨m, hn, _⟩ := I6.loc
      have hn : s6.heap.Ns ce.locals m := hn
      rw [cL] at hn
      exact hRR D s3.heap.objs.size s6 m H5 I7 qq hn (I3.fpOk (Nat.le_refl _) nC)
    · have ti := T.item (X.blk s3 H3 scope ce fp) rfl rfl rfl hc i [] s5 _ H5 (fun _ _ => False) I5 (stat I5 n5) st5 go
      refine thnF ti fun r s6 ⟨u, hr, h6⟩ => ?_
      subst hr
      refine thnF h6 fun _ s7 ⟨x, H7, I7, r7, y7, st7, n7⟩ => ?_
      have I7' := I7.pinned (stat I7 n7) (T.obj _ _ st7)
      refine thnF (pg.run _ s7 _ H7 x u _ I7' r7 (step x H7 y7)) fun _ s8 ⟨σ8, H8, I8, hw8, q8⟩ => ?_
      refine thnF (pt.run _ s8 σ8 H8 _ I8 q8) fun b s9 ⟨H9, I9, q9⟩ => ?_
      -- the turn's end
      have fin : ∀ {s' : Shared} {H' : Hp}, Inv (X.blk s3 H3 scope ce fp) ([] ++ pinsAt fp s7.heap) σ8 H' s' → Nx H' → ∃ m, m < n ∧ ∃ i H', Inv (X.blk s3 H3 scope ce fp) [] (wipe σ (own.map (·.2))) H' s' ∧ tn i s'.heap ∧ (∀ b ∈ fp, H' b = none) ∧ W i m H' := fun {s' H'} I' nx => by
        obtain ⟨m', hm, w'⟩ := hNx H' nx
        have pin' : ∀ b ∈ fp, ∀ o, s7.heap.get? b = some o → s'.heap.get? b = some o ∧ H' b = none := fun b hb o e =>
          let z := I'.pin (b, o) (List.mem_append_right _ (List.mem_append_right _ (mem_pinsAt hb e)))
          ⟨z.1, z.2.1⟩
        have hl : (wipe σ (own.map (·.2))).length = σ8.length := by rw [← hw8, wipe_length]
        refine ⟨m', hm, i + 1, H', (I'.unpinned (pins := [])).weak hl (fun j v e => ?_), T.keep _ _ _ st7 fun b hb o e => (pin' b hb o e).1, fun b hb => ?_, w'⟩
        · rw [← hw8] at e
          exact (wipe_some e).1
        · obtain ⟨o, e, _⟩ := T.obj _ _ st7 b hb
          exact (pin' b hb o e).2
      cases b with
      | false =>
        simp only [Bool.false_eq_true, if_false] at q9 ⊢
        exact fin I9 q9
      | true =>
        simp only [if_true] at q9 ⊢
        refine thnF (pe.run _ s9 σ8 H9 _ I9 q9) fun z s10 ⟨yv, H10, I10, r10, H11, ea, nx⟩ => ?_
        exact ad (X.blk s3 H3 scope ce fp) I10 r10 ea fun s11 I11 => fin I11 nx
  exact PpSet.codeAny_compStart_set loop (T.self X.A 0 _ _ _ st4 loop)
/-- as a value -/
theorem pe_scg (fr : FrO O0) (ad : AdO Ad) {elt tg iter : Expr} {ifs : List Expr} {scope : Scope} {own : List (PySem.Str × Nat)} {pos : Pos} {wi : TI} {g : TG} {tt : TT} {te : TE} (hc : X.calm = true) (hN : X.N.Nodup) (hi : PI X tg iter wi) (ok : BlkOk X.N X.env.scope scope own)
    (hg : ∀ (s : Shared) (H : Hp) (C : Addr) (cl : List (PySem.Str × Addr)) (fp : List Addr), PG (X.blk s H scope (compEnvC scope cl C X.env) fp) tg g) (ht : ∀ (s : Shared) (H : Hp) (C : Addr) (cl : List (PySem.Str × Addr)) (fp : List Addr), PTs (X.blk s H scope (compEnvC scope cl C X.env) fp) ifs tt)
    (he : ∀ (s : Shared) (H : Hp) (C : Addr) (cl : List (PySem.Str × Addr)) (fp : List Addr), PE (X.blk s H scope (compEnvC scope cl C X.env) fp) elt te) (hs : ∀ x, foldedSetIterable iter X.env x = pure x := by intro _; rfl) :
    PE X (.SetComp elt [⟨tg, iter, ifs, 0⟩] scope pos) (tScG O0 Ad X.w wi g tt te (own.map (·.2))) := by
  refine ⟨fun pins s σ H Q I h => ?_⟩
  rw [PpSet.eval_SetComp]
  refine scg_core fr ad hc hN I hi ok hg ht he hs h fun D C s' m H' I' q hn f => ⟨m, hn, fun h'' sb => ?_⟩
  obtain ⟨f0, f1, f2, f3, f4, f5⟩ := f
  exact ⟨.ref D, H', I'.turned (t' := s'.toks) (fun b o hb e => (sb.2 b hb).trans e) f0 f1 f3 f4 f5, rfl, q⟩
end
/-! ### .. of ints -/
def adI (w : World) (D : Addr) (y : V) (H H' : Hp) : Prop := ∃ (c : Int) (S : Int → Bool) (n : Nat), y = .int c ∧ H D = some (SetO w D S n) ∧ n + 1 < scanBound ∧ H' = upd H D (SetO w D (fun j => S j || decide (j = c)) (if S c = true then n else n + 1))
theorem frI : FrO (fun w D => SetO w D (fun _ => false) 0) := fun P w H h => setO_new (setR_fresh w)
theorem adI_ok : AdO adI := by
  intro X pins σ H H' s E D y z Q I r ⟨c, S, n, ey, hD, room, eH⟩ h
  subst ey eH
  obtain ⟨tk, rfl⟩ := r
  refine setR_add (setO_get I hD) room fun h' sb new => ?_
  have he : ∃ u, h'.get? D = some u := by
    have ⟨o, _, _, _, ho, _⟩ := new
    exact ⟨o, ho⟩
  exact h _ (I.write (e := D) (t' := s.toks + 1) (by rw [hD]; trivial) (.inl rfl) (fun b u hb hu => (sb.2 b hb).trans hu) he (setO_new new))
/-- over a list that the block leaves as it is -/
theorem sci_lst {w : World} {K : PySem.W.Frag} {a : Addr} {xs : List V} {g : TG} {tt : TT} {te : TE} {vs : List Nat} {σ : L2.St} {H1 : Hp} {D : Addr} {Qd : Hp → Prop} (Pv : Nat → Hp → Prop) (h0 : Pv 0 (upd H1 D (SetO w D (fun _ => false) 0))) (hl : ∀ i H, i ≤ xs.length → Pv i H → SqL K H a xs)
    (hs : ∀ i x H, xs[i]? = some x → Pv i H → g x (wipe σ vs) H fun σ2 H2 => wipe σ2 vs = wipe σ vs ∧ tt σ2 H2 fun b H3 => if b = true then te σ2 H3 fun y H4 => ∃ H5, adI w D y H4 H5 ∧ Pv (i + 1) H5 else Pv (i + 1) H3) (hd : ∀ H, Pv xs.length H → Qd H) :
    ∃ W : Nat → Nat → Hp → Prop, (∃ m, W 0 m (upd H1 D (SetO w D (fun _ => false) 0))) ∧ ∀ i m H, W i m H →
      ((Itl K a).stop i H ∧ Qd H) ∨ ((Itl K a).go i H ∧ ∃ Nx : Hp → Prop, (∀ H', Nx H' → ∃ m', m' < m ∧ W (i + 1) m' H') ∧ ∀ x H', (Itl K a).yld i H x H' → g x (wipe σ vs) H' fun σ2 H2 => wipe σ2 vs = wipe σ vs ∧ tt σ2 H2 fun b H3 =>
        if b = true then te σ2 H3 fun y H4 => ∃ H5, adI w D y H4 H5 ∧ Nx H5 else Nx H3) := by
  refine ⟨fun i m H => m = xs.length - i ∧ i ≤ xs.length ∧ Pv i H, ⟨xs.length, by simp, Nat.zero_le _, h0⟩, ?_⟩
  rintro i m H ⟨rfl, hi, p⟩
  have q := hl i H hi p
  by_cases hlt : i < xs.length
  · refine .inr ⟨⟨xs, xs[i], q, by simp [hlt]⟩, Pv (i + 1), fun H' p' => ⟨xs.length - (i + 1), by omega, rfl, hlt, p'⟩, fun x H' y => ?_⟩
    obtain ⟨e, y⟩ := y
    subst e
    exact hs i x _ (y xs q) p
  · have e : i = xs.length := by omega
    subst e
    exact .inl ⟨⟨xs, q, Nat.le_refl _⟩, hd H p⟩
/-! ### < of nested data, min of a list of it -/
section
open K23 PySem.W
variable {X : Cx}
theorem minD_mem : ∀ (ds : List PyData) (d : PyData), minD d ds ∈ d :: ds
  | [], d => List.mem_cons_self
  | e :: ds, d => by
    have h := minD_mem ds (if dataLt e d then e else d)
    show minD (if dataLt e d then e else d) ds ∈ _
    rcases List.mem_cons.mp h with h | h
    · rw [h]
      split
      · exact List.mem_cons_of_mem _ List.mem_cons_self
      · exact List.mem_cons_self
    · exact List.mem_cons_of_mem _ (List.mem_cons_of_mem _ h)
def rLtD (K : PySem.W.Frag) : R2 := fun x y H Q => ∃ d e, Dp K H x d ∧ Dp K H y e ∧ alike d e = true ∧ d ≠ .none ∧ d.depth ≤ 64 ∧ Q (.bl (dataLt d e)) H
theorem op_ltD (hu : X.A.units + 64 < cLine) : OpR X (compareOp .Lt) (rLtD X.K) := by
  intro pins s σ H x y v u Q I rx ry h
  obtain ⟨d, e, hd, he, ha, hn, hz, q⟩ := h
  obtain ⟨as, r1⟩ := Dp.reads I d x v hd rx
  obtain ⟨bs, r2⟩ := Dp.reads I e y u he ry
  exact rcLt_alike d e X.A s v u as bs r1 r2 ha hn (by omega) X.prog X.w X.xe _ ⟨.bl _, H, I, rfl, q⟩
def rMinD (K : PySem.W.Frag) : List V → Hp → VK → Prop := fun vs H Q => ∃ a xs d ds, vs = [.ref a] ∧ SqL K H a xs ∧ DpAll K H xs (d :: ds) ∧ AlikeAll (d :: ds) ∧ PyData.depthAll (d :: ds) ≤ 60 ∧ ∀ (i : Nat) (x : V), xs[i]? = some x → Dp K H x (minD d ds) → Q x H
theorem cr_minD (hc : X.calm = true) (hu : X.A.units + 64 < cLine) : CallR X (.builtin "min") (rMinD X.K) := by
  intro pins s σ H vs us Q I r h
  obtain ⟨a, xs, d, ds, rfl, hs, hd, ha, hz, q⟩ := h
  rw [Vals.ref1 r]
  obtain ⟨its, rv, pl, _⟩ := I.list hs
  obtain ⟨as, hr⟩ := Dp.readsAll I (d :: ds) xs its hd rv
  refine min_list_data (I.ok.hd hc) pl.isList (by simpa using hr) ha (by omega) fun i v h' tk bs hv rd hk => ?_
  have hv' : its[i]? = some v := by simpa using hv
  have hi : i < xs.length := by
    rw [rv.length]
    obtain ⟨h1, _⟩ := List.getElem?_eq_some_iff.mp hv'
    exact h1
  obtain ⟨u, hu2, ru⟩ := rv.get (List.getElem?_eq_getElem hi)
  rw [hv'] at hu2
  cases hu2
  obtain ⟨di, hdi, pdi⟩ := dpAll_get hd (List.getElem?_eq_getElem hi)
  obtain ⟨cs, rc⟩ := Dp.reads I di _ _ pdi ru
  have e : di = minD d ds := alike_unique di (minD d ds) _ cs bs (ha.1 _ (List.mem_of_getElem? hdi) _ (minD_mem ds d)) (reads_keeps hk rc) rd
  rw [e] at pdi
  exact ⟨xs[i], H, I.kept (t' := tk) hk, ru, q i _ (List.getElem?_eq_getElem hi) pdi⟩
end
end KSup
set_option maxHeartbeats 1000000
namespace K23
open PySem PySem.Spec PyProof.Rows L2 KSup NdefX StX
/-! ### data under a heap where one object, no sequence, has changed -/
def But (x : Addr) (H H' : Hp) : Prop := ∀ b o, b ≠ x → H b = some o → H' b = some o
theorem But.refl (x : Addr) (H : Hp) : But x H H := fun _ _ _ h => h
theorem But.trans {x : Addr} {H H1 H2 : Hp} (a : But x H H1) (b : But x H1 H2) : But x H H2 := fun c o n h => b c o n (a c o n h)
theorem sameBut {x : Addr} {H H' : Hp} (s : Same H H') : But x H H' := fun b o _ h => s b o h
theorem but_upd {x : Addr} {H : Hp} {o : HO} : But x H (upd H x o) := fun b u n h => by rw [upd_ne n]; exact h
/-- no sequence stands at x -/
def NoSeq (x : Addr) (H : Hp) : Prop := ∀ xs, H x ≠ some (.lst xs) ∧ H x ≠ some (.tup xs) ∧ ∀ o, H x ≠ some (.frz o (.lst xs)) ∧ H x ≠ some (.frz o (.tup xs))
theorem noSeq_ins {x C dx : Addr} {fs : List (Str × V)} {H : Hp} (h : H x = some (.ins C dx fs)) : NoSeq x H := fun xs => by
  rw [h]
  exact ⟨(fun e => nomatch e), (fun e => nomatch e), fun o => ⟨(fun e => nomatch e), (fun e => nomatch e)⟩⟩
theorem noSeq_none {x : Addr} {H : Hp} (h : H x = none) : NoSeq x H := fun xs => by
  rw [h]
  exact ⟨(fun e => nomatch e), (fun e => nomatch e), fun o => ⟨(fun e => nomatch e), (fun e => nomatch e)⟩⟩
theorem noSeq_dK {x : Addr} {kvs : List (Key × V)} {H : Hp} (h : H x = some (.dK kvs)) : NoSeq x H := fun xs => by
  rw [h]
  exact ⟨(fun e => nomatch e), (fun e => nomatch e), fun o => ⟨(fun e => nomatch e), (fun e => nomatch e)⟩⟩
section
variable {K : PySem.W.Frag} {H H' : Hp} {x : Addr}
theorem sqT_but {a : Addr} {xs : List V} (n : NoSeq x H) (e : But x H H') (h : SqT K H a xs) : SqT K H' a xs := by
  rcases h with (h | ⟨o, h⟩) | h
  · exact .inl (.inl (e _ _ (fun z => (n xs).2.1 (z ▸ h)) h))
  · exact .inl (.inr ⟨o, e _ _ (fun z => ((n xs).2.2 o).2 (z ▸ h)) h⟩)
  · exact .inr h
theorem sqL_but {a : Addr} {xs : List V} (n : NoSeq x H) (e : But x H H') (h : SqL K H a xs) : SqL K H' a xs := by
  rcases h with (h | ⟨o, h⟩) | h
  · exact .inl (.inl (e _ _ (fun z => (n xs).1 (z ▸ h)) h))
  · exact .inl (.inr ⟨o, e _ _ (fun z => ((n xs).2.2 o).1 (z ▸ h)) h⟩)
  · exact .inr h
mutual
theorem dp_but (n : NoSeq x H) (e : But x H H') : ∀ {d : PyData} {v : V}, Dp K H v d → Dp K H' v d
  | .none, _, h => by cases h; exact .non
  | .bool b, _, h => by cases h; exact .bl b
  | .int i, _, h => by cases h; exact .int i
  | .str x, _, h => by cases h; exact .str x
  | .list ds, _, h => by
    cases h with
    | lst s a => exact .lst (sqL_but n e s) (dpAll_but n e a)
  | .tuple ds, _, h => by
    cases h with
    | tup s a => exact .tup (sqT_but n e s) (dpAll_but n e a)
  | .dict _, _, h => by cases h
theorem dpAll_but (n : NoSeq x H) (e : But x H H') : ∀ {ds : List PyData} {vs : List V}, DpAll K H vs ds → DpAll K H' vs ds
  | [], _, h => by cases h; exact .nil
  | d :: ds, _, h => by
    cases h with
    | cons h1 h2 => exact .cons (dp_but n e h1) (dpAll_but n e h2)
end
end
/-! ### Paper -/
section
variable {P : Program} {w : World} {K : PySem.W.Frag} {mg : Str → Option Value} {base : Heap} {f g : Addr} {fd gd : FuncData}
/-- a paper's fields -/
def spPInit (K : PySem.W.Frag) (n : Nat) : Sp := fun vs H Q _ => ∃ x C dx u rest ds, vs = [.ref x, .str u] ++ rest ∧ H x = some (.ins C dx []) ∧ Cls K C ∧ NoAttr K C "word" ∧ NoAttr K C "parts" ∧ rest.length ≤ sizeLine ∧ DpAll K H rest ds ∧ fits n (.tuple ds) ∧
  ∀ H' v, But x H H' → H' x = some (.ins C dx [("word", .str u), ("parts", v)]) → Dp K H' v (tupD (.tuple ds)) → Q .non H'
abbrev FnM (K : PySem.W.Frag) (x q : Str) (st : Stmt) (f : Addr) (fd : FuncData) : Prop := FunD K x q (defArgs st) (defBody st) (defScope st) [] [] f fd
theorem cxUp0 : CXUp CX0 := fun _ _ _ _ _ _ _ _ _ _ _ z => z
theorem ok_pinit (F : FnM K "__init__" "Paper.__init__" sPInit f fd) (n : Nat) (G : FnOk P w K mg base CX0 (n + 1) g gd ["value"] (spFixed K n)) (kg : PySem.W.keepIn K (.ref g) = true) (bg : Binds K gd ["value"] []) (gm : mg "fixed" = some (.ref g)) :
    FnR P w K mg base CX0 (n + 2) f (spPInit K n) := by
  obtain ⟨oc, od, dV, kV, doc, pm, an, cdv, ct, osl, e, lk, hcd, hD, _⟩ := F.ex
  have e0 : dV = .none := by
    rcases hD with ⟨_, e⟩ | ⟨e, _⟩
    · exact e
    · exact absurd rfl e
  subst e0
  subst e
  refine FnR.imp (fn_star (k := n + 1) (ps := ["self", "word"]) (pv := "parts") (sp := fun vs H Q _ => ∃ x C dx u p rest ds, vs = [.ref x, .str u, .ref p] ∧ H x = some (.ins C dx []) ∧ Cls K C ∧ NoAttr K C "word" ∧ NoAttr K C "parts" ∧ H p = some (.tup rest) ∧ DpAll K H rest ds ∧ fits n (.tuple ds) ∧
      ∀ H' v, But x H H' → H' x = some (.ins C dx [("word", .str u), ("parts", v)]) → Dp K H' v (tupD (.tuple ds)) → Q .non H') lk hcd scPInit cxUp0 ?_ ?_) ?_
  · exact bind_star2 (B := fun us => bindArgs (PySem.W.fnOf "__init__" "Paper.__init__" (defArgs sPInit) (defBody sPInit) (defScope sPInit) .none kV doc pm an cdv ct) ⟨us, []⟩) (p1 := "self") (p2 := "word") (pv := "parts") (fun a b => by rfl) (fun a b r rs => by rfl)
  · intro A outer s H vs Q E hr h
    obtain ⟨x, C, dx, u, p, rest, ds, rfl, hx, hc, n1, n2, hp, hd, hf, hq⟩ := h
    refine ⟨_, PSs.nox (pss_cons (ps_fld (pv 0) (pv 1) rfl) (pss_one (ps_fld (pv 0) (pe_call G hr (by rfl) gm kg bg .nil pass0 (pa_cons (pv 2) pa_nil)) rfl))), ?_⟩
    have hpx : p ≠ x := by
      rintro rfl
      rw [hx] at hp
      cases hp
    have b1 : But x H (upd H x (.ins C dx (putF "word" (.str u) []))) := but_upd
    have d1 : Dp K H (.ref p) (.tuple ds) := .tup (.inl (.inl hp)) hd
    refine ⟨_, rfl, _, rfl, x, C, dx, [], rfl, hx, hc, n1, by decide, ?_⟩
    refine ⟨_, rfl, _, _, rfl, dp_but (noSeq_ins hx) b1 d1, hf, fun H' v' s2 hv => ?_⟩
    refine ⟨_, rfl, x, C, dx, _, rfl, s2 _ _ upd_same, hc, n2, by show 1 < 1000; omega, ?_⟩
    have b2 : But x H' (upd H' x (.ins C dx (putF "parts" v' (putF "word" (.str u) [])))) := but_upd
    exact hq _ v' ((b1.trans (sameBut s2)).trans b2) upd_same (dp_but (noSeq_ins (s2 _ _ upd_same)) b2 hv)
  · intro vs H Q E h
    obtain ⟨x, C, dx, u, rest, ds, rfl, hx, hc, n1, n2, hz, hd, hf, hq⟩ := h
    refine ⟨[.ref x, .str u], rest, rfl, rfl, hz, fun p hp => ?_⟩
    have s1 : Same H (upd H p (.tup rest)) := same_upd hp
    exact ⟨x, C, dx, u, p, rest, ds, rfl, s1 _ _ hx, hc, n1, n2, upd_same, dpAll_same s1 hd, hf, fun H' v b e d => hq H' v ((sameBut s1).trans b) e d⟩
end
end K23
set_option maxHeartbeats 1000000
/-! dicts whose keys are nested tuples: the object, and its rules -/
namespace KNest
open PySem PySem.Spec PyProof.Rows L2 K23
abbrev NK := NestedKey
abbrev NRow := NK × Addr × V
def prN (x : NRow) : NK × V := (x.1, x.2.2)
abbrev NRel : List NRow → List (NK × Addr × Value) → Prop := Paired fun p q => p.1 = q.1 ∧ p.2.1 = q.2.1 ∧ RelV p.2.2 q.2.2
def entN (w : World) (x : NK × Addr × Value) : DictEntry := ⟨x.1.hash w, .ref x.2.1, x.2.2⟩
def RawN (w : World) (a : Addr) (xs : List NRow) (h : Heap) : Prop := xs.length ≤ sizeLine ∧ (a == sysModules) = false ∧ ∃ ys, NRel xs ys ∧
  ∃ o es ep, h.get? a = some o ∧ o.ExactDict ∧ o.data = .dict es ep ∧ es.toList = ys.map (entN w) ∧ (ys.map (·.1)).Nodup
/-- a dict with these keys (each at its address) and values -/
def dN (w : World) (a : Addr) (xs : List NRow) : HO := .ext (RawN w a xs)
theorem rawN_stay {w : World} {a : Addr} {xs : List NRow} {h1 h2 : Heap} (p : RawN w a xs h1) (k : ∀ o, h1.get? a = some o → h2.get? a = some o) : RawN w a xs h2 := by
  obtain ⟨z, y, ys, r, o, es, ep, ho, q⟩ := p
  exact ⟨z, y, ys, r, o, es, ep, k o ho, q⟩
theorem dN_ok {P : Program} {w : World} {H : Hp} {h : Heap} {a : Addr} {xs : List NRow} (p : RawN w a xs h) : ObjOk P w H h a (dN w a xs) := by
  obtain ⟨z, y, ys, r, o, es, ep, ho, q⟩ := id p
  exact ⟨p, ⟨o, ho⟩, fun _ _ q k => rawN_stay q k⟩
theorem mut_dN {w : World} {a : Addr} {xs : List NRow} : Mut (some (dN w a xs)) := True.intro
/-! ### the table's side -/
section
variable {xs : List NRow} {ys : List (NK × Addr × Value)}
theorem NRel.val (r : NRel xs ys) (k : NK) : RelO (valV (xs.map prN) k) ((atKey ys k).map (·.2)) := by
  induction r with
  | nil => exact True.intro
  | @cons p q ps qs h t ih =>
    obtain ⟨h1, _, h2⟩ := h
    rw [List.map_cons]
    by_cases e : p.1 = k
    · have e' : q.1 = k := h1.symm.trans e
      have b : atKey (q :: qs) k = some q.2 := by simp [atKey, List.find?_cons, e']
      rw [valV_pos (p := prN p) e, b]; exact h2
    · have e' : ¬ q.1 = k := fun z => e (h1.trans z)
      have b : atKey (q :: qs) k = atKey qs k := by simp [atKey, List.find?_cons, e']
      rw [valV_neg (p := prN p) e, b]; exact ih
theorem NRel.len (r : NRel xs ys) : xs.length = ys.length := Paired.length r
def putRow (k : NK) (v : V) (x : NRow) : NRow := if x.1 = k then (x.1, x.2.1, v) else x
def storeN (xs : List NRow) (k : NK) (b : Addr) (v : V) : List NRow := if (valV (xs.map prN) k).isSome = true then xs.map (putRow k v) else xs ++ [(k, b, v)]
theorem NRel.repl (r : NRel xs ys) (k : NK) {y : V} {u : Value} (ry : RelV y u) : NRel (xs.map (putRow k y)) (ys.map (putAt k u)) := by
  induction r with
  | nil => exact .nil
  | @cons p q ps qs h t ih =>
    rw [List.map_cons, List.map_cons]
    refine .cons ?_ ih
    obtain ⟨h1, h2, h3⟩ := h
    unfold putAt putRow
    by_cases e : p.1 = k
    · rw [if_pos e, if_pos (h1.symm.trans e)]; exact ⟨h1, h2, ry⟩
    · rw [if_neg e, if_neg (fun z => e (h1.trans z))]; exact ⟨h1, h2, h3⟩
theorem NRel.put (r : NRel xs ys) (k : NK) (b : Addr) {y : V} {u : Value} (ry : RelV y u) : NRel (storeN xs k b y) (storedH ys k b u) := by
  have e := (r.val k).isSome_eq
  rw [Option.isSome_map] at e
  unfold storeN storedH
  rw [e]
  by_cases q : (atKey ys k).isSome = true
  · rw [if_pos q, if_pos q]; exact r.repl k ry
  · rw [if_neg q, if_neg q]; exact Paired.snoc r ⟨rfl, rfl, ry⟩
theorem map_storeN (k : NK) (b : Addr) (v : V) : (storeN xs k b v).map prN = putK (xs.map prN) k v := by
  unfold storeN putK
  rw [valV_any]
  by_cases q : (valV (xs.map prN) k).isSome = true
  · rw [if_pos q, if_pos q, List.map_map, List.map_map]
    refine List.map_congr_left fun x _ => ?_
    show prN (putRow k v x) = if (prN x).1 = k then ((prN x).1, v) else prN x
    unfold putRow
    by_cases e : x.1 = k
    · rw [if_pos e, if_pos (show (prN x).1 = k from e)]; rfl
    · rw [if_neg e, if_neg (show ¬ (prN x).1 = k from e)]
  · rw [if_neg q, if_neg q, List.map_append]; rfl
theorem len_storeN (k : NK) (b : Addr) (v : V) : (storeN xs k b v).length ≤ xs.length + 1 := by
  unfold storeN
  split
  · rw [List.length_map]; omega
  · rw [List.length_append, List.length_cons, List.length_nil]; omega
end
/-! ### the keys as data -/
def NKeys (K : PySem.W.Frag) (H : Hp) (xs : List NRow) : Prop := ∀ x ∈ xs, Dp K H (.ref x.2.1) x.1.data ∧ x.1.depth ≤ 8
theorem NKeys.put {K : PySem.W.Frag} {H : Hp} {xs : List NRow} {k : NK} {b : Addr} (n : NKeys K H xs) (hb : Dp K H (.ref b) k.data) (hd : k.depth ≤ 8) (v : V) : NKeys K H (storeN xs k b v) := by
  intro x hx
  unfold storeN at hx
  split at hx
  · obtain ⟨y, hy, rfl⟩ := List.mem_map.mp hx
    unfold putRow
    split
    · exact n y hy
    · exact n y hy
  · rcases List.mem_append.mp hx with hx | hx
    · exact n x hx
    · rw [List.mem_singleton] at hx
      subst hx
      exact ⟨hb, hd⟩
section
variable {X : Cx} {pins : List (Addr × Obj)} {σ : L2.St} {H : Hp} {s : Shared}
mutual
theorem nested_of (I : Inv X pins σ H s) : ∀ (k : NK) (v : V) (u : Value), Dp X.K H v k.data → RelV v u → NestedIs s.heap k u
  | .none, v, u, h, r => by
    cases h
    cases r
    exact .none
  | .num i, v, u, h, r => by
    cases h
    obtain ⟨t, rfl⟩ := r
    exact .int i t
  | .text x, v, u, h, r => by
    cases h
    obtain ⟨t, rfl⟩ := r
    exact .text x t
  | .tup ks, v, u, h, r => by
    rw [NestedKey.data] at h
    cases h with
    | tup sq al =>
      obtain rfl := (show u = Value.ref _ from r)
      obtain ⟨its, rv, ⟨o, ho, hc, n, hd⟩, _⟩ := I.tuple sq
      exact .tup ho hc hd (by simpa using nestedAll_of I ks _ its al rv)
theorem nestedAll_of (I : Inv X pins σ H s) : ∀ (ks : List NK) (vs : List V) (us : List Value), DpAll X.K H vs (NestedKey.datas ks) → Vals vs us → NestedAll s.heap ks us
  | [], vs, us, h, r => by
    rw [NestedKey.datas] at h
    cases h
    cases r
    exact .nil
  | k :: ks, vs, us, h, r => by
    rw [NestedKey.datas] at h
    cases h with
    | cons h1 h2 =>
      cases r with
      | cons r1 r2 => exact .cons (nested_of I k _ _ h1 r1) (nestedAll_of I ks _ _ h2 r2)
end
theorem dictN_of {a : Addr} {xs : List NRow} (I : Inv X pins σ H s) (e : Rd H a (dN X.w a xs)) (n : NKeys X.K H xs) : xs.length ≤ sizeLine ∧ (a == sysModules) = false ∧ ∃ ys, NRel xs ys ∧ s.heap.DictOfH (nestedKind X.prog X.w) a ys := by
  obtain ⟨⟨z, y, ys, r, o, es, ep, h1, h2, h3, h4, h5⟩, _⟩ := (show ObjOk X.prog X.w H s.heap a (dN X.w a xs) from e.ok I.hok)
  refine ⟨z, y, ys, r, o, es, ep, h1, h2, h3, h4, fun x hx => ?_, h5⟩
  have all : ∀ {l : List NRow} {m : List (NK × Addr × Value)}, NRel l m → NKeys X.K H l → ∀ x ∈ m, (nestedKind X.prog X.w).is s.heap x.1 x.2.1 := by
    intro l m q
    induction q with
    | nil => intro _ x hx; exact nomatch hx
    | @cons p q ps qs hq t ih =>
      intro n x hx
      rcases List.mem_cons.mp hx with e | hx
      · subst e
        obtain ⟨n1, n2⟩ := n p List.mem_cons_self
        rw [← hq.1, ← hq.2.1]
        exact ⟨nested_of I p.1 _ _ n1 rfl, n2⟩
      · exact ih (fun y hy => n y (List.mem_cons_of_mem _ hy)) x hx
  exact all r n x hx
end
theorem rawN_of {P : Program} {w : World} {a : Addr} {xs : List NRow} {ys : List (NK × Addr × Value)} {h : Heap} (z : xs.length ≤ sizeLine) (hd : (a == sysModules) = false) (r : NRel xs ys) (d : h.DictOfH (nestedKind P w) a ys) : RawN w a xs h := by
  obtain ⟨o, es, ep, h1, h2, h3, h4, _, h5⟩ := d
  exact ⟨z, hd, ys, r, o, es, ep, h1, h2, h3, h4, h5⟩
/-- the table at a: keys and values -/
def HN (w : World) (K : PySem.W.Frag) (H : Hp) (a : Addr) (kvs : List (NK × V)) : Prop := ∃ xs, H a = some (dN w a xs) ∧ NKeys K H xs ∧ xs.map prN = kvs
def RN (w : World) (K : PySem.W.Frag) (H : Hp) (a : Addr) (kvs : List (NK × V)) : Prop := ∃ xs, Rd H a (dN w a xs) ∧ NKeys K H xs ∧ xs.map prN = kvs
theorem HN.rd {w : World} {K : PySem.W.Frag} {H : Hp} {a : Addr} {kvs : List (NK × V)} (h : HN w K H a kvs) : RN w K H a kvs := by
  obtain ⟨xs, e, n, m⟩ := h
  exact ⟨xs, .inl e, n, m⟩
def KeyD (K : PySem.W.Frag) (H : Hp) (y : V) (k : NK) : Prop := ∃ b, y = .ref b ∧ Dp K H y k.data ∧ k.depth ≤ 8
section
variable {X : Cx} {pins : List (Addr × Obj)} {σ : L2.St} {H : Hp} {s : Shared} {a : Addr} {y v : V} {u r : Value} {k : NK} {kvs : List (NK × V)} {A : Around} {E : Value → Shared → Prop}
theorem n_getItem {Q : Value → Shared → Prop} (hu : A.units + 64 < cLine) (I : Inv X pins σ H s) (g : RN X.w X.K H a kvs) (hk : KeyD X.K H y k) (e : valV kvs k = some v) (ry : RelV y u) (h : ∀ w' s', Inv X pins σ H s' → RelV v w' → Q w' s') :
    wpAny (model X.prog X.w) A (getItem (.ref a) u) Q E s := by
  obtain ⟨xs, hx, nk, rfl⟩ := g
  obtain ⟨b, rfl, hd, hz⟩ := hk
  obtain rfl : u = Value.ref b := ry
  obtain ⟨z, hs, ys, rel, dd⟩ := dictN_of I hx nk
  obtain ⟨w', hw, rw'⟩ := RelO.some_of (v := v) (o := (atKey ys k).map (·.2)) (by rw [← e]; exact rel.val k)
  obtain ⟨p, hp, hp2⟩ := Option.map_eq_some_iff.mp hw
  refine wpAny_getItem_heap (knd := nestedKind X.prog X.w) (show A.units + 1 + 8 < cLine by omega) ⟨nested_of I k _ _ hd rfl, hz⟩ dd hp ?_
  rw [hp2]
  exact h w' _ (I.tok _) rw'
theorem n_in {Q : Value → Shared → Prop} (hu : A.units + 64 < cLine) (I : Inv X pins σ H s) (g : RN X.w X.K H a kvs) (hk : KeyD X.K H y k) (ry : RelV y u) (h : ∀ s', Inv X pins σ H s' → Q (.bool (valV kvs k).isSome) s') :
    wpAny (model X.prog X.w) A (compareOp .In u (.ref a)) Q E s := by
  obtain ⟨xs, hx, nk, rfl⟩ := g
  obtain ⟨b, rfl, hd, hz⟩ := hk
  obtain rfl : u = Value.ref b := ry
  obtain ⟨z, hs, ys, rel, dd⟩ := dictN_of I hx nk
  refine wpAny_in_heap (knd := nestedKind X.prog X.w) (show A.units + 1 + 8 < cLine by omega) ⟨nested_of I k _ _ hd rfl, hz⟩ hs dd ?_
  have q := (rel.val k).isSome_eq
  rw [Option.isSome_map] at q
  rw [← q]
  exact h _ (I.tok _)
theorem n_notIn {Q : Value → Shared → Prop} (hu : A.units + 64 < cLine) (I : Inv X pins σ H s) (g : RN X.w X.K H a kvs) (hk : KeyD X.K H y k) (ry : RelV y u) (h : ∀ s', Inv X pins σ H s' → Q (.bool (!(valV kvs k).isSome)) s') :
    wpAny (model X.prog X.w) A (compareOp .NotIn u (.ref a)) Q E s := by
  obtain ⟨xs, hx, nk, rfl⟩ := g
  obtain ⟨b, rfl, hd, hz⟩ := hk
  obtain rfl : u = Value.ref b := ry
  obtain ⟨z, hs, ys, rel, dd⟩ := dictN_of I hx nk
  have q := (rel.val k).isSome_eq
  rw [Option.isSome_map] at q
  show wpAny _ _ (do return .bool (!(← contains (.ref a) (.ref b)))) Q E s
  refine wpAny_bind (wpAny_contains_heap (knd := nestedKind X.prog X.w) (show A.units + 1 + 8 < cLine by omega) ⟨nested_of I k _ _ hd rfl, hz⟩ hs dd (wpAny_pure ?_))
  rw [← q]
  exact h _ (I.tok _)
/-- behind a store -/
theorem n_stored {h' : Heap} {t' : Nat} {b : Addr} {xs : List NRow} {ys : List (NK × Addr × Value)} (I : Inv X pins σ H s) (hx : H a = some (dN X.w a xs)) (hl : (xs.map prN).length < sizeLine) (hs : (a == sysModules) = false) (rel : NRel xs ys) (rv : RelV v r)
    (dd : h'.DictOfH (nestedKind X.prog X.w) a (storedH ys k b r)) (sb : Heap.SameBut a s.heap h') : Inv X pins σ (upd H a (dN X.w a (storeN xs k b v))) { s with heap := h', toks := t' } := by
  obtain ⟨q, _, _, hq, _⟩ := id dd
  refine d_write I (by rw [hx]; exact mut_dN) sb ⟨q, hq⟩ (dN_ok (rawN_of ?_ hs (rel.put k b rv) dd))
  have := len_storeN (xs := xs) k b v
  rw [List.length_map] at hl
  omega
theorem n_setItem {Q : Unit → Shared → Prop} (hu : A.units + 64 < cLine) (I : Inv X pins σ H s) (g : HN X.w X.K H a kvs) (hl : kvs.length < sizeLine) (hk : KeyD X.K H y k) (ry : RelV y u) (rv : RelV v r)
    (h : ∀ xs b s', y = .ref b → H a = some (dN X.w a xs) → NKeys X.K H xs → xs.map prN = kvs → Dp X.K H y k.data → k.depth ≤ 8 → Inv X pins σ (upd H a (dN X.w a (storeN xs k b v))) s' → Q () s') :
    wpAny (model X.prog X.w) A (setItem (.ref a) u r) Q E s := by
  obtain ⟨xs, hx, nk, rfl⟩ := g
  obtain ⟨b, rfl, hd, hz⟩ := hk
  obtain rfl : u = Value.ref b := ry
  obtain ⟨z, hs, ys, rel, dd⟩ := dictN_of I (.inl hx) nk
  refine wpAny_setItem_heap (hsz := by rw [← rel.len]; exact z) (knd := nestedKind X.prog X.w) (show A.units + 1 + 8 < cLine by omega) ⟨nested_of I k _ _ hd rfl, hz⟩ dd fun h' dd' sb => ?_
  exact h xs b _ rfl hx nk rfl hd hz (n_stored I hx hl hs rel rv dd' sb)
theorem n_dictSet {Q : Unit → Shared → Prop} (hu : A.units + 64 < cLine) (I : Inv X pins σ H s) (g : HN X.w X.K H a kvs) (hl : kvs.length < sizeLine) (hk : KeyD X.K H y k) (ry : RelV y u) (rv : RelV v r)
    (h : ∀ xs b s', y = .ref b → H a = some (dN X.w a xs) → NKeys X.K H xs → xs.map prN = kvs → Dp X.K H y k.data → k.depth ≤ 8 → Inv X pins σ (upd H a (dN X.w a (storeN xs k b v))) s' → Q () s') :
    wpAny (model X.prog X.w) A (dictSet a u r) Q E s := by
  obtain ⟨xs, hx, nk, rfl⟩ := g
  obtain ⟨b, rfl, hd, hz⟩ := hk
  obtain rfl : u = Value.ref b := ry
  obtain ⟨z, hs, ys, rel, dd⟩ := dictN_of I (.inl hx) nk
  refine wpAny_dictSet_heap (hsz := by rw [← rel.len]; exact z) (knd := nestedKind X.prog X.w) (show A.units + 8 < cLine by omega) ⟨nested_of I k _ _ hd rfl, hz⟩ dd fun h' dd' sb => ?_
  exact h xs b _ rfl hx nk rfl hd hz (n_stored I hx hl hs rel rv dd' sb)
theorem n_type (I : Inv X pins σ H s) (g : RN X.w X.K H a kvs) : s.TypeIs (.ref a) "dict" ∧ (∀ b, Value.ref a = .ref b → ∃ ob, s.heap.get? b = some ob ∧ ob.dict = none) ∧ (a == sysModules) = false := by
  obtain ⟨xs, hx, nk, rfl⟩ := g
  obtain ⟨z, hs, ys, rel, dd⟩ := dictN_of I hx nk
  refine ⟨dd.typeIs, fun b q => ?_, hs⟩
  cases q
  obtain ⟨ob, _, _, h1, h2, _⟩ := dd
  exact ⟨ob, h1, h2.2.1⟩
end
/-! ### the rules -/
section
variable {w : World} {K : PySem.W.Frag} {H H' : Hp} {a x : Addr} {kvs : List (NK × V)}
theorem noSeq_ext {φ : Heap → Prop} (h : H a = some (.ext φ)) : NoSeq a H := fun xs => by
  rw [h]
  exact ⟨(fun e => nomatch e), (fun e => nomatch e), fun o => ⟨(fun e => nomatch e), (fun e => nomatch e)⟩⟩
theorem noSeq_frzE {φ : Heap → Prop} {o : Obj} (h : H a = some (.frz o (.ext φ))) : NoSeq a H := fun xs => by
  rw [h]
  exact ⟨(fun e => nomatch e), (fun e => nomatch e), fun o => ⟨(fun e => nomatch e), (fun e => nomatch e)⟩⟩
theorem NKeys.but {xs : List NRow} (n : NoSeq x H) (b : But x H H') (h : NKeys K H xs) : NKeys K H' xs := fun y hy => ⟨dp_but n b (h y hy).1, (h y hy).2⟩
theorem NKeys.same {xs : List NRow} (b : Same H H') (h : NKeys K H xs) : NKeys K H' xs := fun y hy => ⟨dp_same b (h y hy).1, (h y hy).2⟩
theorem HN.same (b : Same H H') (h : HN w K H a kvs) : HN w K H' a kvs := by
  obtain ⟨xs, e, n, m⟩ := h
  exact ⟨xs, b _ _ e, n.same b, m⟩
theorem HN.but (n : NoSeq x H) (b : But x H H') (ne : a ≠ x) (h : HN w K H a kvs) : HN w K H' a kvs := by
  obtain ⟨xs, e, nk, m⟩ := h
  exact ⟨xs, b _ _ ne e, nk.but n b, m⟩
theorem HN.noSeq (h : HN w K H a kvs) : NoSeq a H := by
  obtain ⟨xs, e, nk, m⟩ := h
  exact noSeq_ext e
end
def tNNew (w : World) : TE := fun _ H Q => ∀ p, H p = none → Q (.ref p) (upd H p (dN w p []))
def tNGet (w : World) (K : PySem.W.Frag) (td ty : TE) : TE := fun σ H Q => td σ H fun x H1 => ty σ H1 fun y H2 => ∃ a kvs k v, x = .ref a ∧ RN w K H2 a kvs ∧ KeyD K H2 y k ∧ valV kvs k = some v ∧ Q v H2
def tNIn (w : World) (K : PySem.W.Frag) (ty td : TE) : TE := fun σ H Q => ty σ H fun y H1 => td σ H1 fun x H2 => ∃ a kvs k, x = .ref a ∧ RN w K H2 a kvs ∧ KeyD K H2 y k ∧ Q (.bl (valV kvs k).isSome) H2
def tNNotIn (w : World) (K : PySem.W.Frag) (ty td : TE) : TE := fun σ H Q => ty σ H fun y H1 => td σ H1 fun x H2 => ∃ a kvs k, x = .ref a ∧ RN w K H2 a kvs ∧ KeyD K H2 y k ∧ Q (.bl (!(valV kvs k).isSome)) H2
def sNPut (w : World) (K : PySem.W.Frag) (td ty tv : TE) : TS := fun D σ H => tv σ H fun v H1 => td σ H1 fun x H2 => ty σ H2 fun y H3 => ∃ a kvs k, x = .ref a ∧ HN w K H3 a kvs ∧ kvs.length < sizeLine ∧ KeyD K H3 y k ∧ ∀ H4, But a H3 H4 → HN w K H4 a (putK kvs k v) → D.nx σ H4
def rLenN (w : World) (K : PySem.W.Frag) : List V → Hp → VK → Prop := fun xs H Q => ∃ a kvs, xs = [V.ref a] ∧ RN w K H a kvs ∧ Q (.int kvs.length) H
theorem dN_new {w : World} (h : Heap) (hb : sysModules < h.objs.size) : RawN w h.objs.size [] (h.push { cls := .type "dict", data := .dict #[] }) :=
  ⟨Nat.zero_le _, beq_eq_false_iff_ne.mpr (Ne.symm (Nat.ne_of_lt hb)), [], .nil, _, #[], 0, Heap.get?_push_size _ rfl, ⟨rfl, rfl, rfl⟩, rfl, rfl, List.nodup_nil⟩
section
variable {X : Cx} {o i value : Expr} {pos pos' : Pos} {td ty tv : TE}
theorem pe_nnew : PE X (.Dict [] [] pos) (tNNew X.w) := ⟨fun pins s σ H Q I h =>
  wpAny_Dict_empty ⟨.ref s.heap.objs.size, _, I.laid (a := s.heap.objs.size) (o := dN X.w s.heap.objs.size []) (t' := s.toks) (fun _ _ q => Heap.get?_push_of_some _ q) (Nat.le_refl _) (dN_ok (dN_new s.heap I.big)), rfl, h _ (I.hok.fresh (Nat.le_refl _))⟩⟩
theorem pe_nget (hu : X.A.units + 64 < cLine) (ho : PE X o td) (hi : PE X i ty) (hs : NoSl i) : PE X (.Subscript o i pos) (tNGet X.w X.K td ty) := by
  refine ⟨fun pins s σ H Q I h => ?_⟩
  refine subD_of PySem.F.slot_dict_getitem.lookup hs (thn (ho.run pins s σ H _ I h) fun u s1 ⟨x, H1, I1, rx, q1⟩ => thn (hi.run pins s1 σ H1 _ I1 q1) fun iv s2 ⟨y, H2, I2, ry, a, kvs, k, v, ex, g, hk, e, q2⟩ => ?_)
  subst ex
  obtain rfl : u = Value.ref a := rx
  exact ⟨(n_type I2 g).1, n_getItem hu I2 g hk e ry fun w' s3 I3 rw' => ⟨v, H2, I3, rw', q2⟩⟩
theorem pc_nin (hu : X.A.units + 64 < cLine) (hi : PE X i ty) (ho : PE X o td) : PC X .In i o (tNIn X.w X.K ty td) := by
  refine ⟨fun pins s σ H Q I h => ?_⟩
  refine thn (hi.run pins s σ H _ I h) fun iv s1 ⟨y, H1, I1, ry, q1⟩ => thn (ho.run pins s1 σ H1 _ I1 q1) fun u s2 ⟨x, H2, I2, rx, a, kvs, k, ex, g, hk, q2⟩ => ?_
  subst ex
  obtain rfl : u = Value.ref a := rx
  exact n_in hu I2 g hk ry fun s3 I3 => ⟨.bl _, H2, I3, rfl, q2⟩
theorem pc_nnotin (hu : X.A.units + 64 < cLine) (hi : PE X i ty) (ho : PE X o td) : PC X .NotIn i o (tNNotIn X.w X.K ty td) := by
  refine ⟨fun pins s σ H Q I h => ?_⟩
  refine thn (hi.run pins s σ H _ I h) fun iv s1 ⟨y, H1, I1, ry, q1⟩ => thn (ho.run pins s1 σ H1 _ I1 q1) fun u s2 ⟨x, H2, I2, rx, a, kvs, k, ex, g, hk, q2⟩ => ?_
  subst ex
  obtain rfl : u = Value.ref a := rx
  exact n_notIn hu I2 g hk ry fun s3 I3 => ⟨.bl _, H2, I3, rfl, q2⟩
theorem ps_nput (hu : X.A.units + 64 < cLine) (ho : PE X o td) (hi : PE X i ty) (hv : PE X value tv) (hs : swapsWith value (some (.Subscript o i pos')) pos.line X.env = pure false) :
    PS X (.Assign [.Subscript o i pos'] value pos) (sNPut X.w X.K td ty tv) := by
  refine ⟨fun pins s σ H D I h => ?_⟩
  refine wpAny_Assign_Subscript (thn (hv.run pins s σ H _ I h) fun r s1 ⟨v, H1, I1, rv, q1⟩ => thn (ho.run pins s1 σ H1 _ I1 q1) fun u s2 ⟨x, H2, I2, rx, q2⟩ => thn (hi.run pins s2 σ H2 _ I2 q2) fun iv s3 ⟨y, H3, I3, ry, a, kvs, k, ex, g, hl, hk, q3⟩ => ?_) hs
  subst ex
  obtain rfl : u = Value.ref a := rx
  refine n_setItem hu I3 g hl hk ry rv fun xs b s4 ey hx nk em hd hz I4 => ⟨σ, _, I4, q3 _ but_upd ⟨_, upd_same, ?_, ?_⟩⟩
  · subst ey
    exact (nk.put hd hz v).but (noSeq_ext hx) but_upd
  · rw [map_storeN, em]
theorem call_lenN : CallR X (.builtin "len") (rLenN X.w X.K) := by
  intro pins s σ H xs us Q I r h
  obtain ⟨a, kvs, rfl, ⟨ys, hx, nk, rfl⟩, q⟩ := h
  obtain ⟨u, rfl, ru⟩ := vals1 r
  cases ru
  obtain ⟨z, hs, zs, rel, dd⟩ := dictN_of I hx nk
  rw [List.length_map] at q
  refine call_len_dictH hs dd (by rw [← rel.len]; rw [sizeLine_eq] at z; omega) ?_
  rw [← rel.len]
  exact ⟨.int ys.length, H, I.tok _, ⟨_, rfl⟩, q⟩
end
end KNest
set_option maxHeartbeats 1000000
namespace KNest
open PySem PySem.Spec PyProof.Rows L2 K23
section
variable {X : Cx} {pins : List (Addr × Obj)} {σ : L2.St} {H : Hp} {s : Shared} {d : Addr} {o : Obj}
theorem frzN {xs : List NRow} (I : Inv X pins σ H s) (h : H d = some (.frz o (dN X.w d xs))) :
    (d == sysModules) = false ∧ s.heap.get? d = some o ∧ o.ExactDict ∧ ∃ (es : Array DictEntry) (ep : Nat) (ys : List (NK × Addr × Value)), o.data = .dict es ep ∧ es.size = xs.length ∧ NRel xs ys ∧ es.toList = ys.map (entN X.w) := by
  obtain ⟨hd, ⟨z, hs, ys, rel, o', es, ep, ho, hx, hdt, he, _⟩, _⟩ := I.hok d _ h
  rw [hd] at ho
  cases ho
  refine ⟨hs, hd, hx, es, ep, ys, hdt, ?_, rel, he⟩
  have l1 : es.toList.length = ys.length := by rw [he, List.length_map]
  rw [Array.length_toList] at l1
  rw [rel.len]
  exact l1
theorem entN_at {xs : List NRow} {ys : List (NK × Addr × Value)} {es : Array DictEntry} {w : World} (rel : NRel xs ys) (he : es.toList = ys.map (entN w)) {i : Nat} {x : NRow} (hx : xs[i]? = some x) :
    ∃ en, es[i]? = some en ∧ en.key = .ref x.2.1 ∧ RelV x.2.2 en.val := by
  obtain ⟨y, hy, _, e2, e3⟩ := paired_get rel hx
  refine ⟨entN w y, ?_, ?_, e3⟩
  · rw [← Array.getElem?_toList, he, List.getElem?_map, hy]
    rfl
  · show Value.ref y.2.1 = _
    rw [e2]
end
/-- the keys of the locked dict at d -/
def Itn (w : World) (d : Addr) (o : Obj) (xs : List NRow) : It :=
  ⟨fun i H => H d = some (.frz o (dN w d xs)) ∧ i < xs.length, fun i H x H' => H' = H ∧ ∃ r, xs[i]? = some r ∧ x = .ref r.2.1, fun i H => H d = some (.frz o (dN w d xs)) ∧ xs.length ≤ i⟩
/-- the pairs, each a new tuple -/
def Itp (w : World) (d : Addr) (o : Obj) (xs : List NRow) : It :=
  ⟨fun i H => H d = some (.frz o (dN w d xs)) ∧ i < xs.length, fun i H x H' => ∃ T r, xs[i]? = some r ∧ x = .ref T ∧ H T = none ∧ H' = upd H T (.tup [.ref r.2.1, r.2.2]), fun i H => H d = some (.frz o (dN w d xs)) ∧ xs.length ≤ i⟩
section
variable {P : Program} {w : World} {K : PySem.W.Frag} {tg : Expr} {d : Addr} {o : Obj} {es : Array DictEntry} {ep : Nat}
theorem turn_keysN {xs : List NRow} (it : Addr) (hod : o.data = .dict es ep) : Turn P w K tg (Itn w d o xs) [it] it (fun i h => h.IsKeyIter it d i xs.length ep) where
  mem := by simp
  obj := fun i h st b hb => by
    have e : b = it := by simpa using hb
    subst e
    obtain ⟨oi, e, c, dd⟩ := st
    exact ⟨oi, e, fun v z => by rw [dd] at z; cases z⟩
  keep := fun i h h' st k => st.at fun oi e => k it (by simp) oi e
  item := by
    intro X hP hw hK hc i pins s σ H E I hf st hg
    subst hP hw hK
    obtain ⟨hd, hi⟩ := hg
    obtain ⟨f0, f1, f2, f3, f4, f5⟩ := hf it (by simp)
    obtain ⟨hs, hgd, hx, es', ep', ys, hdt, hsz, rel, he⟩ := frzN I hd
    obtain ⟨rfl, rfl⟩ := dict_ep hod hdt
    obtain ⟨r, hr⟩ : ∃ p, xs[i]? = some p := ⟨xs[i], List.getElem?_eq_getElem hi⟩
    obtain ⟨en, hen, hkey, _⟩ := entN_at rel he hr
    refine next_key_item st hgd hdt hsz hen fun h' st' sb => ?_
    have I1 : Inv X pins σ H { s with heap := h' } := I.turned (t' := s.toks) (fun b ob hb e => (sb.2 b hb).trans e) f0 f1 f3 f4 f5
    obtain ⟨oi, e, c, dd⟩ := id st'
    exact ⟨en.key, rfl, go_of (s := { s with heap := h' }) e c dd (by decide) ⟨.ref r.2.1, H, I1, hkey, ⟨rfl, r, hr, rfl⟩, st', fun b hb => (hf b hb).1⟩⟩
  done := by
    intro X hP hw hK hc i pins s σ H E I hf st hg
    subst hP hw hK
    obtain ⟨hd, hi⟩ := hg
    obtain ⟨f0, f1, f2, f3, f4, f5⟩ := hf it (by simp)
    obtain ⟨hs, hgd, hx, es', ep', ys, hdt, hsz, rel, he⟩ := frzN I hd
    obtain ⟨rfl, rfl⟩ := dict_ep hod hdt
    exact next_key_end (I.ok.hd hc) st hgd hdt hsz hi fun h' eb => ⟨rfl, I.turned (t' := s.toks) (fun b ob hb e => eb b ob hb e) f0 f1 f3 f4 f5⟩
  self := fun A i s Q E st h => by
    refine wpAny_pyIter_slot st.typeIs F.slot_dict_keyiterator_iter (wpAny_call_entry F.slot_dict_keyiterator_iter st.typeIs F.entry_dict_keyiterator_iter ?_ (F.args_dict_keyiterator_iter_1 _))
    show wpAny _ _ (ret (.ref it)) _ _ s
    exact wpAny_pure ⟨_, rfl, "dict_keyiterator", _, st.typeIs, F.slot_dict_keyiterator_next.lookup, h⟩
theorem turn_itemsN {xs : List NRow} {elts : List Expr} {kk : Nat} {tpos : Pos} (it : Addr) (hod : o.data = .dict es ep) :
    Turn P w K (.Tuple elts kk tpos) (Itp w d o xs) [it] it (fun i h => ∃ ok ov, IsItemIter h it d i xs.length ep ok ov) where
  mem := by simp
  obj := fun i h st b hb => by
    have e : b = it := by simpa using hb
    subst e
    obtain ⟨ok, ov, e⟩ := st
    exact ⟨_, e, fun v z => nomatch z⟩
  keep := fun i h h' st k => let ⟨ok, ov, e⟩ := st; ⟨ok, ov, k it (by simp) _ e⟩
  item := by
    intro X hP hw hK hc i pins s σ H E I hf st hg
    subst hP hw hK
    obtain ⟨hd, hi⟩ := hg
    obtain ⟨hs, hgd, hx, es', ep', ys, hdt, hsz, rel, hl⟩ := frzN I hd
    obtain ⟨rfl, rfl⟩ := dict_ep hod hdt
    obtain ⟨r, hr⟩ : ∃ p, xs[i]? = some p := ⟨xs[i], List.getElem?_eq_getElem hi⟩
    obtain ⟨en, hen, hkey, hval⟩ := entN_at rel hl hr
    have hi' : i < es'.size := by rw [hsz]; exact hi
    have een : es'[i] = en := by rw [Array.getElem?_eq_getElem hi'] at hen; exact Option.some.inj hen
    obtain ⟨ok, ov, he⟩ := st
    rw [← hsz] at he
    have hlt : it < s.heap.objs.size := Heap.lt_size he
    refine wpAny_pyNext_items_item_raw he ⟨o, hgd, hx, hdt⟩ hi' fun h' ho hT hz hk => ?_
    rw [een] at ho hT
    refine ⟨_, rfl, wpAny_letOwnedTupleGo_items (s := { s with heap := h' }) ho fun h'' he' sb => ?_⟩
    have hT2 : h''.get? s.heap.objs.size = some { cls := .type "tuple", data := .seq #[en.key, en.val] } := (sb.2 _ (Nat.ne_of_gt hlt)).trans hT
    have new : ObjOk X.prog X.w (upd H s.heap.objs.size (.tup [.ref r.2.1, r.2.2])) h'' s.heap.objs.size (.tup [.ref r.2.1, r.2.2]) :=
      ⟨by show 2 ≤ sizeLine; decide, [en.key, en.val], .cons hkey (.cons hval .nil), ⟨_, hT2, rfl, _, rfl⟩⟩
    have I1 : Inv X pins σ (upd H s.heap.objs.size (.tup [.ref r.2.1, r.2.2])) { s with heap := h'' } :=
      I.turnedNew (t' := s.toks) (ch := [it]) (fun b ob hb e => (sb.2 b (by simpa using hb)).trans (hk b ob (by simpa using hb) e)) hf (Nat.le_refl _) new
    refine ⟨.ref s.heap.objs.size, _, I1, rfl, ⟨_, r, hr, rfl, I.hok.fresh (Nat.le_refl _), rfl⟩, ⟨en.key, en.val, ?_⟩, fun b hb => ?_⟩
    · rw [← hsz]; exact he'
    · have e : b = it := by simpa using hb
      rw [e, upd_ne (Nat.ne_of_lt hlt)]
      exact (hf it (by simp)).1
  done := by
    intro X hP hw hK hc i pins s σ H E I hf st hg
    subst hP hw hK
    obtain ⟨hd, hi⟩ := hg
    obtain ⟨f0, f1, f2, f3, f4, f5⟩ := hf it (by simp)
    obtain ⟨hs, hgd, hx, es', ep', ys, hdt, hsz, rel, hl⟩ := frzN I hd
    obtain ⟨rfl, rfl⟩ := dict_ep hod hdt
    obtain ⟨ok, ov, he⟩ := st
    rw [← hsz] at he
    exact wpAny_pyNext_items_end_raw (I.ok.hd hc) he ⟨o, hgd, hx, hdt⟩ (by omega) fun h' eb => ⟨rfl, I.turned (t' := s.toks) (fun b ob hb e => eb b ob hb e) f0 f1 f3 f4 f5⟩
  self := fun A i s Q E st h => let ⟨_, _, e⟩ := st; PySem.W.kcp_self e h
end
def iKeysN (w : World) (td : TE) : TI := fun σ H R => td σ H fun x H1 => ∃ d o xs, x = .ref d ∧ H1 d = some (.frz o (dN w d xs)) ∧ R (Itn w d o xs) H1
def iItemsN (w : World) (td : TE) : TI := fun σ H R => td σ H fun x H1 => ∃ d o xs, x = .ref d ∧ H1 d = some (.frz o (dN w d xs)) ∧ R (Itp w d o xs) H1
section
variable {X : Cx} {tg e : Expr} {td : TE} {apos cpos : Pos}
theorem pi_keysN (he : PE X e td) : PI X tg e (iKeysN X.w td) := by
  refine ⟨fun pins s σ H R I h => ?_⟩
  refine thn (he.run pins s σ H _ I h) fun u s1 ⟨x, H1, I1, rx, d, o, xs, ex, hd, q⟩ => ?_
  subst ex
  obtain rfl : u = Value.ref d := rx
  obtain ⟨hs, hgd, hx, es, ep, ys, hdt, hsz, rel, he⟩ := frzN I1 hd
  refine iter_keys hs hgd hx hdt (pi_one (tk := s1.toks) I1 _ (turn_keysN _ hdt) ⟨_, Heap.get?_push_size _ rfl, rfl, ?_⟩ q)
  rw [hsz] <;> rfl
theorem pi_itemsN {elts : List Expr} {kk : Nat} {tpos : Pos} (he : PE X e td) (hbase : attributeBase e "items" X.env (eval e X.env) = eval e X.env := by rfl) (hline : (apos.endLine == cpos.line) = true := by rfl) :
    PI X (.Tuple elts kk tpos) (.Call (.Attribute e "items" apos) [] [] cpos) (iItemsN X.w td) := by
  refine ⟨fun pins s σ H R I h => ?_⟩
  refine wpAny_Call_method (T := "dict") (id := "dict.items") hbase rfl hline F.plainAttrs_dict F.slot_dict_items F.type_dict_items (thn (he.run pins s σ H _ I h) fun u s1 ⟨x, H1, I1, rx, d, o, xs, ex, hd, q⟩ => ?_)
  subst ex
  obtain rfl : u = Value.ref d := rx
  obtain ⟨hs, hgd, hx, es, ep, ys, hdt, hsz, rel, hl⟩ := frzN I1 hd
  have raw : s1.heap.DictRaw d es ep := ⟨o, hgd, hx, hdt⟩
  refine ⟨raw.typeIs, fun b q => ?_, ?_⟩
  · cases q
    exact ⟨o, hgd, hx.2.1⟩
  have I2 : Inv X pins σ H1 { s1 with heap := s1.heap.push { cls := .type "dict_items", data := .fields #[.ref d] } } := I1.kept (t' := s1.toks) fun b ob q => Heap.get?_push_of_some _ q
  have fin : wpAny (model X.prog X.w) X.A (pyIter (.ref s1.heap.objs.size)) (PIE X pins σ (.Tuple elts kk tpos) R) X.xe { s1 with heap := s1.heap.push { cls := .type "dict_items", data := .fields #[.ref d] } } := by
    refine wpAny_pyIter_items_raw (d := d) ⟨_, Heap.get?_push_size _ rfl, rfl, rfl⟩ (raw.at fun o' e => Heap.get?_push_of_some _ e) (pi_one (tk := s1.toks) I2 _ (turn_itemsN _ hdt) ⟨.none, .none, ?_⟩ q)
    rw [hsz]
    exact Heap.get?_push_size _ rfl
  show wpAny _ _ (callWith cpos (.builtin "dict.items") [.ref d] [] []) _ X.xe s1
  exact method_meetsIn F.slot_dict_items F.entry_dict_items rfl (PySem.evalArgs_none ⟨rfl, raw.typeIs, F.args_dict_items_1 _, _, meets_dict_items_raw d hs, ⟨⟨es, ep, raw⟩, fin⟩⟩)
end
/-! ### list(d) -/
theorem vals_refs {f : NRow → V} {g : NK × Addr × Value → Value} {xs : List NRow} {ys : List (NK × Addr × Value)} (r : NRel xs ys) (h : ∀ x y, x.1 = y.1 ∧ x.2.1 = y.2.1 ∧ RelV x.2.2 y.2.2 → RelV (f x) (g y)) : Vals (xs.map f) (ys.map g) := by
  induction r with
  | nil => exact .nil
  | cons h1 t ih => exact .cons (h _ _ h1) ih
section
variable {X : Cx}
/-- list(d), the dict at a -/
def rListN (w : World) : List V → Hp → VK → Prop := fun vs H Q => ∃ a xs, vs = [.ref a] ∧ Rd H a (dN w a xs) ∧ ∀ l, H l = none → Q (.ref l) (upd H l (.lst (xs.map fun x => V.ref x.2.1)))
theorem call_listN (hc : X.calm = true) : CallR X (.type "list") (rListN X.w) := by
  intro pins s σ H vs us Q I r h
  obtain ⟨a, xs, rfl, hx, q⟩ := h
  obtain ⟨u, rfl, ru⟩ := vals1 r
  cases ru
  obtain ⟨⟨z, hs, ys, rel, o, es, ep, h1, h2, h3, h4, h5⟩, _⟩ := (show ObjOk X.prog X.w H s.heap a (dN X.w a xs) from hx.ok I.hok)
  have lz : es.size = ys.length := by
    have := congrArg List.length h4
    rw [Array.length_toList, List.length_map] at this
    exact this
  refine PySem.W.kdl_call (KdlSrc.rawDict (es := es) (ep := ep) hs) (I.ok.hd hc) ⟨o, h1, h2, h3⟩ (by rw [lz, ← rel.len]; exact z) fun h' tk acc c' hk hD hacc => ?_
  have eacc : acc.toList = ys.map fun y => Value.ref y.2.1 := by
    refine List.ext_getElem? fun j => ?_
    obtain ⟨l1, l2⟩ := hacc
    by_cases hj : j < acc.size
    · obtain ⟨hi, e⟩ := l2 j acc[j] (Array.getElem?_eq_getElem hj)
      have e2 : es[j]? = (ys.map (entN X.w))[j]? := by rw [← h4, Array.getElem?_toList]
      rw [Array.getElem?_eq_getElem hi, List.getElem?_map] at e2
      rw [Array.getElem?_toList, Array.getElem?_eq_getElem hj, e, List.getElem?_map]
      cases hy : ys[j]? with
      | none => rw [hy] at e2; cases e2
      | some y =>
        rw [hy] at e2
        have e3 : es[j] = entN X.w y := Option.some.inj e2
        rw [e3]
        rfl
    · rw [List.getElem?_eq_none (by rw [Array.length_toList]; omega), List.getElem?_eq_none (by rw [List.length_map]; omega)]
  have nn := I.hok.fresh (Nat.le_refl s.heap.objs.size)
  refine ⟨.ref s.heap.objs.size, upd H s.heap.objs.size (.lst (xs.map fun x => V.ref x.2.1)), I.laid (t' := tk) hk (Nat.le_refl _) ⟨by rw [List.length_map]; exact z, acc.toList, c', ?_, ?_⟩, rfl, q _ nn⟩
  · rw [eacc]
    exact vals_refs rel fun x y h => by rw [h.2.1]; rfl
  · rw [hD]
end
end KNest
set_option maxHeartbeats 2000000
namespace KNest
open PySem PySem.Spec PyProof.Rows L2 K23
section
variable {X : Cx}
/-- a dict comprehension whose keys are nested tuples -/
def tNDc (w : World) (K : PySem.W.Frag) (wi : TI) (g : TG) (tt : TT) (tk tv : TE) (vs : List Nat) : TE := fun σ H Q => wi σ H fun J H1 => ∀ D, H1 D = none → ∃ W : Nat → Nat → Hp → Prop, (∃ m, W 0 m (upd H1 D (dN w D []))) ∧ ∀ i m H, W i m H →
  (J.stop i H ∧ Q (.ref D) H) ∨ (J.go i H ∧ ∃ Nx : Hp → Prop, (∀ H', Nx H' → ∃ m', m' < m ∧ W (i + 1) m' H') ∧ ∀ x H', J.yld i H x H' → g x (wipe σ vs) H' fun σ2 H2 => wipe σ2 vs = wipe σ vs ∧ tt σ2 H2 fun b H3 =>
    if b = true then tk σ2 H3 fun y H4 => tv σ2 H4 fun z H5 => ∃ kvs k, HN w K H5 D kvs ∧ kvs.length < sizeLine ∧ KeyD K H5 y k ∧ ∀ H6, But D H5 H6 → HN w K H6 D (putK kvs k z) → Nx H6 else Nx H3)
theorem ndc_core (hu : X.A.units + 64 < cLine) {pins : List (Addr × Obj)} {s : Shared} {σ : L2.St} {H : Hp} {Q : VK} {kx vx tg iter : Expr} {ifs : List Expr} {scope : Scope} {own : List (PySem.Str × Nat)} {pos pos' : Pos} {wi : TI} {g : TG} {tt : TT} {tk tv : TE} {use : Option (Value → Sem Unit)} {Qf : Value → Shared → Prop}
    (hc : X.calm = true) (hN : X.N.Nodup) (I : Inv X pins σ H s) (hi : PI X tg iter wi) (ok : BlkOk X.N X.env.scope scope own)
    (hg : ∀ (s : Shared) (H : Hp) (C : Addr) (cl : List (PySem.Str × Addr)) (fp : List Addr), PG (X.blk s H scope (compEnvC scope cl C X.env) fp) tg g) (ht : ∀ (s : Shared) (H : Hp) (C : Addr) (cl : List (PySem.Str × Addr)) (fp : List Addr), PTs (X.blk s H scope (compEnvC scope cl C X.env) fp) ifs tt)
    (hk : ∀ (s : Shared) (H : Hp) (C : Addr) (cl : List (PySem.Str × Addr)) (fp : List Addr), PE (X.blk s H scope (compEnvC scope cl C X.env) fp) kx tk)
    (he : ∀ (s : Shared) (H : Hp) (C : Addr) (cl : List (PySem.Str × Addr)) (fp : List Addr), PE (X.blk s H scope (compEnvC scope cl C X.env) fp) vx tv) (hs : ∀ x, foldedSetIterable iter X.env x = pure x)
    (h : tNDc X.w X.K wi g tt tk tv (own.map (·.2)) σ H Q)
    (hRR : ∀ D C s' m H', Inv X pins σ H' s' → Q (.ref D) H' → s'.heap.Ns C m → FpOk X pins H' C → compPost (model X.prog X.w) X.A X.xe use Qf (.ref D) C (.ok .next) s') :
    wpAny (model X.prog X.w) X.A (comprehension (.DictComp kx vx [⟨tg, iter, ifs, 0⟩] scope pos) scope X.env pos' newDict false (eval iter X.env) use) Qf X.xe s := by
  have hfree : ∀ y ∈ scope.names, y.2 = .free → ∃ c, X.env.cells.lookup y.1 = some c := fun y hy e => by
    rcases ok.free y hy e with k | k
    · exact I.ok.has _ (.inl k)
    · exact I.ok.has _ (.inr k)
  refine wpAny_comprehension_free (use := use) rfl hs (closure_ok hfree) ok.kind (fun y hy e => by rw [ok.uniq y hy, e])
    (thn (hi.run pins s σ H _ I h) fun xv s1 hx => thn hx fun itv s2 h2 => ?_)
  obtain ⟨it, fp, tn, J, H2, e, I2, T, st2, f2, q⟩ := h2
  subst e
  refine wpAny_newObj_type (newEnv_comp ?_)
  generalize hD : s2.heap.objs.size = D
  have hDn : H2 D = none := I2.hok.fresh (Nat.le_of_eq hD)
  obtain ⟨W, ⟨m0, w0⟩, turn⟩ := q D hDn
  -- the new list
  generalize hs3 : ({ s2 with heap := s2.heap.push { cls := .type "dict", data := .dict #[] } } : Shared) = s3
  have I3 : Inv X pins σ (upd H2 D (dN X.w D [])) s3 := by
    rw [← hs3]
    refine I2.laid (t' := s2.toks) (fun b o e => Heap.get?_push_of_some _ e) (Nat.le_of_eq hD) ?_
    rw [← hD]
    exact dN_ok (dN_new s2.heap I2.big)
  have h3 : s3.heap = s2.heap.push { cls := .type "dict", data := .dict #[] } := by rw [← hs3]
  have sz : ∀ b ∈ fp, b < s2.heap.objs.size := fun b hb => by
    obtain ⟨o, e, _⟩ := T.obj _ _ st2 b hb
    exact Heap.lt_size e
  have f3 : ∀ b ∈ fp, FpOk X pins (upd H2 D (dN X.w D [])) b ∧ b < s3.heap.objs.size := fun b hb => by
    have hlt := sz b hb
    refine ⟨⟨?_, (f2 b hb).2⟩, by rw [h3, Heap.size_push]; exact Nat.lt_succ_of_lt hlt⟩
    rw [upd_ne (by rw [← hD]; exact Nat.ne_of_lt hlt)]
    exact (f2 b hb).1
  have st3 : tn 0 s3.heap := T.keep _ _ _ st2 fun b _ o e => by rw [h3]; exact Heap.get?_push_of_some _ e
  have I4 := block_start I3 ok hN f3
  have pg := hg s3 (upd H2 D (dN X.w D [])) s3.heap.objs.size (cellsFrom (s3.heap.objs.size + 1) scope.names (cloFrom X.env.cells scope.names [])) fp
  have pt := ht s3 (upd H2 D (dN X.w D [])) s3.heap.objs.size (cellsFrom (s3.heap.objs.size + 1) scope.names (cloFrom X.env.cells scope.names [])) fp
  have pk := hk s3 (upd H2 D (dN X.w D [])) s3.heap.objs.size (cellsFrom (s3.heap.objs.size + 1) scope.names (cloFrom X.env.cells scope.names [])) fp
  have pe := he s3 (upd H2 D (dN X.w D [])) s3.heap.objs.size (cellsFrom (s3.heap.objs.size + 1) scope.names (cloFrom X.env.cells scope.names [])) fp
  show codeAny _ _ (.compStart (.DictComp kx vx [⟨tg, iter, ifs, 0⟩] scope pos) 0 (.ref it) (.ref D) (compEnvC scope (cellsFrom (s3.heap.objs.size + 1) scope.names (cloFrom X.env.cells scope.names [])) s3.heap.objs.size X.env)) (compPost (model X.prog X.w) X.A X.xe use Qf (.ref D) s3.heap.objs.size) { s3 with heap := pushCells (s3.heap.push { cls := .type "dict", data := .dict #[] }) scope.names }
  have nfp : ∀ b ∈ fp, (upd H2 D (dN X.w D [])) b = none := fun b hb => (f3 b hb).1.1
  generalize hce : compEnvC scope (cellsFrom (s3.heap.objs.size + 1) scope.names (cloFrom X.env.cells scope.names [])) s3.heap.objs.size X.env = ce at I4 pg pt pk pe ⊢
  have cL : ce.locals = s3.heap.objs.size := by subst hce; rfl
  generalize hH3 : upd H2 D (dN X.w D []) = H3 at I3 I4 pg pt pk pe w0 nfp f3
  generalize hs4 : ({ s3 with heap := pushCells (s3.heap.push { cls := .type "dict", data := .dict #[] }) scope.names } : Shared) = s4 at I4 ⊢
  have st4 : tn 0 s4.heap := T.keep _ _ _ st3 fun b _ o e => by rw [← hs4]; exact pushCells_keeps _ _ _ _ (Heap.get?_push_of_some _ e)
  have stat : ∀ {σ' : L2.St} {H' : Hp} {s' : Shared}, Inv (X.blk s3 H3 scope ce fp) [] σ' H' s' → (∀ b ∈ fp, H' b = none) → ∀ b ∈ fp, FpOk (X.blk s3 H3 scope ce fp) [] H' b := fun {σ' H' s'} I' hn b hb =>
    ⟨hn b hb, (I'.ok.exf b hb).1, I'.ok.exfs b hb, .inl hb, fun x c e => (I'.ok.exf b hb).2 x c e, fun p hp => absurd (show p ∈ ([] : List (Addr × Obj)) ++ [] from hp) (by simp)⟩
  have loop : codeAny (model X.prog X.w) X.A (.compLoop (.DictComp kx vx [⟨tg, iter, ifs, 0⟩] scope pos) 0 (.ref it) (.ref D) ce) (compPost (model X.prog X.w) X.A X.xe use Qf (.ref D) s3.heap.objs.size) s4 := by
    refine compLoop_anyD (fun n s' => ∃ i H', Inv (X.blk s3 H3 scope ce fp) [] (wipe σ (own.map (·.2))) H' s' ∧ tn i s'.heap ∧ (∀ b ∈ fp, H' b = none) ∧ W i n H') ?_ m0 ⟨0, H3, I4, st4, nfp, w0⟩
    rintro n s5 ⟨i, H5, I5, st5, n5, w5⟩
    rcases turn i n H5 w5 with ⟨stop, qq⟩ | ⟨go, Nx, hNx, step⟩
    · have td := T.done (X.blk s3 H3 scope ce fp) rfl rfl rfl hc i [] s5 _ H5 (fun _ _ => False) I5 (stat I5 n5) st5 stop
      refine thnF td fun r s6 ⟨hr, I6⟩ => ?_
      subst hr
      -- back in the def's context
      have I7 : Inv X pins σ H5 s6 := I3.call' (ch := fp) I6.os I6.base I6.hok I6.bare fun b hb => ⟨(f3 b hb).1.2.2.2.1, (f3 b hb).1.2.1, (f3 b hb).1.2.2.2.2.1, (f3 b hb).1.2.2.2.2.2⟩
      have nC : H5 s3.heap.objs.size = none := by
        have z : H5 ce.locals = none := I6.free
        rw [cL] at z
        exact z
      obtain ⟨m, hn, _⟩ := I6.loc
      have hn : s6.heap.Ns ce.locals m := hn
      rw [cL] at hn
      exact hRR D s3.heap.objs.size s6 m H5 I7 qq hn (I3.fpOk (Nat.le_refl _) nC)
    · have ti := T.item (X.blk s3 H3 scope ce fp) rfl rfl rfl hc i [] s5 _ H5 (fun _ _ => False) I5 (stat I5 n5) st5 go
      refine thnF ti fun r s6 ⟨u, hr, h6⟩ => ?_
      subst hr
      refine thnF h6 fun _ s7 ⟨x, H7, I7, r7, y7, st7, n7⟩ => ?_
      have I7' := I7.pinned (stat I7 n7) (T.obj _ _ st7)
      refine thnF (pg.run _ s7 _ H7 x u _ I7' r7 (step x H7 y7)) fun _ s8 ⟨σ8, H8, I8, hw8, q8⟩ => ?_
      refine thnF (pt.run _ s8 σ8 H8 _ I8 q8) fun b s9 ⟨H9, I9, q9⟩ => ?_
      -- the turn's end
      have fin : ∀ {s' : Shared} {H' : Hp}, Inv (X.blk s3 H3 scope ce fp) ([] ++ pinsAt fp s7.heap) σ8 H' s' → Nx H' → ∃ m, m < n ∧ ∃ i H', Inv (X.blk s3 H3 scope ce fp) [] (wipe σ (own.map (·.2))) H' s' ∧ tn i s'.heap ∧ (∀ b ∈ fp, H' b = none) ∧ W i m H' := fun {s' H'} I' nx => by
        obtain ⟨m', hm, w'⟩ := hNx H' nx
        have pin' : ∀ b ∈ fp, ∀ o, s7.heap.get? b = some o → s'.heap.get? b = some o ∧ H' b = none := fun b hb o e =>
          let z := I'.pin (b, o) (List.mem_append_right _ (List.mem_append_right _ (mem_pinsAt hb e)))
          ⟨z.1, z.2.1⟩
        have hl : (wipe σ (own.map (·.2))).length = σ8.length := by rw [← hw8, wipe_length]
        refine ⟨m', hm, i + 1, H', (I'.unpinned (pins := [])).weak hl (fun j v e => ?_), T.keep _ _ _ st7 fun b hb o e => (pin' b hb o e).1, fun b hb => ?_, w'⟩
        · rw [← hw8] at e
          exact (wipe_some e).1
        · obtain ⟨o, e, _⟩ := T.obj _ _ st7 b hb
          exact (pin' b hb o e).2
      cases b with
      | false =>
        simp only [Bool.false_eq_true, if_false] at q9 ⊢
        exact fin I9 q9
      | true =>
        simp only [if_true] at q9 ⊢
        refine thnF (pk.run _ s9 σ8 H9 _ I9 q9) fun z s10 ⟨yk, H10, I10, r10, q10⟩ => ?_
        refine thnF (pe.run _ s10 σ8 H10 _ I10 q10) fun z2 s11 ⟨yv, H11, I11, r11, kvs, k, hD11, hz11, hk11, nx⟩ => ?_
        refine n_dictSet (X := X.blk s3 H3 scope ce fp) hu I11 hD11 hz11 hk11 r10 r11 fun xs b s12 ey hx nk em hd hz I12 => fin I12 (nx _ but_upd ⟨_, upd_same, ?_, ?_⟩)
        · subst ey
          exact (nk.put hd hz yv).but (noSeq_ext hx) but_upd
        · rw [map_storeN, em]
  exact codeAny_compStart_dict loop (T.self X.A 0 _ _ _ st4 loop)
/-- as a value -/
theorem pe_ndc (hu : X.A.units + 64 < cLine) {kx vx tg iter : Expr} {ifs : List Expr} {scope : Scope} {own : List (PySem.Str × Nat)} {pos : Pos} {wi : TI} {g : TG} {tt : TT} {tk tv : TE} (hc : X.calm = true) (hN : X.N.Nodup) (hi : PI X tg iter wi) (ok : BlkOk X.N X.env.scope scope own)
    (hg : ∀ (s : Shared) (H : Hp) (C : Addr) (cl : List (PySem.Str × Addr)) (fp : List Addr), PG (X.blk s H scope (compEnvC scope cl C X.env) fp) tg g) (ht : ∀ (s : Shared) (H : Hp) (C : Addr) (cl : List (PySem.Str × Addr)) (fp : List Addr), PTs (X.blk s H scope (compEnvC scope cl C X.env) fp) ifs tt)
    (hk : ∀ (s : Shared) (H : Hp) (C : Addr) (cl : List (PySem.Str × Addr)) (fp : List Addr), PE (X.blk s H scope (compEnvC scope cl C X.env) fp) kx tk)
    (he : ∀ (s : Shared) (H : Hp) (C : Addr) (cl : List (PySem.Str × Addr)) (fp : List Addr), PE (X.blk s H scope (compEnvC scope cl C X.env) fp) vx tv) (hs : ∀ x, foldedSetIterable iter X.env x = pure x := by intro _; rfl) :
    PE X (.DictComp kx vx [⟨tg, iter, ifs, 0⟩] scope pos) (tNDc X.w X.K wi g tt tk tv (own.map (·.2))) := by
  refine ⟨fun pins s σ H Q I h => ?_⟩
  rw [arm_eval_DictComp]
  refine ndc_core hu hc hN I hi ok hg ht hk he hs h fun D C s' m H' I' q hn f => ⟨m, hn, fun h'' sb => ?_⟩
  obtain ⟨f0, f1, f2, f3, f4, f5⟩ := f
  exact ⟨.ref D, H', I'.turned (t' := s'.toks) (fun b o hb e => (sb.2 b hb).trans e) f0 f1 f3 f4 f5, rfl, q⟩
end
end KNest
set_option maxHeartbeats 1000000
namespace KNest
open PySem PySem.Spec PyProof.Rows L2 K23
/-! ### {k: v} -/
section
variable {X : Cx} {k v : Expr} {tk tv : TE} {pos : Pos}
def tDisp1N (w : World) (K : PySem.W.Frag) (tk tv : TE) : TE := fun σ H Q => ∀ p, H p = none → tk σ (upd H p (dN w p [])) fun x H1 => tv σ H1 fun y H2 => ∃ kk, H2 p = some (dN w p []) ∧ KeyD K H2 x kk ∧ ∀ H3, But p H2 H3 → HN w K H3 p [(kk, y)] → Q (.ref p) H3
theorem pe_disp1N (hu : X.A.units + 64 < cLine) (hk : PE X k tk) (hv : PE X v tv) : PE X (.Dict [some k] [v] pos) (tDisp1N X.w X.K tk tv) := by
  refine ⟨fun pins s σ H Q I q => ?_⟩
  have hn := I.hok.fresh (Nat.le_refl s.heap.objs.size)
  have I1 := I.laid (a := s.heap.objs.size) (o := dN X.w s.heap.objs.size []) (h' := s.heap.push { cls := .type "dict", data := .dict #[] }) (t' := s.toks) (fun _ _ q => Heap.get?_push_of_some _ q) (Nat.le_refl _) (dN_ok (dN_new s.heap I.big))
  rw [arm_eval_Dict, zip_pairTrees [some k] [v] X.env pos rfl rfl, dictDisplay_pairs (pairTrees [some k] [v] X.env pos) (by simp [pairTrees]) (by simp [pairTrees])]
  refine wpAny_bind (wpAny_standAt (wpAny_bind ?_))
  unfold subDict
  refine wpAny_bind (wpAny_alloc ?_)
  refine wpAny_bind (wpAny_holding ?_)
  rw [if_pos (by simp [pairTrees])]
  refine wpAny_bind ?_
  refine pairTrees_cons_walk (thn (hk.run pins _ σ _ _ I1 (q _ hn)) fun u1 s1 ⟨x, H1, I2, r1, q1⟩ => thn (hv.run pins s1 σ H1 _ I2 q1) fun u2 s2 ⟨y, H2, I3, r2, kk, hp, hkd, q2⟩ => pairTrees_nil_walk ?_)
  refine wpAny_holding ?_
  rw [List.forIn_cons]
  refine wpAny_bind (wpAny_bind (wpAny_bind (n_dictSet (X := X) (A := X.A) hu I3 ⟨[], hp, (fun x hx => nomatch hx), rfl⟩ (by rw [sizeLine_eq]; show 0 < 16777216; omega) hkd r1 r2 fun xs b s4 ey hx nk em hd hz I4 => wpAny_pure ?_)))
  dsimp only
  rw [List.forIn_nil]
  refine wpAny_pure (wpAny_pure (wpAny_pure (wpAny_pure ?_)))
  refine ⟨.ref s.heap.objs.size, _, I4, rfl, q2 _ but_upd ⟨_, upd_same, ?_, ?_⟩⟩
  · subst ey
    exact (nk.put hd hz y).but (noSeq_ext hx) but_upd
  · rw [map_storeN, em]
    rfl
end
/-! ### d == {} -/
section
variable {prog : Program} {w : World} {A : Around} {E : Value → Shared → Prop} {s : Shared}
theorem samePairs_empty {nm : String} {a b : Addr} {oa ob : Obj} {es : Array DictEntry} {ep ep' : Nat} {Q : Bool → Shared → Prop} (ha : (a == sysModules) = false) (hb : (b == sysModules) = false)
    (hoa : s.heap.get? a = some oa) (hda : oa.data = .dict es ep) (hob : s.heap.get? b = some ob) (hdb : ob.data = .dict #[] ep') (h : Q (decide (es.size = 0)) s) : wpAny (model prog w) A (Builtin.Dict.samePairs nm a b) Q E s := by
  unfold Builtin.Dict.samePairs Builtin.Dict.showsAll
  rw [if_neg (show ¬ (a == sysModules) = true by rw [ha]; exact Bool.false_ne_true), if_neg (show ¬ (b == sysModules) = true by rw [hb]; exact Bool.false_ne_true)]
  refine wpAny_bind (wpAny_pure (wpAny_bind (wpAny_pure ?_)))
  refine wpAny_bind (wpAny_dictEntries hoa hda ?_)
  dsimp only
  refine wpAny_bind (wpAny_dictEntries hob hdb ?_)
  by_cases hsz : es.size = 0
  · rw [decide_eq_true hsz] at h
    rw [if_neg (by rw [hsz]; simp)]
    refine wpAny_bind (wpAny_dictEpoch hoa hda ?_)
    refine wpAny_bind ?_
    rw [Std.Legacy.Range.forIn_eq_forIn_range']
    simp only [Std.Legacy.Range.size, Nat.sub_zero, Nat.add_sub_cancel, Nat.div_one]
    rw [hsz]
    exact wpAny_pure (wpAny_pure h)
  · rw [decide_eq_false hsz] at h
    rw [if_pos (by simpa using hsz)]
    exact wpAny_bind (wpAny_rule (wpAny_pure h))
theorem rc_empty {a b : Addr} {oa ob : Obj} {es : Array DictEntry} {ep ep' : Nat} {Q : Value → Shared → Prop} (ha : (a == sysModules) = false) (hb : (b == sysModules) = false) (hu : A.units < cLine)
    (hoa : s.heap.get? a = some oa) (hca : oa.ExactDict) (hda : oa.data = .dict es ep) (hob : s.heap.get? b = some ob) (hcb : ob.ExactDict) (hdb : ob.data = .dict #[] ep') (h : Q (.bool (decide (es.size = 0))) s) :
    wpAny (model prog w) A (richCompare .Eq (.ref a) (.ref b)) Q E s := by
  have ta : s.TypeIs (.ref a) "dict" := ⟨oa, hoa, hca.1⟩
  have tb : s.TypeIs (.ref b) "dict" := ⟨ob, hob, hcb.1⟩
  refine wpAny_richCompare_same_room (op := .Eq) ta tb PySem.F.slot_dict_eq (wpAny_call_entry PySem.F.slot_dict_eq ta PySem.F.entry_dict_eq ?_ (PySem.F.args_dict_eq_2 _ _)) hu
  show wpAny _ _ (Builtin.Dict.dictSlotArgs "__eq__" ⟨[.ref a, .ref b], []⟩ >>= _) _ _ s
  refine wpAny_bind ?_
  unfold Builtin.Dict.dictSlotArgs
  refine wpAny_bind (wpAny_notOrdered_dict ta ?_)
  show wpAny _ _ (pure (Value.ref a, Value.ref b)) _ _ s
  refine wpAny_pure ?_
  refine wpAny_bind (wpAny_isInstance (T := "dict") tb PySem.F.sub_dict_dict ?_)
  simp only [Bool.not_true, Bool.false_eq_true, if_false]
  refine wpAny_bind (wpAny_pure (wpAny_bind (wpAny_pure ?_)))
  refine wpAny_bind (samePairs_empty ha hb hoa hda hob hdb ?_)
  refine wpAny_pure ⟨_, rfl, ?_, ?_⟩
  · exact fun x => nomatch x
  · simpa using h
end
section
variable {X : Cx}
def rEqNE (w : World) : R2 := fun x y H Q => ∃ a b xs, x = .ref a ∧ y = .ref b ∧ Rd H a (dN w a xs) ∧ H b = some (dN w b []) ∧ Q (.bl xs.isEmpty) H
theorem op_eqNE (hu : X.A.units + 64 < cLine) : OpR X (compareOp .Eq) (rEqNE X.w) := by
  intro pins s σ H x y v u Q I rx ry h
  obtain ⟨a, b, xs, rfl, rfl, ea, eb, q⟩ := h
  obtain rfl : v = Value.ref a := rx
  obtain rfl : u = Value.ref b := ry
  obtain ⟨⟨_, ya, ys, ra, oa, es, ep, h1, h2, h3, h4, _⟩, _⟩ := (show ObjOk X.prog X.w H s.heap a (dN X.w a xs) from ea.ok I.hok)
  obtain ⟨⟨_, yb, zs, rb, ob, es', ep', g1, g2, g3, g4, _⟩, _⟩ := (show ObjOk X.prog X.w H s.heap b (dN X.w b []) from I.hok b _ eb)
  cases rb
  have e0 : es' = #[] := by
    rw [List.map_nil] at g4
    exact Array.toList_eq_nil_iff.mp g4
  subst e0
  have lz : es.size = ys.length := by
    have := congrArg List.length h4
    rw [Array.length_toList, List.length_map] at this
    exact this
  refine rc_empty ya yb (by omega) h1 h2 h3 g1 g2 g3 ⟨.bl xs.isEmpty, H, I, ?_, q⟩
  show Value.bool (decide (es.size = 0)) = Value.bool xs.isEmpty
  rw [lz]
  cases ra <;> rfl
end
/-! ### d.update(e) -/
def mergeN (kvs more : List (NK × V)) : List (NK × V) := more.foldl (fun acc kv => putK acc kv.1 kv.2) kvs
def storeAllN (xs more : List NRow) : List NRow := more.foldl (fun acc r => storeN acc r.1 r.2.1 r.2.2) xs
theorem NRel.all {more : List NRow} {ms : List (NK × Addr × Value)} (m : NRel more ms) : ∀ {xs : List NRow} {ys : List (NK × Addr × Value)}, NRel xs ys → NRel (storeAllN xs more) (storedAllH ys ms) := by
  induction m with
  | nil => exact fun r => r
  | @cons p q ps qs h t ih =>
    intro xs ys r
    show NRel (storeAllN (storeN xs p.1 p.2.1 p.2.2) ps) (storedAllH (storedH ys q.1 q.2.1 q.2.2) qs)
    rw [← h.1, ← h.2.1]
    exact ih (r.put p.1 p.2.1 h.2.2)
theorem map_storeAllN : ∀ (more xs : List NRow), (storeAllN xs more).map prN = mergeN (xs.map prN) (more.map prN)
  | [], xs => rfl
  | r :: more, xs => by
    show (storeAllN (storeN xs r.1 r.2.1 r.2.2) more).map prN = mergeN (putK (xs.map prN) r.1 r.2.2) (more.map prN)
    rw [map_storeAllN more, map_storeN]
theorem NKeys.all {K : PySem.W.Frag} {H : Hp} : ∀ (more : List NRow) {xs : List NRow}, NKeys K H xs → NKeys K H more → NKeys K H (storeAllN xs more)
  | [], xs, h, _ => h
  | r :: more, xs, h, m => NKeys.all more (h.put (m r List.mem_cons_self).1 (m r List.mem_cons_self).2 r.2.2) fun x hx => m x (List.mem_cons_of_mem _ hx)
theorem len_storeAllN : ∀ (more xs : List NRow), (storeAllN xs more).length ≤ xs.length + more.length
  | [], xs => Nat.le_refl _
  | r :: more, xs => by
    have h1 := len_storeAllN more (storeN xs r.1 r.2.1 r.2.2)
    have h2 := len_storeN (xs := xs) r.1 r.2.1 r.2.2
    show (storeAllN (storeN xs r.1 r.2.1 r.2.2) more).length ≤ _
    rw [List.length_cons]
    omega
section
variable {X : Cx}
def rUpdN (w : World) (K : PySem.W.Frag) : V → List V → Hp → VK → Prop := fun x xs H Q => ∃ d o kvs more, x = .ref d ∧ xs = [.ref o] ∧ d ≠ o ∧ HN w K H d kvs ∧ HN w K H o more ∧ (kvs ≠ [] ∨ (more.map fun p => p.1.hash w).Nodup) ∧ kvs.length + more.length ≤ sizeLine ∧
  ∀ H', But d H H' → HN w K H' d (mergeN kvs more) → Q .non H'
theorem mt_updN (hu : X.A.units + 64 < cLine) : MtR X "dict.update" (rUpdN X.w X.K) := by
  intro pins s σ H x xs v us Q I rx rxs h
  obtain ⟨d, o, kvs, more, rfl, rfl, ne, ⟨ds, hd, nd, rfl⟩, ⟨os, ho, no, rfl⟩, hap, hsz, q⟩ := h
  cases rx
  obtain ⟨u1, rfl, r1⟩ := vals1 rxs
  cases r1
  obtain ⟨zd, hsd, yd, reld, dd⟩ := dictN_of I (.inl hd) nd
  obtain ⟨zo, hso, yo, relo, oo⟩ := dictN_of I (.inl ho) no
  have tups : ∀ x ∈ yo, s.TypeIs (.ref x.2.1) "tuple" := by
    obtain ⟨_, _, _, _, _, _, _, his, _⟩ := oo
    exact fun x hm => (nestedKind_stays (prog := X.prog) (w := X.w)).tuple (his x hm)
  refine call_update_dictH (knd := nestedKind X.prog X.w) (show X.A.units + 1 + 8 < cLine by omega) ne hso dd oo ?_ (by rw [← reld.len, ← relo.len]; rw [List.length_map, List.length_map] at hsz; exact hsz) fun h' d' o' sb => ?_
  · rcases hap with z | z
    · refine .inl fun e => z ?_
      have l := reld.len
      rw [e] at l
      cases ds with
      | nil => rfl
      | cons a b => simp at l
    · refine .inr ⟨tups, ?_⟩
      have e : (os.map prN).map (fun p => p.1.hash X.w) = yo.map fun x => (nestedKind X.prog X.w).hash x.1 := by
        rw [List.map_map]
        clear z q oo tups hsz ho no zo
        induction relo with
        | nil => rfl
        | @cons p q ps qs h t ih =>
          rw [List.map_cons, List.map_cons, ih]
          refine congrArg (· :: _) ?_
          show p.1.hash X.w = q.1.hash X.w
          rw [h.1]
      rw [← e]
      exact z
  · obtain ⟨ob, _, _, hob, _⟩ := id d'
    have hl := len_storeAllN os ds
    have I2 : Inv X pins σ (upd H d (dN X.w d (storeAllN ds os))) { s with heap := h' } := d_write (t' := s.toks) I (by rw [hd]; exact mut_dN) sb ⟨ob, hob⟩ (dN_ok (rawN_of (by rw [List.length_map, List.length_map] at hsz; omega) hsd (relo.all reld) d'))
    exact ⟨.non, _, I2, rfl, q _ but_upd ⟨_, upd_same, (NKeys.all os nd no).but (noSeq_ext hd) but_upd, map_storeAllN os ds⟩⟩
end
end KNest
set_option maxHeartbeats 1000000
namespace KNest
open PySem PySem.Spec PyProof.Rows L2 K23
def tyN (w : World) (K : PySem.W.Frag) (x : V) (H : Hp) : Prop := ∃ a kvs, x = .ref a ∧ RN w K H a kvs
theorem tyOk_N {X : Cx} : TyOk X "dict" (tyN X.w X.K) := by
  intro pins σ H s x v I r ty
  obtain ⟨a, kvs, rfl, g⟩ := ty
  cases r
  obtain ⟨t1, t2, _⟩ := n_type I g
  exact ⟨t1, t2⟩
/-- over a list that stays -/
theorem ndc_list {w : World} {K : PySem.W.Frag} {a : Addr} {xs : List V} {g : TG} {tt : TT} {tk tv : TE} {vs : List Nat} {σ : L2.St} {H1 : Hp} {D : Addr} {Qd : Hp → Prop} (Pv : Nat → Hp → Prop) (h0 : Pv 0 (upd H1 D (dN w D []))) (hl : ∀ i H, i ≤ xs.length → Pv i H → SqL K H a xs)
    (hs : ∀ i x H, xs[i]? = some x → Pv i H → g x (wipe σ vs) H fun σ2 H2 => wipe σ2 vs = wipe σ vs ∧ tt σ2 H2 fun b H3 =>
      if b = true then tk σ2 H3 fun y H4 => tv σ2 H4 fun z H5 => ∃ kvs k, HN w K H5 D kvs ∧ kvs.length < sizeLine ∧ KeyD K H5 y k ∧ ∀ H6, But D H5 H6 → HN w K H6 D (putK kvs k z) → Pv (i + 1) H6 else Pv (i + 1) H3) (hd : ∀ H, Pv xs.length H → Qd H) :
    ∃ W : Nat → Nat → Hp → Prop, (∃ m, W 0 m (upd H1 D (dN w D []))) ∧ ∀ i m H, W i m H →
      ((Itl K a).stop i H ∧ Qd H) ∨ ((Itl K a).go i H ∧ ∃ Nx : Hp → Prop, (∀ H', Nx H' → ∃ m', m' < m ∧ W (i + 1) m' H') ∧ ∀ x H', (Itl K a).yld i H x H' → g x (wipe σ vs) H' fun σ2 H2 => wipe σ2 vs = wipe σ vs ∧ tt σ2 H2 fun b H3 =>
        if b = true then tk σ2 H3 fun y H4 => tv σ2 H4 fun z H5 => ∃ kvs k, HN w K H5 D kvs ∧ kvs.length < sizeLine ∧ KeyD K H5 y k ∧ ∀ H6, But D H5 H6 → HN w K H6 D (putK kvs k z) → Nx H6 else Nx H3) := by
  refine ⟨fun i m H => m = xs.length - i ∧ i ≤ xs.length ∧ Pv i H, ⟨xs.length, by simp, Nat.zero_le _, h0⟩, ?_⟩
  rintro i m H ⟨rfl, hi, p⟩
  have q := hl i H hi p
  by_cases hlt : i < xs.length
  · refine .inr ⟨⟨xs, xs[i], q, by simp [hlt]⟩, Pv (i + 1), fun H' p' => ⟨xs.length - (i + 1), by omega, rfl, hlt, p'⟩, fun x H' y => ?_⟩
    obtain ⟨e, y⟩ := y
    subst e
    exact hs i x _ (y xs q) p
  · have e : i = xs.length := by omega
    subst e
    exact .inl ⟨⟨xs, q, Nat.le_refl _⟩, hd H p⟩
section
variable {X : Cx} {o i : Expr} {pos : Pos} {td ty : TE}
theorem pc_ninE (w : World) (K : PySem.W.Frag) (hu : X.A.units + 64 < cLine) (hi : PE X i ty) (ho : PE X o td) (ew : X.w = w := by rfl) (eK : X.K = K := by rfl) : PC X .In i o (tNIn w K ty td) := by
  subst ew eK
  exact pc_nin hu hi ho
theorem pc_nnotinE (w : World) (K : PySem.W.Frag) (hu : X.A.units + 64 < cLine) (hi : PE X i ty) (ho : PE X o td) (ew : X.w = w := by rfl) (eK : X.K = K := by rfl) : PC X .NotIn i o (tNNotIn w K ty td) := by
  subst ew eK
  exact pc_nnotin hu hi ho
theorem pe_ngetE (w : World) (K : PySem.W.Frag) (hu : X.A.units + 64 < cLine) (ho : PE X o td) (hi : PE X i ty) (hs : NoSl i) (ew : X.w = w := by rfl) (eK : X.K = K := by rfl) : PE X (.Subscript o i pos) (tNGet w K td ty) := by
  subst ew eK
  exact pe_nget hu ho hi hs
end
end KNest
set_option maxHeartbeats 1000000
namespace K23
open PySem PySem.Spec
abbrev Blk := Int × Int
abbrev Lay := List Blk
inductive Mv where
  | give (s : Int)
  | want (z : Int)
  deriving DecidableEq
structure Game where
  c : Int
  zs : List Int
  m : Int
  v : Int
def total (L : Lay) : Int := (L.map (·.2)).sum
def rangeI (a b : Int) : List Int := (List.range (b - a).toNat).map fun (i : Nat) => a + (i : Int)
def freeGo (z : Int) : Int → Lay → List Int
  | _, [] => []
  | t, b :: r => rangeI t (b.1 - z + 1) ++ freeGo z (b.1 + b.2) r
def freeS (c : Int) (L : Lay) (z : Int) : List Int := freeGo z 0 (L ++ [(c, 0)])
def wants (G : Game) (L : Lay) : List Int := if (L.length : Int) = G.m then [] else G.zs.filter fun z => decide (total L + z ≤ G.v)
def movesAt (G : Game) (L : Lay) : List Mv := L.map (fun b => Mv.give b.1) ++ (wants G L).map Mv.want
def insB (b : Blk) : Lay → Lay
  | [] => [b]
  | x :: r => if b.1 < x.1 then b :: x :: r else x :: insB b r
def dropS (L : Lay) (s : Int) : Lay := L.filter fun b => decide (b.1 ≠ s)
def ledTo (G : Game) (L : Lay) : Mv → List Lay
  | .give s => [dropS L s]
  | .want z => (freeS G.c L z).map fun s => insB (s, z) L
def LayGo (c : Int) : Int → Lay → Prop
  | t, [] => t ≤ c
  | t, b :: r => t ≤ b.1 ∧ LayGo c (b.1 + b.2) r
structure IsLay (G : Game) (L : Lay) : Prop where
  go : LayGo G.c 0 L
  zs : ∀ b ∈ L, b.2 ∈ G.zs
  m : (L.length : Int) ≤ G.m
  v : total L ≤ G.v
structure OkG (G : Game) : Prop where
  c : 1 ≤ G.c ∧ G.c ≤ 12
  zs : ∀ z ∈ G.zs, 1 ≤ z ∧ z ≤ 3
  up : G.zs.Pairwise (· < ·)
  m : 1 ≤ G.m ∧ G.m ≤ 4
  v : 1 ≤ G.v ∧ G.v ≤ 12
/-! ### basics -/
theorem mem_rangeI {a b x : Int} : x ∈ rangeI a b ↔ a ≤ x ∧ x < b := by
  unfold rangeI
  rw [List.mem_map]
  constructor
  · rintro ⟨i, hi, rfl⟩
    have := List.mem_range.mp hi
    omega
  · rintro ⟨h1, h2⟩
    exact ⟨(x - a).toNat, List.mem_range.mpr (by omega), by omega⟩
theorem total_cons (b : Blk) (L : Lay) : total (b :: L) = b.2 + total L := by
  unfold total
  rw [List.map_cons, List.sum_cons]
theorem total_insB (b : Blk) : ∀ L : Lay, total (insB b L) = total L + b.2
  | [] => by
    show total [b] = total [] + b.2
    rw [total_cons]
    unfold total
    simp
  | x :: r => by
    unfold insB
    split
    · rw [total_cons, total_cons]
      omega
    · rw [total_cons, total_cons, total_insB b r]
      omega
theorem length_insB (b : Blk) : ∀ L : Lay, (insB b L).length = L.length + 1
  | [] => rfl
  | x :: r => by
    unfold insB
    split
    · rfl
    · rw [List.length_cons, List.length_cons, length_insB b r]
theorem mem_insB (b x : Blk) : ∀ L : Lay, x ∈ insB b L ↔ x = b ∨ x ∈ L
  | [] => by simp [insB]
  | y :: r => by
    unfold insB
    split
    · simp
    · rw [List.mem_cons, mem_insB b x r, List.mem_cons]
      constructor
      · rintro (h | h | h)
        · exact .inr (.inl h)
        · exact .inl h
        · exact .inr (.inr h)
      · rintro (h | h | h)
        · exact .inr (.inl h)
        · exact .inl h
        · exact .inr (.inr h)
theorem perm_insB (b : Blk) : ∀ L : Lay, (insB b L).Perm (L ++ [b])
  | [] => List.Perm.refl _
  | x :: r => by
    unfold insB
    split
    · exact (List.perm_append_comm (l₁ := [b]) (l₂ := x :: r))
    · exact (perm_insB b r).cons x
abbrev Pos1 (L : Lay) : Prop := ∀ b ∈ L, 1 ≤ b.2
theorem LayGo.mono {c : Int} : ∀ {L : Lay} {t t' : Int}, t' ≤ t → LayGo c t L → LayGo c t' L
  | [], t, t', h, g => Int.le_trans h g
  | b :: r, t, t', h, g => ⟨Int.le_trans h g.1, g.2⟩
theorem LayGo.lo {c : Int} : ∀ {L : Lay} {t : Int}, Pos1 L → LayGo c t L → ∀ b ∈ L, t ≤ b.1
  | [], t, _, _, b, hb => nomatch hb
  | x :: r, t, p, g, b, hb => by
    rcases List.mem_cons.mp hb with rfl | hb
    · exact g.1
    · have h1 := LayGo.lo (fun y hy => p y (List.mem_cons_of_mem _ hy)) g.2 b hb
      have h2 := p x List.mem_cons_self
      have h3 := g.1
      omega
theorem LayGo.le {c : Int} : ∀ {L : Lay} {t : Int}, Pos1 L → LayGo c t L → t ≤ c
  | [], t, _, g => g
  | x :: r, t, p, g => by
    have h1 := LayGo.le (fun y hy => p y (List.mem_cons_of_mem _ hy)) g.2
    have h2 := p x List.mem_cons_self
    have h3 := g.1
    omega
theorem LayGo.up {c : Int} : ∀ {L : Lay} {t : Int}, Pos1 L → LayGo c t L → L.Pairwise fun a b => a.1 < b.1
  | [], t, _, _ => .nil
  | x :: r, t, p, g => by
    refine .cons (fun b hb => ?_) (LayGo.up (fun y hy => p y (List.mem_cons_of_mem _ hy)) g.2)
    have h1 := LayGo.lo (fun y hy => p y (List.mem_cons_of_mem _ hy)) g.2 b hb
    have h2 := p x List.mem_cons_self
    omega
theorem LayGo.drop {c s : Int} : ∀ {L : Lay} {t : Int}, Pos1 L → LayGo c t L → LayGo c t (dropS L s)
  | [], t, _, g => g
  | x :: r, t, p, g => by
    have p' : Pos1 r := fun y hy => p y (List.mem_cons_of_mem _ hy)
    have ih := LayGo.drop (s := s) p' g.2
    unfold dropS at ih ⊢
    rw [List.filter_cons]
    split
    · exact ⟨g.1, ih⟩
    · have h2 := p x List.mem_cons_self
      have h3 := g.1
      exact ih.mono (by omega)
theorem LayGo.put {c s z : Int} (hz : 1 ≤ z) : ∀ {L : Lay} {t : Int}, Pos1 L → LayGo c t L → s ∈ freeGo z t (L ++ [(c, 0)]) → LayGo c t (insB (s, z) L) ∧ t ≤ s ∧ (∀ b ∈ L, b.1 ≠ s) ∧ s + z ≤ c
  | [], t, _, g, h => by
    have h' : s ∈ rangeI t (c - z + 1) := by simpa [freeGo] using h
    have h1 := mem_rangeI.mp h'
    exact ⟨⟨h1.1, show s + z ≤ c by omega⟩, h1.1, (fun b hb => nomatch hb), by omega⟩
  | x :: r, t, p, g, h => by
    have p' : Pos1 r := fun y hy => p y (List.mem_cons_of_mem _ hy)
    have hx := p x List.mem_cons_self
    have g1 := g.1
    rw [List.cons_append, freeGo, List.mem_append] at h
    rcases h with h | h
    · have h1 := mem_rangeI.mp h
      have h2 := g.2.lo p'
      have h3 := g.2.le p'
      unfold insB
      rw [if_pos (show s < x.1 by omega)]
      refine ⟨⟨h1.1, show s + z ≤ x.1 by omega, g.2⟩, h1.1, fun b hb => ?_, by omega⟩
      rcases List.mem_cons.mp hb with rfl | hb
      · omega
      · have := h2 b hb
        omega
    · obtain ⟨i1, i2, i3, i4⟩ := LayGo.put hz p' g.2 h
      unfold insB
      rw [if_neg (show ¬ s < x.1 by omega)]
      refine ⟨⟨g1, i1⟩, by omega, fun b hb => ?_, i4⟩
      rcases List.mem_cons.mp hb with rfl | hb
      · omega
      · exact i3 b hb
theorem total_drop {s : Int} : ∀ {L : Lay}, Pos1 L → total (dropS L s) ≤ total L
  | [], _ => Int.le_refl _
  | x :: r, p => by
    have ih := total_drop (s := s) (fun y hy => p y (List.mem_cons_of_mem _ hy) : Pos1 r)
    have hx := p x List.mem_cons_self
    unfold dropS at ih ⊢
    rw [List.filter_cons]
    split
    · rw [total_cons, total_cons]
      omega
    · rw [total_cons]
      omega
section
variable {G : Game} {L o : Lay} {s z : Int}
theorem IsLay.pos (k : OkG G) (h : IsLay G L) : Pos1 L := fun b hb => (k.zs _ (h.zs b hb)).1
theorem IsLay.up (k : OkG G) (h : IsLay G L) : L.Pairwise fun a b => a.1 < b.1 := h.go.up (h.pos k)
theorem isLay_nil (k : OkG G) : IsLay G [] := ⟨show (0 : Int) ≤ G.c by have := k.c; omega, (fun b hb => nomatch hb), by have := k.m; show (0 : Int) ≤ G.m; omega, by have := k.v; show (0 : Int) ≤ G.v; omega⟩
theorem IsLay.give (k : OkG G) (h : IsLay G L) : IsLay G (dropS L s) := by
  have p := h.pos k
  refine ⟨h.go.drop p, fun b hb => h.zs b (List.mem_filter.mp hb).1, ?_, Int.le_trans (total_drop p) h.v⟩
  have l1 : (dropS L s).length ≤ L.length := List.length_filter_le _ _
  have := h.m
  omega
theorem mem_wants : z ∈ wants G L ↔ (L.length : Int) ≠ G.m ∧ z ∈ G.zs ∧ total L + z ≤ G.v := by
  unfold wants
  split
  · rename_i e
    simp [e]
  · rename_i e
    rw [List.mem_filter]
    simp [e]
theorem IsLay.put (k : OkG G) (h : IsLay G L) (hw : z ∈ wants G L) (hs : s ∈ freeS G.c L z) : IsLay G (insB (s, z) L) := by
  obtain ⟨h1, h2, h3⟩ := mem_wants.mp hw
  have hz := k.zs z h2
  refine ⟨(h.go.put hz.1 (h.pos k) hs).1, fun b hb => ?_, ?_, ?_⟩
  · rcases (mem_insB _ _ _).mp hb with rfl | hb
    · exact h2
    · exact h.zs b hb
  · rw [length_insB]
    have := h.m
    omega
  · rw [total_insB]
    exact h3
theorem free_facts (k : OkG G) (h : IsLay G L) (hz : z ∈ G.zs) (hs : s ∈ freeS G.c L z) : (∀ b ∈ L, b.1 ≠ s) ∧ 0 ≤ s ∧ s + z ≤ G.c :=
  let q := h.go.put (k.zs z hz).1 (h.pos k) hs
  ⟨q.2.2.1, q.2.1, q.2.2.2⟩
theorem mem_moves {m : Mv} : m ∈ movesAt G L ↔ (∃ b ∈ L, m = .give b.1) ∨ ∃ z ∈ wants G L, m = .want z := by
  unfold movesAt
  rw [List.mem_append, List.mem_map, List.mem_map]
  constructor
  · rintro (⟨b, hb, rfl⟩ | ⟨z, hz, rfl⟩)
    · exact .inl ⟨b, hb, rfl⟩
    · exact .inr ⟨z, hz, rfl⟩
  · rintro (⟨b, hb, rfl⟩ | ⟨z, hz, rfl⟩)
    · exact .inl ⟨b, hb, rfl⟩
    · exact .inr ⟨z, hz, rfl⟩
theorem IsLay.led (k : OkG G) (h : IsLay G L) {m : Mv} (hm : m ∈ movesAt G L) (ho : o ∈ ledTo G L m) : IsLay G o := by
  rcases mem_moves.mp hm with ⟨b, hb, rfl⟩ | ⟨z, hz, rfl⟩
  · have e : o = dropS L b.1 := by simpa [ledTo] using ho
    subst e
    exact h.give k
  · obtain ⟨s, hs, rfl⟩ := List.mem_map.mp (show o ∈ (freeS G.c L z).map fun s => insB (s, z) L from ho)
    exact h.put k hz hs
inductive Reach (G : Game) : Lay → Prop
  | nil : Reach G []
  | step {L o : Lay} {m : Mv} : Reach G L → m ∈ movesAt G L → o ∈ ledTo G L m → Reach G o
theorem Reach.lay (k : OkG G) (h : Reach G L) : IsLay G L := by
  induction h with
  | nil => exact isLay_nil k
  | step _ h2 h3 ih => exact ih.led k h2 h3
/-- not too many layouts -/
def Small (G : Game) : Prop := ∀ Ls : List Lay, Ls.Nodup → (∀ L ∈ Ls, IsLay G L) → Ls.length ≤ 6000
/-! ### the game -/
inductive Win (G : Game) : Lay → Prop
  | mk {L : Lay} (m : Mv) : m ∈ movesAt G L → (∀ o ∈ ledTo G L m, Win G o) → Win G L
abbrev RRow := Lay × Int × Mv
structure RanksOk (G : Game) (rs : List RRow) : Prop where
  nd : (rs.map (·.1)).Nodup
  re : ∀ r ∈ rs, Reach G r.1
  ok : ∀ r ∈ rs, 0 ≤ r.2.1 ∧ r.2.2 ∈ movesAt G r.1 ∧ ∀ o ∈ ledTo G r.1 r.2.2, ∃ q ∈ rs, q.1 = o ∧ q.2.1 < r.2.1
def Shut (G : Game) (rs : List RRow) : Prop := ∀ L, Reach G L → L ∉ rs.map (·.1) → ∀ m ∈ movesAt G L, ∃ o ∈ ledTo G L m, o ∉ rs.map (·.1)
theorem win_of {rs : List RRow} (h : RanksOk G rs) : ∀ (n : Nat) (r : RRow), r ∈ rs → r.2.1.toNat < n → Win G r.1
  | 0, r, _, hn => absurd hn (Nat.not_lt_zero _)
  | n + 1, r, hr, hn => by
    obtain ⟨h1, h2, h3⟩ := h.ok r hr
    refine .mk r.2.2 h2 fun o ho => ?_
    obtain ⟨q, hq, rfl, hlt⟩ := h3 o ho
    have h4 := (h.ok q hq).1
    exact win_of h n q hq (by omega)
theorem ranked_of {rs : List RRow} (hs : Shut G rs) (hw : Win G L) : Reach G L → L ∈ rs.map (·.1) := by
  induction hw with
  | @mk L m hm _ ih =>
    intro hr
    by_cases hk : L ∈ rs.map (·.1)
    · exact hk
    · obtain ⟨o, ho, hno⟩ := hs L hr hk m hm
      exact absurd (ih o ho (.step hr hm ho)) hno
theorem ranked_iff {rs : List RRow} (h : RanksOk G rs) (hs : Shut G rs) : [] ∈ rs.map (·.1) ↔ Win G [] := by
  constructor
  · intro hk
    obtain ⟨r, hr, e⟩ := List.mem_map.mp hk
    rw [← e]
    exact win_of h _ r hr (Nat.lt_succ_self _)
  · exact fun hw => ranked_of hs hw .nil
end
/-! ### as data -/
def encB (b : Blk) : PyData := .tuple [.int b.1, .int b.2]
def encL (L : Lay) : PyData := .tuple (L.map encB)
def encM : Mv → PyData
  | .give s => .tuple [.str "give", .int s]
  | .want z => .tuple [.str "want", .int z]
def encG (G : Game) : PyData := .tuple [.int G.c, .tuple (G.zs.map PyData.int), .int G.m, .int G.v]
def keyB (b : Blk) : NestedKey := .tup [.num b.1, .num b.2]
def keyL (L : Lay) : NestedKey := .tup (L.map keyB)
theorem datas_map {α : Type} (f : α → NestedKey) : ∀ xs : List α, NestedKey.datas (xs.map f) = xs.map fun x => (f x).data
  | [] => by rw [List.map_nil, NestedKey.datas, List.map_nil]
  | x :: xs => by rw [List.map_cons, NestedKey.datas, datas_map f xs, List.map_cons]
theorem data_keyB (b : Blk) : (keyB b).data = encB b := by simp [keyB, encB, NestedKey.data, NestedKey.datas]
theorem data_keyL (L : Lay) : (keyL L).data = encL L := by
  unfold keyL encL
  rw [NestedKey.data, datas_map]
  exact congrArg PyData.tuple (List.map_congr_left fun b _ => data_keyB b)
theorem depth_keyB (b : Blk) : (keyB b).depth = 1 := by simp [keyB, NestedKey.depth, NestedKey.depthAll]
theorem depthAll_keyB : ∀ L : Lay, NestedKey.depthAll (L.map keyB) ≤ 1
  | [] => by simp [NestedKey.depthAll]
  | b :: r => by
    have := depthAll_keyB r
    rw [List.map_cons, NestedKey.depthAll, depth_keyB]
    omega
theorem depth_keyL (L : Lay) : (keyL L).depth ≤ 8 := by
  have := depthAll_keyB L
  unfold keyL
  rw [NestedKey.depth]
  omega
theorem keyB_inj {a b : Blk} (h : keyB a = keyB b) : a = b := by
  unfold keyB at h
  injection h with h
  injection h with h1 h
  injection h with h2 h
  injection h1 with h1
  injection h2 with h2
  exact Prod.ext h1 h2
theorem keyBs_inj : ∀ {L M : Lay}, L.map keyB = M.map keyB → L = M
  | [], [], _ => rfl
  | [], _ :: _, h => by simp at h
  | _ :: _, [], h => by simp at h
  | a :: L, b :: M, h => by
    rw [List.map_cons, List.map_cons] at h
    injection h with h1 h2
    rw [keyB_inj h1, keyBs_inj h2]
theorem keyL_inj {L M : Lay} (h : keyL L = keyL M) : L = M := by
  unfold keyL at h
  injection h with h
  exact keyBs_inj h
end K23
set_option maxHeartbeats 1000000
namespace K23
open PySem PySem.Spec PyProof.Rows L2 KSup NdefX StX KNest
/-! ### sorted(blocks) -/
section
open PySem.W
def ltB (p q : Blk) : Bool := decide (p.1 < q.1 ∨ (p.1 = q.1 ∧ p.2 ≤ q.2))
def rSortedB (K : PySem.W.Frag) : List V → Hp → VK → Prop := fun vs H Q => ∃ (a : Addr) (xs : List V) (bs : List Blk), vs = [V.ref a] ∧ SqL K H a xs ∧ DpAll K H xs (bs.map encB) ∧ ∀ p ys, H p = none → ys.length ≤ sizeLine → DpAll K H ys ((bs.mergeSort ltB).map encB) → Q (.ref p) (upd H p (.lst ys))
theorem dpAll_vals {X : Cx} {pins : List (Addr × Obj)} {σ : L2.St} {H : Hp} {s : Shared} (I : Inv X pins σ H s) : ∀ {bs : List Blk} {xs : List V} {us : List Value}, DpAll X.K H xs (bs.map encB) → Vals xs us → EachIs (fun u b => ∃ x, RelV x u ∧ Dp X.K H x (encB b)) us bs
  | [], _, _, h, r => by
    cases h
    cases r
    exact .nil
  | b :: bs, _, _, h, r => by
    rw [List.map_cons] at h
    cases h with
    | cons h1 h2 =>
      cases r with
      | cons r1 r2 => exact .cons ⟨_, r1, h1⟩ (dpAll_vals I h2 r2)
theorem vals_each {K : PySem.W.Frag} {H : Hp} : ∀ {bs : List Blk} {us : List Value}, EachIs (fun u b => ∃ x, RelV x u ∧ Dp K H x (encB b)) us bs → ∃ xs, Vals xs us ∧ DpAll K H xs (bs.map encB)
  | [], _, h => by
    cases h
    exact ⟨[], .nil, .nil⟩
  | b :: bs, _, h => by
    cases h with
    | cons h1 h2 =>
      obtain ⟨x, r, d⟩ := h1
      obtain ⟨xs, rs, ds⟩ := vals_each h2
      exact ⟨x :: xs, .cons r rs, .cons d ds⟩
theorem cr_sortedB {X : Cx} (hu : X.A.units + 64 < cLine) : CallR X (.builtin "sorted") (rSortedB X.K) := by
  intro pins s σ H vs us Q I r h
  obtain ⟨a, xs, bs, rfl, hs, hd, q⟩ := h
  rw [Vals.ref1 r]
  obtain ⟨its, rv, pl, hz⟩ := I.list hs
  have e := dpAll_vals I hd rv
  have er : EachIs (fun v b => ∃ as, Reads s.heap v (encB b) as) its bs := e.mono fun u b ⟨x, rx, dx⟩ => Dp.reads I (encB b) x u dx rx
  refine sorted_data (enc := encB) (R := fun u b => ∃ x, RelV x u ∧ Dp X.K H x (encB b)) pl.isList e er (AllAlike.of fun b b' => by simp [encB, alike, alikeAll]) (Sortable.tuples fun b => ⟨_, _, rfl⟩) ?_ (fun b _ => ?_) fun out hl ho => ?_
  · rw [← e.length, ← rv.length]; exact hz
  · have : (encB b).depth = 1 := by simp [encB, PyData.depth, PyData.depthAll]
    omega
  · have el : dataLe false encB = ltB := dataLe_ii (fun b : Blk => b.1) (fun b => b.2)
    rw [el] at ho
    obtain ⟨ys, ry, dy⟩ := vals_each ho
    obtain ⟨c, hc⟩ := sortedAll_at s.heap its out.toArray
    have hlt : s.heap.objs.size ≤ s.heap.objs.size + 1 := Nat.le_succ _
    have hzy : ys.length ≤ sizeLine := by
      rw [ry.length, hl, ← e.length, ← rv.length]
      exact hz
    exact ⟨.ref (s.heap.objs.size + 1), upd H (s.heap.objs.size + 1) (.lst ys), I.laid (t' := s.toks) (fun _ _ => sortedAll_old) hlt ⟨hzy, out, c, ry, hc⟩, rfl, q _ ys (I.hok.fresh hlt) hzy dy⟩
end
theorem sort_insB {L : Lay} {b : Blk} (up : L.Pairwise fun x y => x.1 < y.1) (ne : ∀ x ∈ L, x.1 ≠ b.1) : (L ++ [b]).mergeSort ltB = insB b L := by
  have sp : ∀ M : Lay, (∀ x ∈ M, x.1 ≠ b.1) → M.Pairwise (fun x y => x.1 < y.1) → (insB b M).Pairwise fun x y => x.1 < y.1 := by
    intro M
    induction M with
    | nil => exact fun _ _ => List.pairwise_singleton _ _
    | cons x r ih =>
      intro h p
      rw [List.pairwise_cons] at p
      unfold insB
      have hx := h x List.mem_cons_self
      split
      · rename_i hlt
        refine .cons (fun y hy => ?_) (.cons p.1 p.2)
        rcases List.mem_cons.mp hy with rfl | hy
        · exact hlt
        · have := p.1 y hy
          omega
      · rename_i hlt
        refine .cons (fun y hy => ?_) (ih (fun y hy => h y (List.mem_cons_of_mem _ hy)) p.2)
        rcases (mem_insB b y r).mp hy with rfl | hy
        · omega
        · exact p.1 y hy
  have s1 : ((L ++ [b]).mergeSort ltB).Pairwise fun x y => ltB x y = true := List.pairwise_mergeSort (fun a b c h1 h2 => by
      unfold ltB at *
      simp only [decide_eq_true_eq] at *
      omega) (fun a b => by
      unfold ltB
      simp only [Bool.or_eq_true, decide_eq_true_eq]
      omega) _
  have s2 : (insB b L).Pairwise fun x y => ltB x y = true := (sp L ne up).imp fun {x y} h => by
    unfold ltB
    simp only [decide_eq_true_eq]
    exact .inl h
  refine List.Perm.eq_of_pairwise (le := fun x y => ltB x y = true) (fun x y _ _ h1 h2 => ?_) s1 s2 ((List.mergeSort_perm _ _).trans (perm_insB b L).symm)
  unfold ltB at h1 h2
  simp only [decide_eq_true_eq] at h1 h2
  exact Prod.ext (by omega) (by omega)
/-! ### what a def gives -/
def RetL (K : PySem.W.Frag) (H : Hp) (ds : List PyData) (Q : VK) : Prop := ∀ H' a xs, Same H H' → H' a = some (.lst xs) → H a = none → DpAll K H' xs ds → Q (.ref a) H'
def RetD (K : PySem.W.Frag) (H : Hp) (d : PyData) (Q : VK) : Prop := ∀ H' v, Same H H' → Dp K H' v d → Q v H'
theorem dp_encL {K : PySem.W.Frag} {H : Hp} {v : V} {L : Lay} (h : Dp K H v (encL L)) : ∃ p xs, v = .ref p ∧ SqT K H p xs ∧ DpAll K H xs (L.map encB) := by
  unfold encL at h
  cases h with
  | tup s a => exact ⟨_, _, rfl, s, a⟩
theorem dp_encB {K : PySem.W.Frag} {H : Hp} {v : V} {b : Blk} (h : Dp K H v (encB b)) : ∃ p, v = .ref p ∧ SqT K H p [.int b.1, .int b.2] := by
  unfold encB at h
  cases h with
  | tup s a =>
    cases a with
    | cons h1 a =>
      cases a with
      | cons h2 a =>
        cases a
        cases h1
        cases h2
        exact ⟨_, rfl, s⟩
theorem dp_encG {K : PySem.W.Frag} {H : Hp} {v : V} {G : Game} (h : Dp K H v (encG G)) : ∃ p q, v = .ref p ∧ SqT K H p [.int G.c, .ref q, .int G.m, .int G.v] ∧ SqT K H q (G.zs.map V.int) := by
  unfold encG at h
  cases h with
  | tup s a =>
    cases a with
    | cons h1 a =>
      cases a with
      | cons h2 a =>
        cases a with
        | cons h3 a =>
          cases a with
          | cons h4 a =>
            cases a
            cases h1
            cases h3
            cases h4
            cases h2 with
            | tup s2 a2 =>
              refine ⟨_, _, rfl, s, ?_⟩
              have e : ∀ {xs : List V} {zs : List Int}, DpAll K H xs (zs.map PyData.int) → xs = zs.map V.int := by
                intro xs zs
                induction zs generalizing xs with
                | nil => intro h; cases h; rfl
                | cons z zs ih =>
                  intro h
                  rw [List.map_cons] at h
                  cases h with
                  | cons h1 h2 =>
                    cases h1
                    rw [ih h2]
                    rfl
              rw [e a2] at s2
              exact s2
theorem dp_mkB {K : PySem.W.Frag} {H : Hp} {p : Addr} {s z : Int} (h : SqT K H p [.int s, .int z]) : Dp K H (.ref p) (encB (s, z)) := .tup h (.cons (.int _) (.cons (.int _) .nil))
theorem sqT_of {K : PySem.W.Frag} {H : Hp} {p : Addr} {xs : List V} (h : H p = some (.tup xs)) : SqT K H p xs := .inl (.inl h)
theorem sqL_of {K : PySem.W.Frag} {H : Hp} {p : Addr} {xs : List V} (h : H p = some (.lst xs)) : SqL K H p xs := .inl (.inl h)
theorem Same.none {H H' : Hp} {p : Addr} (s : Same H H') (h : H' p = none) : H p = none := s.free h
section
variable {P : Program} {w : World} {K : PySem.W.Frag} {mg : Str → Option Value} {base : Heap} {f g : Addr} {fd gd : FuncData}
def spPutAt (K : PySem.W.Frag) : Sp := fun vs H Q _ => ∃ l s z L, vs = [l, .int s, .int z] ∧ Dp K H l (encL L) ∧ L.length ≤ 1000 ∧ L.Pairwise (fun x y => x.1 < y.1) ∧ (∀ b ∈ L, b.1 ≠ s) ∧ RetD K H (encL (insB (s, z) L)) Q
theorem ok_putAt (F : FnP K "put_at" sPutAt f fd) (T : Bl mg) : FnOk P w K mg base CX0 1 f fd ["layout", "start", "size"] (spPutAt K) := by
  refine F.ok scPutAt (fun vs H Q E h => ?_) (fun cdv A outer s H vs Q E hr h => ?_)
  · obtain ⟨l, s, z, L, rfl, _⟩ := h
    rfl
  · obtain ⟨l, s, z, L, rfl, hl, hn, up, ne, hq⟩ := h
    refine ⟨_, PSs.nox (pss_one (ps_ret (pe_callTy call_tuple_of (by rfl) T.tuple (by decide +kernel) (pa_cons (pe_callB (cr_sortedB hr.units) (by rfl) T.sorted (by decide +kernel) (pa_cons (pe_lst (pa_star (pv 0) (pa_cons (pe_tup (pa_cons (pv 1) (pa_cons (pv 2) pa_nil))) pa_nil))) pa_nil)) pa_nil)))), ?_⟩
    obtain ⟨p, xs, rfl, sq, da⟩ := dp_encL hl
    have hlen := dpAll_len da
    rw [List.length_map] at hlen
    refine ⟨_, rfl, p, xs, rfl, .inl sq, _, rfl, _, rfl, by rw [sizeLine_eq]; show 2 ≤ 16777216; omega, fun b nb => ⟨by rw [sizeLine_eq, List.length_append]; show xs.length + 1 ≤ 16777216; omega, fun c nc => ?_⟩⟩
    have s1 := same_upd (o := .tup [.int s, .int z]) nb
    have s2 := same_upd (o := .lst (xs ++ [.ref b])) nc
    refine ⟨c, _, L ++ [(s, z)], rfl, sqL_of upd_same, ?_, fun d ys nd hys dy => ?_⟩
    · rw [List.map_append]
      have da2 : DpAll K _ xs (L.map encB) := dpAll_same (s1.trans s2) da
      exact dpAll_snoc da2 (dp_mkB (sqT_of (s2 _ _ upd_same)))
    · have s3 := same_upd (o := .lst ys) nd
      refine ⟨d, ys, rfl, .inl ⟨sqL_of upd_same, fun e ne' => ?_⟩⟩
      have s4 := same_upd (o := .tup ys) ne'
      rw [sort_insB (b := (s, z)) up ne] at dy
      exact hq _ _ (((s1.trans s2).trans s3).trans s4) (.tup (sqT_of upd_same) (dpAll_same (s3.trans s4) dy))
/-! ### free_starts -/
def spFree (K : PySem.W.Frag) : Sp := fun vs H Q _ => ∃ g l z G L, vs = [g, l, .int z] ∧ Dp K H g (encG G) ∧ OkG G ∧ Dp K H l (encL L) ∧ IsLay G L ∧ (1 ≤ z ∧ z ≤ 3) ∧ RetL K H ((freeS G.c L z).map PyData.int) Q
theorem rgV_eq (a b : Int) : rgV a b = (rangeI a b).map V.int := by
  unfold rgV rangeI
  rw [List.map_map]
  rfl
theorem LayGo.hi {c : Int} : ∀ {L : Lay} {t : Int}, Pos1 L → LayGo c t L → ∀ b ∈ L, b.1 + b.2 ≤ c
  | [], t, _, _, b, hb => nomatch hb
  | x :: r, t, p, g, b, hb => by
    rcases List.mem_cons.mp hb with rfl | hb
    · exact g.2.le fun y hy => p y (List.mem_cons_of_mem _ hy)
    · exact LayGo.hi (fun y hy => p y (List.mem_cons_of_mem _ hy)) g.2 b hb
theorem dpAll_intsV {H : Hp} (ns : List Int) : DpAll K H (ns.map V.int) (ns.map PyData.int) := by
  induction ns with
  | nil => exact .nil
  | cons n ns ih => exact .cons (.int n) ih
theorem len_rangeI (a b : Int) : (rangeI a b).length = (b - a).toNat := by
  unfold rangeI
  rw [List.length_map, List.length_range]
theorem ok_free (F : FnP K "free_starts" sFree f fd) (T : Bl mg) : FnOk P w K mg base CX0 1 f fd ["game", "layout", "size"] (spFree K) := by
  refine F.ok scFree (fun vs H Q E h => ?_) (fun cdv A outer s H vs Q E hr h => ?_)
  · obtain ⟨g, l, z, G, L, rfl, _⟩ := h
    rfl
  · obtain ⟨g, l, z, G, L, rfl, hg, ok, hl, lay, hz, hq⟩ := h
    refine ⟨_, PSs.nox (pss_cons (ps_par (i := 3) (j := 4) rfl scFree.nd rfl rfl (by decide) rfl rfl (pa_cons (pe_lst pa_nil) (pa_cons pe_int pa_nil)) (by rfl))
      (pss_cons (ps_for PassesOwn.never rfl (pi_list (pe_lst (pa_star (pv 1) (pa_cons (pe_tup (pa_cons (pe_ix ix_tup (pv 0) pe_int (fun _ _ => rfl)) (pa_cons pe_int pa_nil))) pa_nil)))) (pg_tup rfl (pgs_cons (pg_name (i := 5) scFree.nd rfl (Or.inl rfl)) (pgs_cons (pg_name (i := 6) scFree.nd rfl (Or.inl rfl)) pgs_nil)))
        (pss_cons (ps_expr (pe_bm PySem.F.plainAttrs_list PySem.F.slot_list_extend PySem.F.type_list_extend mt_extend (pv 3) (pa_cons (pe_listRg rfl (by rfl) T.list (prg_2 (by rfl) T.range (pv 4) (pe_op op_add (pe_op op_sub (pv 5) (pv 2)) pe_int))) pa_nil)))
          (pss_one (ps_set (i := 4) scFree.nd rfl (Or.inl rfl) (pe_op op_add (pv 5) (pv 6))))))
        (pss_one (ps_ret (pv 3))))), ?_⟩
    obtain ⟨p, xs, rfl, sq, da⟩ := dp_encL hl
    obtain ⟨gp, gq, rfl, sg, _⟩ := dp_encG hg
    have hlen := dpAll_len da
    rw [List.length_map] at hlen
    have pos := lay.pos ok
    have lm := lay.m
    have cm := ok.m
    have cc := ok.c
    refine ⟨by rw [sizeLine_eq]; show 0 ≤ 16777216; omega, fun fl nfl => ⟨_, _, rfl, ?_⟩⟩
    have s1 := same_upd (o := .lst []) nfl
    refine ⟨_, rfl, p, xs, rfl, .inl (sqT_same s1 sq), _, rfl, gp, _, 0, .int G.c, rfl, rfl, sqT_same s1 sg, rfl, by rw [sizeLine_eq]; show 2 ≤ 16777216; omega, fun b nb => ⟨by rw [sizeLine_eq, List.length_append]; show xs.length + 1 ≤ 16777216; omega, fun c nc => ?_⟩⟩
    have s2 := same_upd (o := .tup [.int G.c, .int 0]) nb
    have s3 := same_upd (o := .lst (xs ++ [.ref b])) nc
    have sA := (s1.trans s2).trans s3
    have hfl := s3 _ _ (s2 _ _ (upd_same (H := H) (a := fl) (o := .lst [])))
    have hc := upd_same (H := upd (upd H fl (.lst [])) b (.tup [.int G.c, .int 0])) (a := c) (o := .lst (xs ++ [.ref b]))
    have dr : DpAll K (upd (upd (upd H fl (.lst [])) b (.tup [.int G.c, .int 0])) c (.lst (xs ++ [.ref b]))) (xs ++ [.ref b]) ((L ++ [(G.c, 0)]).map encB) := by
      rw [List.map_append]
      exact dpAll_snoc (dpAll_same sA da) (dp_mkB (sqT_of (s3 _ _ upd_same)))
    generalize hH1 : upd (upd (upd H fl (.lst [])) b (.tup [.int G.c, .int 0])) c (.lst (xs ++ [.ref b])) = H1 at *
    have hcf : c ≠ fl := fun e => by rw [e, hfl] at hc; simp at hc
    refine ⟨c, rfl, ⟨_, sqL_of hc⟩, ?_⟩
    have hdr := dpAll_len dr
    rw [List.length_map] at hdr
    refine for_list (K := K) (xs := xs ++ [.ref b]) (fun i σ H' => ∃ t x5 x6 ns, σ = [some (.ref gp), some (.ref p), some (.int z), some (.ref fl), some (.int t), x5, x6] ∧ But fl H1 H' ∧ H' fl = some (.lst (ns.map V.int)) ∧ ns.length ≤ 200 * i ∧ 0 ≤ t ∧ t ≤ 12 ∧ ns ++ freeGo z t ((L ++ [(G.c, 0)]).drop i) = freeS G.c L z) ?_ (fun i σ H' hi p' => ?_) (fun i x σ H' hx p' => ?_) (fun σ H' p' => ?_)
    · exact ⟨0, _, _, [], rfl, But.refl _ _, hfl, by simp, by omega, by omega, rfl⟩
    · obtain ⟨t, x5, x6, ns, _, bt, _⟩ := p'
      exact sqL_of (bt _ _ hcf hc)
    · obtain ⟨t, x5, x6, ns, rfl, bt, hns, hnl, ht0, ht1, hfr⟩ := p'
      have hi : i < (xs ++ [V.ref b]).length := (List.getElem?_eq_some_iff.mp hx).1
      have hi2 : i < (L ++ [(G.c, (0 : Int))]).length := by omega
      obtain ⟨d, hd, dx⟩ := dpAll_get dr hx
      rw [List.getElem?_map, List.getElem?_eq_getElem hi2] at hd
      have hd' : encB (L ++ [(G.c, (0 : Int))])[i] = d := Option.some.inj hd
      subst hd'
      have hmem : (L ++ [(G.c, (0 : Int))])[i] ∈ L ++ [(G.c, (0 : Int))] := List.getElem_mem hi2
      rw [List.drop_eq_getElem_cons hi2] at hfr
      have hll : (L ++ [(G.c, (0 : Int))]).length = L.length + 1 := by simp
      generalize (L ++ [(G.c, (0 : Int))])[i] = bk at *
      have hb1 : 0 ≤ bk.1 ∧ 0 ≤ bk.2 ∧ bk.1 + bk.2 ≤ 12 ∧ bk.1 ≤ 12 := by
        rcases List.mem_append.mp hmem with hm | hm
        · have h1 := lay.go.lo pos _ hm
          have h2 := lay.go.hi pos _ hm
          have h3 := pos _ hm
          omega
        · rw [List.mem_singleton] at hm
          subst hm
          exact ⟨by show 0 ≤ G.c; omega, by show (0 : Int) ≤ 0; omega, by show G.c + 0 ≤ 12; omega, by show G.c ≤ 12; omega⟩
      obtain ⟨q, rfl, sq2⟩ := dp_encB dx
      have nofl : NoSeq fl H1 → SqT K H' q [.int bk.1, .int bk.2] := fun n => sqT_but n bt sq2
      have sq3 : SqT K H' q [.int bk.1, .int bk.2] := by
        rcases sq2 with (h | ⟨o, h⟩) | h
        · exact .inl (.inl (bt _ _ (ne_of h hfl (fun e => nomatch e)) h))
        · exact .inl (.inr ⟨o, bt _ _ (ne_of h hfl (fun e => nomatch e)) h⟩)
        · exact .inr h
      refine ⟨q, _, rfl, sq3, rfl, _, _, rfl, _, _, rfl, rfl, ?_⟩
      refine ⟨_, rfl, .inl ⟨rfl, _, sqL_of hns⟩, _, rfl, _, rfl, _, rfl, _, _, rfl, rfl, _, _, rfl, rfl, _, _, rfl, rfl, ⟨by omega, by omega, by omega, by omega, by omega⟩, fun r nr => ?_⟩
      have hrf : fl ≠ r := fun e => by rw [← e, hns] at nr; cases nr
      refine ⟨fl, r, _, _, rfl, rfl, by rw [upd_ne hrf]; exact hns, upd_same, ?_, ?_⟩
      · rw [rgV_length, List.length_map, sizeLine_eq]
        omega
      · refine ⟨_, rfl, _, rfl, _, _, rfl, rfl, ?_⟩
        refine ⟨bk.1 + bk.2, _, _, ns ++ rangeI t (bk.1 - z + 1), rfl, ?_, ?_, ?_, by omega, by omega, ?_⟩
        · exact bt.trans ((sameBut (same_upd nr)).trans but_upd)
        · rw [upd_same, rgV_eq, List.map_append]
        · rw [List.length_append, len_rangeI]
          omega
        · rw [List.append_assoc]
          rw [freeGo] at hfr
          exact hfr
    · obtain ⟨t, x5, x6, ns, rfl, bt, hns, hnl, ht0, ht1, hfr⟩ := p'
      rw [hdr, List.drop_length] at hfr
      have e : ns = freeS G.c L z := by rw [← hfr, freeGo, List.append_nil]
      refine ⟨_, rfl, hq _ fl _ (fun a o h => bt _ _ (ne_of_none h nfl) (sA _ _ h)) hns nfl ?_⟩
      rw [e]
      exact dpAll_intsV _
end
end K23
set_option maxHeartbeats 1000000
namespace K23
open PySem PySem.Spec PyProof.Rows L2 KSup NdefX StX KNest
/-! ### comprehensions over typed data -/
theorem filter_take_succB {β : Type} (keep : β → Bool) {bs : List β} {i : Nat} {b : β} (h : bs[i]? = some b) : (bs.take (i + 1)).filter keep = (bs.take i).filter keep ++ (if keep b = true then [b] else []) := by
  rw [List.take_add_one, h, Option.toList_some, List.filter_append]
  congr 1
  by_cases hk : keep b = true
  · rw [if_pos hk, List.filter_cons_of_pos hk, List.filter_nil]
  · rw [if_neg hk, List.filter_cons_of_neg hk, List.filter_nil]
section
variable {β : Type} {enc : β → PyData} {K : PySem.W.Frag} {a : Addr} {xs : List V} {bs : List β} {g : TG} {tt : TT} {te : TE} {vs : List Nat} {σ : L2.St} {H1 : Hp} {D : Addr} {Qd : Hp → Prop}
abbrev LcStepB (K : PySem.W.Frag) (enc : β → PyData) (bs : List β) (g : TG) (tt : TT) (te : TE) (vs : List Nat) (σ : L2.St) (H1 : Hp) (keep : β → Bool) (F : β → PyData) : Prop :=
  ∀ x b H, Same H1 H → Dp K H x (enc b) → b ∈ bs → ∀ (R : V → Hp → Prop) (S : Hp → Prop), (∀ y H', Same H H' → keep b = true → Dp K H' y (F b) → R y H') → (∀ H', Same H H' → keep b = false → S H') →
    g x (wipe σ vs) H fun σ2 H2 => wipe σ2 vs = wipe σ vs ∧ tt σ2 H2 fun b H3 => if b = true then te σ2 H3 R else S H3
def LcPB (K : PySem.W.Frag) (bs : List β) (H1 : Hp) (D : Addr) (keep : β → Bool) (F : β → PyData) (i : Nat) (H : Hp) : Prop :=
  Same H1 H ∧ ∃ ys, H D = some (.lst ys) ∧ DpAll K H ys (((bs.take i).filter keep).map F)
theorem lcPB_turn {keep : β → Bool} {F : β → PyData} (hlen : bs.length ≤ 1000000) (nD : H1 D = none) (hds : DpAll K H1 xs (bs.map enc)) (hF : ∀ b ∈ bs, keep b = true → tupOnly (F b) = true) (step : LcStepB K enc bs g tt te vs σ H1 keep F)
    (i : Nat) (x : V) (H : Hp) (hx : xs[i]? = some x) (p : LcPB K bs H1 D keep F i H) :
    g x (wipe σ vs) H fun σ2 H2 => wipe σ2 vs = wipe σ vs ∧ tt σ2 H2 fun b H3 =>
      if b = true then te σ2 H3 fun y H4 => ∃ acc, H4 D = some (.lst acc) ∧ acc.length < sizeLine ∧ LcPB K bs H1 D keep F (i + 1) (upd H4 D (.lst (acc ++ [y]))) else LcPB K bs H1 D keep F (i + 1) H3 := by
  obtain ⟨s1, ys, eD, hys⟩ := p
  obtain ⟨d, hd, hxd⟩ := dpAll_get hds hx
  rw [List.getElem?_map] at hd
  cases hb : bs[i]? with
  | none => rw [hb] at hd; cases hd
  | some b =>
  rw [hb] at hd
  cases hd
  refine step x b H s1 (dp_same s1 hxd) (List.mem_of_getElem? hb) _ _ (fun y H' s2 hk hy => ⟨ys, s2 _ _ eD, ?_, ?_⟩) (fun H' s2 hk => ?_)
  · rw [dpAll_len hys, List.length_map]
    have h1 := List.length_filter_le keep (bs.take i)
    have h2 : (bs.take i).length ≤ bs.length := List.length_take_le' _ _
    rw [sizeLine_eq]
    omega
  · have sU : Same H1 (upd H' D (.lst (ys ++ [y]))) := fun b o e => by
      have hb : b ≠ D := ne_of_none e nD
      rw [upd_ne hb]
      exact s2 _ _ (s1 _ _ e)
    refine ⟨sU, _, upd_same, ?_⟩
    rw [filter_take_succB keep hb, if_pos hk, List.map_append]
    refine dpAll_updL (s2 _ _ eD) (tupAll_of fun z hz => ?_) (dpAll_snoc (dpAll_same s2 hys) hy)
    rcases List.mem_append.mp hz with hz | hz
    · obtain ⟨z0, h0, rfl⟩ := List.mem_map.mp hz
      obtain ⟨h1, h2⟩ := List.mem_filter.mp h0
      exact hF _ (List.mem_of_mem_take h1) h2
    · rw [List.map_singleton, List.mem_singleton] at hz
      rw [hz]
      exact hF _ (List.mem_of_getElem? hb) hk
  · refine ⟨s1.trans s2, ys, s2 _ _ eD, ?_⟩
    rw [filter_take_succB keep hb, hk]
    simp only [Bool.false_eq_true, if_false, List.append_nil]
    exact dpAll_same s2 hys
theorem lcB_L {keep : β → Bool} {F : β → PyData} (hlen : bs.length ≤ 1000000) (hsrc : SqL K H1 a xs) (nD : H1 D = none) (hds : DpAll K H1 xs (bs.map enc)) (hF : ∀ b ∈ bs, keep b = true → tupOnly (F b) = true) (step : LcStepB K enc bs g tt te vs σ H1 keep F)
    (hd : ∀ H ys, Same H1 H → H D = some (.lst ys) → DpAll K H ys ((bs.filter keep).map F) → Qd H) :
    ∃ W : Nat → Nat → Hp → Prop, (∃ m, W 0 m (upd H1 D (.lst []))) ∧ ∀ i m H, W i m H →
      ((Itl K a).stop i H ∧ Qd H) ∨ ((Itl K a).go i H ∧ ∃ Nx : Hp → Prop, (∀ H', Nx H' → ∃ m', m' < m ∧ W (i + 1) m' H') ∧ ∀ x H', (Itl K a).yld i H x H' → g x (wipe σ vs) H' fun σ2 H2 => wipe σ2 vs = wipe σ vs ∧ tt σ2 H2 fun b H3 =>
        if b = true then te σ2 H3 fun y H4 => ∃ acc, H4 D = some (.lst acc) ∧ acc.length < sizeLine ∧ Nx (upd H4 D (.lst (acc ++ [y]))) else Nx H3) :=
  lc_list (K := K) (a := a) (xs := xs) (LcPB K bs H1 D keep F) ⟨same_upd nD, [], upd_same, .nil⟩ (fun i H hi p => p.1.seq hsrc) (fun i x H hx p => lcPB_turn hlen nD hds hF step i x H hx p) (fun H p => by
    obtain ⟨s1, ys, e, h⟩ := p
    rw [dpAll_len hds, List.length_map, List.take_length] at h
    exact hd H ys s1 e h)
theorem lcB_T {keep : β → Bool} {F : β → PyData} (hlen : bs.length ≤ 1000000) (hsrc : SqT K H1 a xs) (nD : H1 D = none) (hds : DpAll K H1 xs (bs.map enc)) (hF : ∀ b ∈ bs, keep b = true → tupOnly (F b) = true) (step : LcStepB K enc bs g tt te vs σ H1 keep F)
    (hd : ∀ H ys, Same H1 H → H D = some (.lst ys) → DpAll K H ys ((bs.filter keep).map F) → Qd H) :
    ∃ W : Nat → Nat → Hp → Prop, (∃ m, W 0 m (upd H1 D (.lst []))) ∧ ∀ i m H, W i m H →
      ((Itt K a).stop i H ∧ Qd H) ∨ ((Itt K a).go i H ∧ ∃ Nx : Hp → Prop, (∀ H', Nx H' → ∃ m', m' < m ∧ W (i + 1) m' H') ∧ ∀ x H', (Itt K a).yld i H x H' → g x (wipe σ vs) H' fun σ2 H2 => wipe σ2 vs = wipe σ vs ∧ tt σ2 H2 fun b H3 =>
        if b = true then te σ2 H3 fun y H4 => ∃ acc, H4 D = some (.lst acc) ∧ acc.length < sizeLine ∧ Nx (upd H4 D (.lst (acc ++ [y]))) else Nx H3) :=
  lc_tup (K := K) (a := a) (xs := xs) (LcPB K bs H1 D keep F) ⟨same_upd nD, [], upd_same, .nil⟩ (fun i H hi p => sqT_same p.1 hsrc) (fun i x H hx p => lcPB_turn hlen nD hds hF step i x H hx p) (fun H p => by
    obtain ⟨s1, ys, e, h⟩ := p
    rw [dpAll_len hds, List.length_map, List.take_length] at h
    exact hd H ys s1 e h)
end
theorem filter_ttB {β : Type} (bs : List β) : bs.filter (fun _ => true) = bs := List.filter_eq_self.mpr fun _ _ => rfl
theorem ints_of {K : PySem.W.Frag} {H : Hp} : ∀ {ns : List Int} {xs : List V}, DpAll K H xs (ns.map PyData.int) → xs = ns.map V.int
  | [], _, h => by cases h; rfl
  | n :: ns, _, h => by
    rw [List.map_cons] at h
    cases h with
    | cons h1 h2 =>
      cases h1
      rw [ints_of h2]
      rfl
theorem tupOnly_encB (b : Blk) : tupOnly (encB b) = true := by simp [encB, tupOnly, tupAll]
theorem tupOnly_encL (L : Lay) : tupOnly (encL L) = true := by
  unfold encL
  rw [tupOnly]
  exact tupAll_of fun d hd => by
    obtain ⟨b, _, rfl⟩ := List.mem_map.mp hd
    exact tupOnly_encB b
theorem tupOnly_encM (m : Mv) : tupOnly (encM m) = true := by cases m <;> simp [encM, tupOnly, tupAll]
theorem tupAll_map {β : Type} {f : β → PyData} (h : ∀ b, tupOnly (f b) = true) (bs : List β) : tupAll (bs.map f) = true := tupAll_of fun d hd => by
  obtain ⟨b, _, rfl⟩ := List.mem_map.mp hd
  exact h b
theorem dpAll_app {K : PySem.W.Frag} {H : Hp} : ∀ {xs ys : List V} {ds es : List PyData}, DpAll K H xs ds → DpAll K H ys es → DpAll K H (xs ++ ys) (ds ++ es)
  | [], _, [], _, _, h => h
  | x :: xs, _, d :: ds, _, .cons h1 h2, h => .cons h1 (dpAll_app h2 h)
theorem dp_mkM {K : PySem.W.Frag} {H : Hp} {p : Addr} {s : Str} {z : Int} (h : SqT K H p [.str s, .int z]) : Dp K H (.ref p) (.tuple [.str s, .int z]) := .tup h (.cons (.str _) (.cons (.int _) .nil))
section
variable {P : Program} {w : World} {K : PySem.W.Frag} {mg : Str → Option Value} {base : Heap} {f g g2 : Addr} {fd gd gd2 : FuncData}
/-! ### moves_at -/
def spMoves (K : PySem.W.Frag) : Sp := fun vs H Q _ => ∃ g l G L, vs = [g, l] ∧ Dp K H g (encG G) ∧ OkG G ∧ Dp K H l (encL L) ∧ L.length ≤ 1000 ∧ RetL K H ((movesAt G L).map encM) Q
theorem zs_len {G : Game} (ok : OkG G) : G.zs.length ≤ 3 := by
  have aux : ∀ (l : List Int) (lo : Int), l.Pairwise (· < ·) → (∀ z ∈ l, lo ≤ z ∧ z ≤ 3) → (l.length : Int) ≤ max 0 (4 - lo) := by
    intro l
    induction l with
    | nil => intro lo _ _; simp; omega
    | cons z r ih =>
      intro lo hp hz
      rw [List.pairwise_cons] at hp
      have h1 := ih (z + 1) hp.2 fun y hy => ⟨by have := hp.1 y hy; omega, (hz y (List.mem_cons_of_mem _ hy)).2⟩
      have h2 := hz z List.mem_cons_self
      rw [List.length_cons]
      omega
  have := aux G.zs 1 ok.up ok.zs
  omega
theorem ok_moves (F : FnP K "moves_at" sMoves f fd) (T : Bl mg) : FnOk P w K mg base CX0 1 f fd ["game", "layout"] (spMoves K) := by
  refine F.ok scMoves (fun vs H Q E h => ?_) (fun cdv A outer s H vs Q E hr h => ?_)
  · obtain ⟨g, l, G, L, rfl, _⟩ := h
    rfl
  · obtain ⟨g, l, G, L, rfl, hg, ok, hl, hn, hq⟩ := h
    refine ⟨_, PSs.nox (pss_cons (ps_setLc (i := 2) (own := [("start", 4), ("size", 5)]) (g := gTup K 2 (gCons (gName 4) (gCons (gName 5) gNil))) (tt := tYes) (by rfl) scMoves.nd rfl rfl (sw_true rfl rfl rfl (by decide +kernel)) (pi_tup (pv 1))
        (blkOk_by (N := ["game", "layout", "found", "cells", "start", "size"]) (sc := defScope sMoves) (by decide +kernel))
        (fun _ _ _ _ _ => pg_tup rfl (pgs_cons (pg_name (i := 4) scMoves.nd rfl (Or.inl rfl)) (pgs_cons (pg_name (i := 5) scMoves.nd rfl (Or.inl rfl)) pgs_nil))) (fun _ _ _ _ _ => pts_nil) (fun _ _ _ _ _ => pe_tup (pa_cons pe_str (pa_cons (pv 4) pa_nil))))
      (pss_cons (ps_if (pt_cmpR op_eq (pe_callB call_len_seq (by rfl) T.len PySem.boot_len (pa_cons (pv 1) pa_nil)) (pe_ix ix_tup (pv 0) pe_int (fun _ _ => rfl)) (nomark _)) (pss_one (ps_ret (pv 2))) pss_nil)
      (pss_cons (ps_set (i := 3) scMoves.nd rfl (Or.inr rfl) (pe_callB (cr_sum rfl) (by rfl) T.sum (by decide +kernel) (pa_cons (pe_lc (own := [("start", 4), ("size", 5)]) (g := gTup K 2 (gCons (gName 4) (gCons (gName 5) gNil))) (tt := tYes) rfl scMoves.nd (pi_tup (pv 1))
        (blkOk_by (N := ["game", "layout", "found", "cells", "start", "size"]) (sc := defScope sMoves) (by decide +kernel))
        (fun _ _ _ _ _ => pg_tup rfl (pgs_cons (pg_name (i := 4) scMoves.nd rfl (Or.inl rfl)) (pgs_cons (pg_name (i := 5) scMoves.nd rfl (Or.inl rfl)) pgs_nil))) (fun _ _ _ _ _ => pts_nil) (fun _ _ _ _ _ => pv 5)) pa_nil)))
      (pss_one (ps_ret (pe_lst (pa_star (pv 2) (pa_star (pe_lc (own := [("size", 5)]) (g := gName 5) rfl scMoves.nd (pi_tup (pe_ix ix_tup (pv 0) pe_int (fun _ _ => rfl)))
        (blkOk_by (N := ["game", "layout", "found", "cells", "start", "size"]) (sc := defScope sMoves) (by decide +kernel))
        (fun _ _ _ _ _ => pg_name (i := 5) scMoves.nd rfl (Or.inl rfl)) (fun _ _ _ _ _ => pts_one (pt_cmpR op_le (pe_op op_add (pv 3) (pv 5)) (pe_ix (show IxR _ (rIxT K) from ix_tup) (pv 0) pe_int (fun _ _ => rfl)) (nomark _))) (fun _ _ _ _ _ => pe_tup (pa_cons pe_str (pa_cons (pv 5) pa_nil)))) pa_nil)))))))), ?_⟩
    obtain ⟨p, xs, rfl, sq, da⟩ := dp_encL hl
    obtain ⟨gp, gq, rfl, sg, sz⟩ := dp_encG hg
    have hlen := dpAll_len da
    rw [List.length_map] at hlen
    have zl := zs_len ok
    -- found
    refine ⟨_, rfl, p, rfl, ⟨_, sq⟩, fun D nD => ?_⟩
    refine lcB_T (K := K) (bs := L) (enc := encB) (keep := fun _ => true) (F := fun b => encM (.give b.1)) (by omega) sq nD da (fun b _ _ => tupOnly_encM _) (fun x b H3 s3 hx hmem R S hR hS => ?_) (fun H2 ys s2 eD hys => ?_)
    · obtain ⟨q, rfl, sq2⟩ := dp_encB hx
      refine ⟨q, _, rfl, sq2, rfl, _, _, rfl, _, _, rfl, rfl, wipe_two _ 4 5 _ _, ?_⟩
      dsimp only [tYes]
      rw [if_pos rfl]
      refine ⟨_, rfl, by rw [sizeLine_eq]; show 2 ≤ 16777216; omega, fun r nr => ?_⟩
      exact hR _ _ (same_upd nr) rfl (dp_mkM (sqT_of upd_same))
    rw [filter_ttB] at hys
    -- if
    refine ⟨_, rfl, _, xs, rfl, .inr (sqT_same s2 sq), _, rfl, gp, _, 2, .int G.m, rfl, rfl, sqT_same s2 sg, rfl, rfl, _, rfl, ?_⟩
    rw [hlen]
    by_cases hm : (L.length : Int) = G.m
    · have e : decide (V.int (L.length : Int) = V.int G.m) = true := by rw [hm]; exact decide_eq_true rfl
      rw [e]
      refine iteT ⟨_, rfl, hq _ D ys s2 eD nD ?_⟩
      have e2 : movesAt G L = L.map fun b => Mv.give b.1 := by
        unfold movesAt wants
        rw [if_pos hm]
        simp
      rw [e2, List.map_map]
      exact hys
    · have e : decide (V.int (L.length : Int) = V.int G.m) = false := decide_eq_false fun z => hm (by injection z)
      rw [e]
      refine iteF ?_
      -- cells
      refine ⟨_, rfl, p, rfl, ⟨_, sqT_same s2 sq⟩, fun D2 nD2 => ?_⟩
      refine lcB_T (K := K) (bs := L) (enc := encB) (keep := fun _ => true) (F := fun b => .int b.2) (by omega) (sqT_same s2 sq) nD2 (dpAll_same s2 da) (fun b _ _ => rfl) (fun x b H3 s3 hx hmem R S hR hS => ?_) (fun H4 zs2 s4 eD2 hzs => ?_)
      · obtain ⟨q, rfl, sq2⟩ := dp_encB hx
        refine ⟨q, _, rfl, sq2, rfl, _, _, rfl, _, _, rfl, rfl, wipe_two _ 4 5 _ _, ?_⟩
        dsimp only [tYes]
        rw [if_pos rfl]
        exact ⟨_, rfl, hR _ _ (Same.refl _) rfl (.int _)⟩
      rw [filter_ttB] at hzs
      have ez : zs2 = (L.map (·.2)).map V.int := ints_of (by rw [List.map_map]; exact hzs)
      subst ez
      refine ⟨D2, _, rfl, sqL_of eD2, ?_⟩
      -- the list
      have s24 := s2.trans s4
      refine ⟨_, rfl, D, ys, rfl, .inr (sqL_of (s4 _ _ eD)), _, rfl, gp, _, 1, .ref gq, rfl, rfl, sqT_same s24 sg, rfl, gq, rfl, ⟨_, sqT_same s24 sz⟩, fun D3 nD3 => ?_⟩
      have dz : DpAll K H4 (G.zs.map V.int) (G.zs.map PyData.int) := dpAll_intsV _
      refine lcB_T (K := K) (bs := G.zs) (enc := PyData.int) (keep := fun z => decide (total L + z ≤ G.v)) (F := fun z => encM (.want z)) (by omega) (sqT_same s24 sz) nD3 dz (fun b _ _ => tupOnly_encM _) (fun x b H3 s3 hx hmem R S hR hS => ?_) (fun H5 ws s5 eD3 hws => ?_)
      · cases hx
        refine ⟨wipe_one _ 5 _, ?_⟩
        refine ⟨_, rfl, _, rfl, _, _, rfl, rfl, _, rfl, gp, _, 3, .int G.v, rfl, rfl, sqT_same (s24.trans s3) sg, rfl, _, _, rfl, rfl, _, rfl, ?_⟩
        show if decide (total L + b ≤ G.v) = true then _ else _
        cases hk : decide (total L + b ≤ G.v) with
        | true =>
          refine iteT ⟨_, rfl, by rw [sizeLine_eq]; show 2 ≤ 16777216; omega, fun r nr => ?_⟩
          exact hR _ _ (same_upd nr) hk (dp_mkM (sqT_of upd_same))
        | false => exact iteF (hS _ (Same.refl _) hk)
      have lw := dpAll_len hws
      have ly := dpAll_len hys
      rw [List.length_map] at lw ly
      have lw2 := List.length_filter_le (fun z => decide (total L + z ≤ G.v)) G.zs
      refine ⟨D3, ws, rfl, .inr (sqL_of eD3), ?_⟩
      refine ⟨by rw [sizeLine_eq, List.length_append, List.append_nil]; omega, fun q nq => ?_⟩
      have s6 := same_upd (o := .lst (ys ++ (ws ++ []))) nq
      have s46 := (s4.trans s5).trans s6
      have e6 := upd_same (H := H5) (a := q) (o := .lst (ys ++ (ws ++ [])))
      generalize upd H5 q (.lst (ys ++ (ws ++ []))) = H6 at s6 s46 e6 ⊢
      refine hq _ q _ (s2.trans s46) e6 ((s2.trans (s4.trans s5)).free nq) ?_
      have e2 : movesAt G L = (L.map fun b => Mv.give b.1) ++ (G.zs.filter fun z => decide (total L + z ≤ G.v)).map Mv.want := by
        unfold movesAt wants
        rw [if_neg hm]
      rw [e2, List.map_append, List.map_map, List.map_map, List.append_nil]
      exact dpAll_app (dpAll_same s46 hys) (dpAll_same s6 hws)
end
end K23
set_option maxHeartbeats 1000000
namespace K23
open PySem PySem.Spec PyProof.Rows L2 KSup NdefX StX KNest
section
variable {P : Program} {w : World} {K : PySem.W.Frag} {mg : Str → Option Value} {base : Heap} {f g1 g2 g3 : Addr} {fd gd1 gd2 gd3 : FuncData}
theorem dp_encM {H : Hp} {v : V} {m : Mv} (h : Dp K H v (encM m)) : ∃ p, v = .ref p ∧ ((∃ s, m = .give s ∧ SqT K H p [.str "give", .int s]) ∨ ∃ z, m = .want z ∧ SqT K H p [.str "want", .int z]) := by
  cases m with
  | give s =>
    unfold encM at h
    cases h with
    | tup sq a =>
      cases a with
      | cons h1 a =>
        cases a with
        | cons h2 a =>
          cases a
          cases h1
          cases h2
          exact ⟨_, rfl, .inl ⟨s, rfl, sq⟩⟩
  | want s =>
    unfold encM at h
    cases h with
    | tup sq a =>
      cases a with
      | cons h1 a =>
        cases a with
        | cons h2 a =>
          cases a
          cases h1
          cases h2
          exact ⟨_, rfl, .inr ⟨s, rfl, sq⟩⟩
theorem len_freeGo {c z : Int} : ∀ {L : Lay} {t : Int}, Pos1 L → LayGo c t L → 0 ≤ t → c ≤ 12 → 1 ≤ z → (freeGo z t (L ++ [(c, 0)])).length ≤ 12 * (L.length + 1)
  | [], t, _, g, h0, h1, hz => by
    show (rangeI t (c - z + 1) ++ []).length ≤ 12 * 1
    rw [List.append_nil, len_rangeI]
    omega
  | x :: r, t, p, g, h0, h1, hz => by
    have p' : Pos1 r := fun y hy => p y (List.mem_cons_of_mem _ hy)
    have ih := len_freeGo (z := z) p' g.2 (by have := p x List.mem_cons_self; have := g.1; omega) h1 hz
    rw [List.cons_append, freeGo, List.length_append, len_rangeI, List.length_cons]
    have := g.2.le p'
    have := p x List.mem_cons_self
    omega
theorem len_freeS {G : Game} {L : Lay} {z : Int} (ok : OkG G) (lay : IsLay G L) (hz : 1 ≤ z) : (freeS G.c L z).length ≤ 60 := by
  have h := len_freeGo (z := z) (lay.pos ok) lay.go (by omega) ok.c.2 hz
  have h1 := lay.m
  have h2 := ok.m
  unfold freeS
  omega
def spLed (K : PySem.W.Frag) : Sp := fun vs H Q _ => ∃ g l m G L mv, vs = [g, l, m] ∧ Dp K H g (encG G) ∧ OkG G ∧ Dp K H l (encL L) ∧ IsLay G L ∧ Dp K H m (encM mv) ∧ mv ∈ movesAt G L ∧ RetL K H ((ledTo G L mv).map encL) Q
theorem ok_led (F : FnP K "led_to" sLedTo f fd) (T : Bl mg)
    (G1 : FnOk P w K mg base CX0 1 g1 gd1 ["layout", "start", "size"] (spPutAt K)) (k1 : PySem.W.keepIn K (.ref g1) = true) (b1 : Binds K gd1 ["layout", "start", "size"] []) (m1 : mg "put_at" = some (.ref g1))
    (G2 : FnOk P w K mg base CX0 1 g2 gd2 ["game", "layout", "size"] (spFree K)) (k2 : PySem.W.keepIn K (.ref g2) = true) (b2 : Binds K gd2 ["game", "layout", "size"] []) (m2 : mg "free_starts" = some (.ref g2)) :
    FnOk P w K mg base CX0 2 f fd ["game", "layout", "move"] (spLed K) := by
  refine F.ok scLedTo (fun vs H Q E h => ?_) (fun cdv A outer s H vs Q E hr h => ?_)
  · obtain ⟨g, l, m, G, L, mv, rfl, _⟩ := h
    rfl
  · obtain ⟨g, l, m, G, L, mv, rfl, hg, ok, hl, lay, hm, hmv, hq⟩ := h
    refine ⟨_, PSs.nox (pss_cons (ps_asg (pv 2) (pg_tup rfl (pgs_cons (pg_name (i := 3) scLedTo.nd rfl (Or.inl rfl)) (pgs_cons (pg_name (i := 4) scLedTo.nd rfl (Or.inr rfl)) pgs_nil))))
      (pss_cons (ps_if (pt_cmpR op_eq (pv 3) pe_str (nomark _)) (pss_one (ps_ret (pe_lst (pa_cons (pe_callTy call_tuple_of (by rfl) T.tuple (by decide +kernel) (pa_cons (pe_lc (own := [("row", 5)]) (g := gName 5) rfl scLedTo.nd (pi_tup (pv 1))
          (blkOk_by (N := ["game", "layout", "move", "word", "what", "row", "start"]) (sc := defScope sLedTo) (by decide +kernel))
          (fun _ _ _ _ _ => pg_name (i := 5) scLedTo.nd rfl (Or.inl rfl)) (fun _ _ _ _ _ => pts_one (pt_cmpR op_ne (pe_ix (show IxR _ (rIxT K) from ix_tup) (pv 5) pe_int (fun _ _ => rfl)) (pv 4) (nomark _))) (fun _ _ _ _ _ => pv 5)) pa_nil)) pa_nil)))) pss_nil)
      (pss_one (ps_ret (pe_lc (own := [("start", 6)]) (g := gName 6) (tt := tYes) rfl scLedTo.nd (pi_list (pe_call G2 hr (by rfl) m2 k2 b2 .nil pass0 (pa_cons (pv 0) (pa_cons (pv 1) (pa_cons (pv 4) pa_nil)))))
          (blkOk_by (N := ["game", "layout", "move", "word", "what", "row", "start"]) (sc := defScope sLedTo) (by decide +kernel))
          (fun _ _ _ _ _ => pg_name (i := 6) scLedTo.nd rfl (Or.inl rfl)) (fun _ _ _ _ _ => pts_nil) (fun _ _ _ _ _ => pe_call G1 hr (by rfl) m1 k1 b1 .nil pass0 (pa_cons (pv 1) (pa_cons (pv 6) (pa_cons (pv 4) pa_nil))))))))), ?_⟩
    obtain ⟨p, xs, rfl, sq, da⟩ := dp_encL hl
    have hlen := dpAll_len da
    rw [List.length_map] at hlen
    have lm := lay.m
    have cm := ok.m
    obtain ⟨mp, rfl, ⟨s0, rfl, sm⟩ | ⟨z, rfl, sm⟩⟩ := dp_encM hm
    · refine ⟨_, rfl, mp, _, rfl, sm, rfl, _, _, rfl, _, _, rfl, rfl, ?_⟩
      refine ⟨_, rfl, rfl, _, rfl, iteT ?_⟩
      refine ⟨_, rfl, p, rfl, ⟨_, sq⟩, fun D nD => ?_⟩
      refine lcB_T (K := K) (bs := L) (enc := encB) (keep := fun b => decide (b.1 ≠ s0)) (F := encB) (by omega) sq nD da (fun b _ _ => tupOnly_encB _) (fun x b H3 s3 hx hmem R S hR hS => ?_) (fun H2 ys s2 eD hys => ?_)
      · obtain ⟨q, rfl, sq2⟩ := dp_encB hx
        refine ⟨wipe_one _ 5 _, ?_⟩
        refine ⟨_, rfl, q, _, 0, .int b.1, rfl, rfl, sq2, rfl, _, rfl, rfl, _, rfl, ?_⟩
        by_cases hb : b.1 = s0
        · have e : (!decide (V.int b.1 = V.int s0)) = false := by rw [hb]; simp
          rw [e]
          exact iteF (hS _ (Same.refl _) (by simp [hb]))
        · have e : (!decide (V.int b.1 = V.int s0)) = true := by
            have : ¬ V.int b.1 = V.int s0 := fun z => hb (by injection z)
            simp [this]
          rw [e]
          exact iteT ⟨_, rfl, hR _ _ (Same.refl _) (by simp [hb]) hx⟩
      have ly := dpAll_len hys
      refine ⟨D, ys, rfl, .inl ⟨sqL_of eD, fun q nq => ⟨by rw [sizeLine_eq]; show 1 ≤ 16777216; omega, fun r nr => ?_⟩⟩⟩
      have s5 := same_upd (o := .tup ys) nq
      have s6 := same_upd (o := .lst [.ref q]) nr
      refine hq _ r _ ((s2.trans s5).trans s6) upd_same ((s2.trans s5).free nr) ?_
      show DpAll K _ [V.ref q] [encL (dropS L s0)]
      exact .cons (.tup (sqT_of (s6 _ _ upd_same)) (dpAll_same (s5.trans s6) hys)) .nil
    · refine ⟨_, rfl, mp, _, rfl, sm, rfl, _, _, rfl, _, _, rfl, rfl, ?_⟩
      refine ⟨_, rfl, rfl, _, rfl, iteF ?_⟩
      have hz : z ∈ wants G L := by
        rcases mem_moves.mp hmv with ⟨b, _, e⟩ | ⟨z', hz', e⟩
        · cases e
        · cases e
          exact hz'
      have hzs := (mem_wants.mp hz).2.1
      have hz3 := ok.zs z hzs
      refine ⟨_, rfl, _, rfl, _, rfl, g, .ref p, z, G, L, rfl, hg, ok, hl, lay, hz3, fun H1 a fs s1 hfs na dfs => ?_⟩
      refine ⟨a, rfl, ⟨_, sqL_of hfs⟩, fun D nD => ?_⟩
      have lf := len_freeS ok lay hz3.1
      refine lcB_L (K := K) (bs := freeS G.c L z) (enc := PyData.int) (keep := fun _ => true) (F := fun st => encL (insB (st, z) L)) (by omega) (sqL_of hfs) nD dfs (fun b _ _ => tupOnly_encL _) (fun x b H3 s3 hx hmem R S hR hS => ?_) (fun H2 ys s2 eD hys => ?_)
      · cases hx
        refine ⟨wipe_one _ 6 _, ?_⟩
        dsimp only [tYes]
        rw [if_pos rfl]
        refine ⟨_, rfl, _, rfl, _, rfl, .ref p, b, z, L, rfl, dp_same (s1.trans s3) hl, by omega, lay.up ok, (free_facts ok lay hzs hmem).1, fun H' v s4 hv => hR _ _ s4 rfl hv⟩
      rw [filter_ttB] at hys
      refine hq _ D ys (s1.trans s2) eD (s1.free nD) ?_
      show DpAll K _ ys (((freeS G.c L z).map fun s => insB (s, z) L).map encL)
      rw [List.map_map]
      exact hys
end
end K23
set_option maxHeartbeats 1000000
namespace K23
open PySem PySem.Spec PyProof.Rows L2 KSup NdefX StX KNest
/-! ### shapes -/
theorem shp_B : ∀ L : Lay, PyData.canLayAll0 (L.map encB) = true ∧ PyData.depthAll (L.map encB) ≤ 1
  | [] => by simp [PyData.canLayAll0, PyData.depthAll]
  | b :: r => by
    obtain ⟨h1, h2⟩ := shp_B r
    rw [List.map_cons, PyData.canLayAll0, PyData.depthAll, h1]
    refine ⟨by simp [encB, PyData.canLay0, PyData.canLayAll0], ?_⟩
    have : (encB b).depth = 1 := by simp [encB, PyData.depth, PyData.depthAll]
    omega
theorem shp_L (L : Lay) : (encL L).canLay0 = true ∧ (encL L).depth ≤ 2 := by
  obtain ⟨h1, h2⟩ := shp_B L
  unfold encL
  rw [PyData.canLay0, PyData.depth]
  exact ⟨h1, by omega⟩
theorem shp_all {β : Type} {f : β → PyData} {n : Nat} (h : ∀ b, (f b).canLay0 = true ∧ (f b).depth ≤ n) : ∀ bs : List β, PyData.canLayAll0 (bs.map f) = true ∧ PyData.depthAll (bs.map f) ≤ n
  | [] => by simp [PyData.canLayAll0, PyData.depthAll]
  | b :: r => by
    obtain ⟨h1, h2⟩ := shp_all h r
    obtain ⟨h3, h4⟩ := h b
    rw [List.map_cons, PyData.canLayAll0, PyData.depthAll, h1, h3]
    exact ⟨rfl, by omega⟩
theorem shaped_lst {β : Type} {f : β → PyData} {n : Nat} (h : ∀ b, (f b).canLay0 = true ∧ (f b).depth ≤ n) (hn : n ≤ 60) (bs : List β) : SeqAt.shaped (.list (bs.map f)) = true := by
  obtain ⟨h1, h2⟩ := shp_all h bs
  unfold SeqAt.shaped
  rw [PyData.canLay0, h1, Bool.true_and, decide_eq_true_iff, PyData.depth]
  omega
theorem shaped_lays (Ls : List Lay) : SeqAt.shaped (.list (Ls.map encL)) = true := shaped_lst shp_L (by omega) Ls
/-! ### tables keyed by layouts -/
theorem mem_keyL {L : Lay} {Ls : List Lay} : keyL L ∈ Ls.map keyL ↔ L ∈ Ls := by
  rw [List.mem_map]
  constructor
  · rintro ⟨M, hM, e⟩
    rw [← keyL_inj e]
    exact hM
  · exact fun h => ⟨L, h, rfl⟩
theorem isSome_key {kvs : List (NK × V)} {k : NK} : (valV kvs k).isSome = decide (k ∈ kvs.map (·.1)) := by
  rw [← valV_any]
  rw [Bool.eq_iff_iff, List.any_eq_true, decide_eq_true_iff, List.mem_map]
  constructor
  · rintro ⟨x, hx, e⟩
    exact ⟨x, hx, of_decide_eq_true e⟩
  · rintro ⟨x, hx, e⟩
    exact ⟨x, hx, decide_eq_true e⟩
theorem isSome_lay {kvs : List (NK × V)} {Ls : List Lay} (h : kvs.map (·.1) = Ls.map keyL) (L : Lay) : (valV kvs (keyL L)).isSome = decide (L ∈ Ls) := by
  rw [isSome_key, h]
  exact decide_eq_decide.mpr mem_keyL
theorem putK_fresh {kvs : List (NK × V)} {k : NK} (v : V) (h : (valV kvs k).isSome = false) : putK kvs k v = kvs ++ [(k, v)] := by
  refine putK_new v ?_
  cases q : valV kvs k with
  | none => rfl
  | some x => rw [q] at h; cases h
def KL (F : List Lay) : List (NK × V) := F.map fun L => (keyL L, .bl true)
theorem keys_KL (F : List Lay) : (KL F).map (·.1) = F.map keyL := by
  unfold KL
  rw [List.map_map]
  rfl
theorem put_KL {F : List Lay} {L : Lay} (h : L ∉ F) : putK (KL F) (keyL L) (.bl true) = KL (F ++ [L]) := by
  rw [putK_fresh _ (by rw [isSome_lay (keys_KL F)]; exact decide_eq_false h)]
  unfold KL
  rw [List.map_append]
  rfl
theorem keyD_L {K : PySem.W.Frag} {H : Hp} {v : V} {L : Lay} (h : Dp K H v (encL L)) : KeyD K H v (keyL L) := by
  obtain ⟨p, xs, rfl, _, _⟩ := dp_encL h
  exact ⟨p, rfl, by rw [data_keyL]; exact h, depth_keyL L⟩
/-! ### heaps where some objects, no tuples, may be others -/
def NoTup (x : Addr) (H : Hp) : Prop := ∀ xs, H x ≠ some (.tup xs) ∧ ∀ o, H x ≠ some (.frz o (.tup xs))
def Kp (ex : List Addr) (H H' : Hp) : Prop := ∀ b o, b ∉ ex → H b = some o → H' b = some o
theorem Kp.refl {ex : List Addr} {H : Hp} : Kp ex H H := fun _ _ _ h => h
theorem Kp.trans {ex : List Addr} {H H1 H2 : Hp} (a : Kp ex H H1) (b : Kp ex H1 H2) : Kp ex H H2 := fun c o n h => b c o n (a c o n h)
theorem same_kp {ex : List Addr} {H H1 : Hp} (s : Same H H1) : Kp ex H H1 := fun c o _ h => s c o h
theorem but_kp {x : Addr} {ex : List Addr} {H H1 : Hp} (b : But x H H1) (hx : x ∈ ex) : Kp ex H H1 := fun c o n h => b c o (fun e => n (e ▸ hx)) h
theorem kp_upd {x : Addr} {ex : List Addr} {H : Hp} {o : HO} (hx : x ∈ ex) : Kp ex H (upd H x o) := fun c u n h => by rw [upd_ne (show c ≠ x from fun e => n (by rw [e]; exact hx))]; exact h
theorem Kp.same {ex : List Addr} {H H' : Hp} (k : Kp ex H H') (h : ∀ x ∈ ex, H x = none) : Same H H' := fun b o e => k b o (fun z => by rw [h b z] at e; cases e) e
theorem noTup_lst {x : Addr} {H : Hp} {xs : List V} (h : H x = some (.lst xs)) : NoTup x H := fun ys => by
  rw [h]
  exact ⟨(fun e => nomatch e), fun o => (fun e => nomatch e)⟩
theorem hn_noTup {w : World} {K : PySem.W.Frag} {H : Hp} {a : Addr} {kvs : List (NK × V)} (h : HN w K H a kvs) : NoTup a H := by
  obtain ⟨xs, e, _⟩ := h
  intro ys
  rw [e]
  exact ⟨(fun e => nomatch e), fun o => (fun e => nomatch e)⟩
section
variable {K : PySem.W.Frag} {H H' : Hp} {ex : List Addr}
theorem sqT_kp (k : Kp ex H H') (n : ∀ x ∈ ex, NoTup x H) {p : Addr} {xs : List V} (h : SqT K H p xs) : SqT K H' p xs := by
  rcases h with (h | ⟨o, h⟩) | h
  · exact .inl (.inl (k _ _ (fun z => (n _ z xs).1 h) h))
  · exact .inl (.inr ⟨o, k _ _ (fun z => (n _ z xs).2 o h) h⟩)
  · exact .inr h
mutual
theorem dp_kp (k : Kp ex H H') (n : ∀ x ∈ ex, NoTup x H) : ∀ {d : PyData} {v : V}, tupOnly d = true → Dp K H v d → Dp K H' v d
  | .none, _, _, h => by cases h; exact .non
  | .bool b, _, _, h => by cases h; exact .bl b
  | .int i, _, _, h => by cases h; exact .int i
  | .str x, _, _, h => by cases h; exact .str x
  | .list ds, _, t, h => by rw [tupOnly] at t; cases t
  | .tuple ds, _, t, h => by
    cases h with
    | tup s a => exact .tup (sqT_kp k n s) (dpAll_kp k n (tupOnly_tuple t) a)
  | .dict _, _, _, h => by cases h
theorem dpAll_kp (k : Kp ex H H') (n : ∀ x ∈ ex, NoTup x H) : ∀ {ds : List PyData} {vs : List V}, tupAll ds = true → DpAll K H vs ds → DpAll K H' vs ds
  | [], _, _, h => by cases h; exact .nil
  | d :: ds, _, t, h => by
    cases h with
    | cons h1 h2 => exact .cons (dp_kp k n (tupAll_cons t).1 h1) (dpAll_kp k n (tupAll_cons t).2 h2)
end
mutual
theorem tupOnly_data : ∀ k : NestedKey, tupOnly k.data = true
  | .none => by rw [NestedKey.data]; rfl
  | .num i => by rw [NestedKey.data]; rfl
  | .text x => by rw [NestedKey.data]; rfl
  | .tup ks => by
    rw [NestedKey.data, tupOnly]
    exact tupAll_datas ks
theorem tupAll_datas : ∀ ks : List NestedKey, tupAll (NestedKey.datas ks) = true
  | [] => by rw [NestedKey.datas]; rfl
  | k :: ks => by
    rw [NestedKey.datas, tupAll, tupOnly_data k, tupAll_datas ks]
    rfl
end
theorem hn_kp {w : World} {a : Addr} {kvs : List (NK × V)} (k : Kp ex H H') (n : ∀ x ∈ ex, NoTup x H) (ha : a ∉ ex) (h : HN w K H a kvs) : HN w K H' a kvs := by
  obtain ⟨xs, e, nk, m⟩ := h
  exact ⟨xs, k _ _ ha e, fun y hy => ⟨dp_kp k n (tupOnly_data _) (nk y hy).1, (nk y hy).2⟩, m⟩
end
end K23
set_option maxHeartbeats 1000000
namespace K23
open PySem PySem.Spec PyProof.Rows L2 KSup NdefX StX KNest
structure Co (mg : Str → Option Value) : Prop where
  cells : ∃ t, mg "MOST_CELLS" = some (.int 12 t)
  kinds : ∃ t, mg "MOST_KINDS" = some (.int 3 t)
  size : ∃ t, mg "MOST_SIZE" = some (.int 3 t)
  regs : ∃ t, mg "MOST_REGISTERS" = some (.int 4 t)
  lays : ∃ t, mg "MOST_LAYOUTS" = some (.int 6000 t)
/-- closed under the moves from these layouts -/
def Shuts (G : Game) (Ls F : List Lay) : Prop := ∀ L ∈ Ls, ∀ m ∈ movesAt G L, ∀ o ∈ ledTo G L m, o ∈ F
theorem Shuts.mono {G : Game} {Ls F F' : List Lay} (h : Shuts G Ls F) (s : ∀ x ∈ F, x ∈ F') : Shuts G Ls F' := fun L hL m hm o ho => s _ (h L hL m hm o ho)
section
variable {P : Program} {w : World} {K : PySem.W.Frag} {mg : Str → Option Value} {base : Heap} {f g1 g2 g3 : Addr} {fd gd1 gd2 gd3 : FuncData}
/-- what was found, and what of it is later -/
structure LC (w : World) (K : PySem.W.Frag) (G : Game) (H1 : Hp) (fd lt : Addr) (F0 : List Lay) (H' : Hp) (F Lt : List Lay) : Prop where
  kp : Kp [fd, lt] H1 H'
  hn : HN w K H' fd (KL F)
  lt : ∃ ys, H' lt = some (.lst ys) ∧ DpAll K H' ys (Lt.map encL)
  ef : F = F0 ++ Lt
  nd : F.Nodup
  re : ∀ L ∈ F, Reach G L
theorem LC.noTups {G : Game} {H1 H' : Hp} {fd lt : Addr} {F0 F Lt : List Lay} (h : LC w K G H1 fd lt F0 H' F Lt) : ∀ x ∈ [fd, lt], NoTup x H' := by
  intro x hx
  rw [List.mem_cons, List.mem_singleton] at hx
  rcases hx with rfl | rfl
  · exact hn_noTup h.hn
  · obtain ⟨ys, e, _⟩ := h.lt
    exact noTup_lst e
theorem LC.same {G : Game} {H1 H' H2 : Hp} {fd lt : Addr} {F0 F Lt : List Lay} (h : LC w K G H1 fd lt F0 H' F Lt) (s : Same H' H2) : LC w K G H1 fd lt F0 H2 F Lt := by
  obtain ⟨ys, e, d⟩ := h.lt
  exact ⟨h.kp.trans (same_kp s), h.hn.same s, ⟨ys, s _ _ e, dpAll_same s d⟩, h.ef, h.nd, h.re⟩
def spLayouts (K : PySem.W.Frag) : Sp := fun vs H Q _ => ∃ g G, vs = [g] ∧ Dp K H g (encG G) ∧ OkG G ∧ Small G ∧
  ∀ (H' : Hp) (a : Addr) (xs : List V) (Ls : List Lay), Same H H' → H' a = some (.lst xs) → H a = none → DpAll K H' xs (Ls.map encL) → Ls.Nodup → (∀ L, L ∈ Ls ↔ Reach G L) → Q (.ref a) H'
theorem tupAll_lays (Ls : List Lay) : tupAll (Ls.map encL) = true := tupAll_map tupOnly_encL Ls
theorem len_moves {G : Game} {L : Lay} (ok : OkG G) (lay : IsLay G L) : (movesAt G L).length ≤ 7 := by
  have h1 := lay.m
  have h2 := ok.m
  have h3 := zs_len ok
  unfold movesAt wants
  rw [List.length_append, List.length_map, List.length_map]
  split
  · simp
    omega
  · have := List.length_filter_le (fun z => decide (total L + z ≤ G.v)) G.zs
    omega
theorem ok_layouts (F : FnP K "layouts_of" sLayouts f fd) (T : Bl mg) (co : Co mg)
    (G1 : FnOk P w K mg base CX0 1 g1 gd1 ["game", "layout"] (spMoves K)) (k1 : PySem.W.keepIn K (.ref g1) = true) (b1 : Binds K gd1 ["game", "layout"] []) (m1 : mg "moves_at" = some (.ref g1))
    (G2 : FnOk P w K mg base CX0 2 g2 gd2 ["game", "layout", "move"] (spLed K)) (k2 : PySem.W.keepIn K (.ref g2) = true) (b2 : Binds K gd2 ["game", "layout", "move"] []) (m2 : mg "led_to" = some (.ref g2)) :
    FnOk P w K mg base CX0 3 f fd ["game"] (spLayouts K) := by
  obtain ⟨tl, hml⟩ := co.lays
  refine F.ok scLayouts (fun vs H Q E h => ?_) (fun cdv A outer s H vs Q E hr h => ?_)
  · obtain ⟨g, G, rfl, _⟩ := h
    rfl
  · obtain ⟨g, G, rfl, hg, ok, small, hq⟩ := h
    have r1 : Room 1 (A.deeper (envOfC _ _ s.heap.objs.size f cdv)) := hr.mono (by omega)
    refine ⟨_, PSs.nox (pss_cons (ps_par (i := 1) (j := 2) rfl scLayouts.nd rfl rfl (by decide) rfl rfl (pa_cons (pe_disp1N hr.units (pe_tup pa_nil) pe_bl) (pa_cons (pe_lst (pa_cons (pe_tup pa_nil) pa_nil)) pa_nil)) (by rfl))
      (pss_cons (ps_while PassesOwn.never (pt_cmpR (op_neD hr.units) (pv 2) (pe_lst pa_nil) (nomark _))
        (pss_cons (ps_set (i := 3) scLayouts.nd rfl (Or.inl rfl) (pe_lst pa_nil))
        (pss_cons (ps_for PassesOwn.never rfl (pi_list (pv 2)) (pg_name (i := 4) scLayouts.nd rfl (Or.inl rfl))
          (pss_one (ps_for PassesOwn.never rfl (pi_list (pe_call G1 r1 (by rfl) m1 k1 b1 .nil pass0 (pa_cons (pv 0) (pa_cons (pv 4) pa_nil)))) (pg_name (i := 5) scLayouts.nd rfl (Or.inl rfl))
            (pss_one (ps_for PassesOwn.never rfl (pi_list (pe_call G2 hr (by rfl) m2 k2 b2 .nil pass0 (pa_cons (pv 0) (pa_cons (pv 4) (pa_cons (pv 5) pa_nil))))) (pg_name (i := 6) scLayouts.nd rfl (Or.inl rfl))
              (pss_one (ps_if (pt_cmp (pc_nnotin hr.units (pv 6) (pv 1)) (by with_unfolding_all rfl))
                (pss_cons (ps_nput hr.units (pv 1) (pv 6) pe_bl rfl) (pss_one (ps_expr (pe_bm PySem.F.plainAttrs_list PySem.F.slot_list_append PySem.F.type_list_append mt_append (pv 3) (pa_cons (pv 6) pa_nil))))) pss_nil)))))))
        (pss_cons (ps_if (pt_cmpR op_gt (pe_callB (show CallR _ _ (rLenN w K) from call_lenN) (by rfl) T.len PySem.boot_len (pa_cons (pv 1) pa_nil)) (pe_glob (v := .int 6000) (by rfl) hml ⟨tl, rfl⟩) (nomark _)) pss_never pss_nil)
        (pss_one (ps_set (i := 2) scLayouts.nd rfl (Or.inl rfl) (pv 3)))))))
      (pss_one (ps_ret (pe_callTy (show CallR _ _ (rListN w) from call_listN rfl) (by rfl) T.list (by decide +kernel) (pa_cons (pv 1) pa_nil))))))  , ?_⟩
    obtain ⟨gp, gq, rfl, sg, sz⟩ := dp_encG hg
    -- found, line
    intro fd nfd
    refine ⟨by rw [sizeLine_eq]; show 0 ≤ 16777216; omega, fun e0 ne0 => ⟨keyL [], ?_, ?_, fun H1 b1 hn1 => ?_⟩⟩
    · rw [upd_ne (ne_of_none upd_same ne0)]
      exact upd_same
    · exact keyD_L (.tup (sqT_of upd_same) .nil)
    have sA : Same H (upd (upd H fd (dN w fd [])) e0 (.tup [])) := (same_upd nfd).trans (same_upd ne0)
    have sB : Same H H1 := fun b o e => b1 _ _ (ne_of_none e nfd) (sA _ _ e)
    refine ⟨by rw [sizeLine_eq]; show 0 ≤ 16777216; omega, fun e1 ne1 => ⟨by rw [sizeLine_eq]; show 1 ≤ 16777216; omega, fun l0 nl0 => ⟨_, _, rfl, ?_⟩⟩⟩
    have s2 := same_upd (o := .tup []) ne1
    have s3 := same_upd (o := .lst [.ref e1]) nl0
    have hfd0 : ∃ o, H1 fd = some o := let ⟨ys, e, _⟩ := hn1; ⟨_, e⟩
    -- the loop
    refine ⟨fun m σ H' => ∃ (ll : Addr) (F Ln : List Lay) (x3 x4 x5 x6 : Option V) (ys : List V), σ = [some (.ref gp), some (.ref fd), some (.ref ll), x3, x4, x5, x6] ∧ Same H H' ∧ HN w K H' fd (KL F) ∧ H' ll = some (.lst ys) ∧ DpAll K H' ys (Ln.map encL) ∧ F.Nodup ∧ (∀ L ∈ F, Reach G L) ∧ [] ∈ F ∧ (∀ L ∈ Ln, L ∈ F) ∧
      Shuts G (F.filter fun L => decide (L ∉ Ln)) F ∧ m = 2 * (6000 - F.length) + (if Ln = [] then 0 else 1), ⟨_, l0, [[]], [[]], _, _, _, _, [.ref e1], rfl, (sB.trans s2).trans s3, ?_, upd_same, ?_, ?_, ?_, ?_, ?_, ?_, rfl⟩, ?_⟩
    · exact (hn1.same s2).same s3
    · exact .cons (.tup (sqT_of (s3 _ _ upd_same)) .nil) .nil
    · simp
    · intro L hL
      rw [List.mem_singleton] at hL
      subst hL
      exact .nil
    · exact List.mem_singleton.mpr rfl
    · exact fun L hL => hL
    · intro L hL
      simp at hL
    rintro m σ H2 ⟨ll, F, Ln, x3, x4, x5, x6, ys, rfl, sH, hn2, hll, dl, nd, re, hnil, hsub, shut, rfl⟩
    refine ⟨_, rfl, by rw [sizeLine_eq]; show 0 ≤ 16777216; omega, fun l1 nl1 => ?_⟩
    have s4 := same_upd (o := .lst []) nl1
    refine ⟨.list (Ln.map encL), .list [], .lst (sqL_of (s4 _ _ hll)) (dpAll_same s4 dl), .lst (sqL_of upd_same) .nil, shaped_lays Ln, by decide +kernel, _, rfl, ?_⟩
    have hF6 : F.length ≤ 6000 := small F nd fun L hL => (re L hL).lay ok
    cases Ln with
    | nil =>
      -- the end
      obtain ⟨rs, e5, nk5, mk5⟩ := hn2.same s4
      refine ⟨_, rfl, fd, rs, rfl, .inl e5, fun r nr => ?_⟩
      have s5 := same_upd (o := .lst (rs.map fun x => V.ref x.2.1)) nr
      refine hq _ r _ F ((sH.trans s4).trans s5) upd_same ((sH.trans s4).free nr) ?_ nd fun L => ⟨re L, fun hL => ?_⟩
      · refine dpAll_same s5 ?_
        have aux : ∀ (rs : List NRow) (F : List Lay), NKeys K (upd H2 l1 (.lst [])) rs → rs.map prN = KL F → DpAll K (upd H2 l1 (.lst [])) (rs.map fun x => V.ref x.2.1) (F.map encL) := by
          intro rs
          induction rs with
          | nil =>
            intro F _ h
            cases F with
            | nil => exact .nil
            | cons a b => simp [KL] at h
          | cons x rs ih =>
            intro F n h
            cases F with
            | nil => simp [KL] at h
            | cons L F =>
              unfold KL at h
              rw [List.map_cons, List.map_cons] at h
              injection h with h1 h2
              rw [List.map_cons, List.map_cons]
              refine .cons ?_ (ih F (fun y hy => n y (List.mem_cons_of_mem _ hy)) h2)
              have h3 := (n x List.mem_cons_self).1
              have h4 : x.1 = keyL L := congrArg Prod.fst h1
              rw [h4, data_keyL] at h3
              exact h3
        exact aux rs F nk5 mk5
      · induction hL with
        | nil => exact hnil
        | @step L o m hL hm ho ih => exact shut L (List.mem_filter.mpr ⟨ih, by simp⟩) m hm o ho
    | cons L0 Lr =>
      refine iteT ?_
      refine ⟨fun σ' H' => ∃ (ll : Addr) (F' Ln' : List Lay) (x3 x4 x5 x6 : Option V) (ys : List V), σ' = [some (.ref gp), some (.ref fd), some (.ref ll), x3, x4, x5, x6] ∧ Same H H' ∧ HN w K H' fd (KL F') ∧ H' ll = some (.lst ys) ∧ DpAll K H' ys (Ln'.map encL) ∧ F'.Nodup ∧ (∀ L ∈ F', Reach G L) ∧ [] ∈ F' ∧ (∀ L ∈ Ln', L ∈ F') ∧
        Shuts G (F'.filter fun L => decide (L ∉ Ln')) F' ∧ F'.length = F.length + Ln'.length, ?_, ?_⟩
      · rintro σ' H' ⟨ll, F', Ln', x3, x4, x5, x6, ys, h1, h2, h3, h4, h5, h6, h7, h8, h9, h10, h11⟩
        refine ⟨_, ?_, ll, F', Ln', x3, x4, x5, x6, ys, h1, h2, h3, h4, h5, h6, h7, h8, h9, h10, rfl⟩
        have := small F' h6 fun L hL => (h7 L hL).lay ok
        rw [if_neg (show ¬ L0 :: Lr = [] from fun z => nomatch z)]
        split
        · rename_i e
          subst e
          rw [List.length_nil] at h11
          omega
        · rename_i e
          have := List.length_pos_iff.mpr e
          omega
      -- one round
      refine ⟨by rw [sizeLine_eq]; show 0 ≤ 16777216; omega, fun lt nlt => ?_⟩
      have s5 := same_upd (o := .lst []) nlt
      have s45 := s4.trans s5
      have hltE := upd_same (H := upd H2 l1 (.lst [])) (a := lt) (o := .lst [])
      generalize hH3 : upd (upd H2 l1 (.lst [])) lt (.lst []) = H3 at s5 s45 hltE ⊢
      have hll3 := s45 _ _ hll
      have dl3 := dpAll_same s45 dl
      have hn3 := hn2.same s45
      have sH3 := sH.trans s45
      have nltH2 : H2 lt = none := s4.free nlt
      have nltH : H lt = none := sH.free nltH2
      have llt : ll ≠ lt := ne_of_none hll nltH2
      have llf : ll ≠ fd := by
        obtain ⟨q, e, _⟩ := hn2
        exact ne_of hll e (fun z => nomatch z)
      have ex0 : ∀ x ∈ [fd, lt], NoTup x H3 := by
        intro x hx
        rw [List.mem_cons, List.mem_singleton] at hx
        rcases hx with rfl | rfl
        · exact hn_noTup hn3
        · exact noTup_lst hltE
      have exH : ∀ x ∈ [fd, lt], H x = none := by
        intro x hx
        rw [List.mem_cons, List.mem_singleton] at hx
        rcases hx with rfl | rfl
        · exact nfd
        · exact nltH
      have lc0 : LC w K G H3 fd lt F H3 F [] := ⟨Kp.refl, hn3, ⟨[], hltE, .nil⟩, by rw [List.append_nil], nd, re⟩
      have hdl := dpAll_len dl
      rw [List.length_map] at hdl
      have geG : ∀ {H' : Hp} {F' Lt : List Lay}, LC w K G H3 fd lt F H' F' Lt → Dp K H' (.ref gp) (encG G) := fun h => dp_kp h.kp ex0 (by simp [encG, tupOnly, tupAll]; exact tupAll_map (fun _ => rfl) _) (dp_same sH3 hg)
      refine ⟨_, rfl, ll, rfl, ⟨_, sqL_of hll3⟩, ?_⟩
      refine for_list (K := K) (xs := ys) (fun i σ H' => ∃ x4 x5 x6 F' Lt, σ = [some (.ref gp), some (.ref fd), some (.ref ll), some (.ref lt), x4, x5, x6] ∧ LC w K G H3 fd lt F H' F' Lt ∧ Shuts G ((L0 :: Lr).take i) F') ?_ (fun i σ H' hi p => ?_) (fun i x σ H' hx p => ?_) (fun σ H' p => ?_)
      · exact ⟨_, _, _, F, [], rfl, lc0, fun L hL => by simp at hL⟩
      · obtain ⟨_, _, _, F', Lt, _, lc, _⟩ := p
        exact sqL_of (lc.kp _ _ (by simp [llt, llf]) hll3)
      · obtain ⟨x4, x5, x6, F', Lt, rfl, lc, sh⟩ := p
        obtain ⟨d, hd, hxd⟩ := dpAll_get dl3 hx
        rw [List.getElem?_map] at hd
        cases hL : (L0 :: Lr)[i]? with
        | none => rw [hL] at hd; cases hd
        | some L =>
        rw [hL] at hd
        cases hd
        have hLm : L ∈ L0 :: Lr := List.mem_of_getElem? hL
        have hLF : L ∈ F := hsub L hLm
        have hre := re L hLF
        have lay := hre.lay ok
        have hx4 : Dp K H' x (encL L) := dp_kp lc.kp ex0 (tupOnly_encL L) hxd
        have c4 := ok.m
        have lm := lay.m
        refine ⟨_, rfl, _, rfl, .ref gp, x, G, L, rfl, geG lc, ok, hx4, by omega, fun H4 a1 ms s6 hms na1 dms => ?_⟩
        have lc4 := lc.same s6
        refine ⟨a1, rfl, ⟨_, sqL_of hms⟩, ?_⟩
        have a1n : a1 ∉ [fd, lt] := by
          intro hx
          rw [List.mem_cons, List.mem_singleton] at hx
          rcases hx with rfl | rfl
          · obtain ⟨q, e, _⟩ := lc.hn
            rw [e] at na1
            cases na1
          · obtain ⟨q, e, _⟩ := lc.lt
            rw [e] at na1
            cases na1
        have hml := dpAll_len dms
        rw [List.length_map] at hml
        refine for_list (K := K) (xs := ms) (fun k σ H' => ∃ x5 x6 F' Lt, σ = [some (.ref gp), some (.ref fd), some (.ref ll), some (.ref lt), some x, x5, x6] ∧ LC w K G H3 fd lt F H' F' Lt ∧ Kp [fd, lt] H4 H' ∧ Shuts G ((L0 :: Lr).take i) F' ∧ ∀ m ∈ (movesAt G L).take k, ∀ o ∈ ledTo G L m, o ∈ F') ?_ (fun k σ H' hk p => ?_) (fun k y σ H5 hy p => ?_) (fun σ H' p => ?_)
        · exact ⟨_, _, F', Lt, rfl, lc4, Kp.refl, sh, fun m hm => by simp at hm⟩
        · obtain ⟨_, _, F'', Lt', _, _, kp, _⟩ := p
          exact sqL_of (kp _ _ a1n hms)
        · obtain ⟨y5, y6, F5, Lt5, rfl, lc5, kp5, sh5, dn5⟩ := p
          obtain ⟨d, hd, hyd⟩ := dpAll_get dms hy
          rw [List.getElem?_map] at hd
          cases hM : (movesAt G L)[k]? with
          | none => rw [hM] at hd; cases hd
          | some mv =>
          rw [hM] at hd
          cases hd
          have hmv : mv ∈ movesAt G L := List.mem_of_getElem? hM
          have hx5 : Dp K H5 x (encL L) := dp_kp lc5.kp ex0 (tupOnly_encL L) hxd
          have hy5 : Dp K H5 y (encM mv) := dp_kp kp5 lc4.noTups (tupOnly_encM mv) hyd
          refine ⟨_, rfl, _, rfl, _, rfl, .ref gp, x, y, G, L, mv, rfl, geG lc5, ok, hx5, lay, hy5, hmv, fun H6 a2 os s7 hos na2 dos => ?_⟩
          have lc6 := lc5.same s7
          refine ⟨a2, rfl, ⟨_, sqL_of hos⟩, ?_⟩
          have a2n : a2 ∉ [fd, lt] := by
            intro hx
            rw [List.mem_cons, List.mem_singleton] at hx
            rcases hx with rfl | rfl
            · obtain ⟨q, e, _⟩ := lc5.hn
              rw [e] at na2
              cases na2
            · obtain ⟨q, e, _⟩ := lc5.lt
              rw [e] at na2
              cases na2
          have hol := dpAll_len dos
          rw [List.length_map] at hol
          refine for_list (K := K) (xs := os) (fun t σ H' => ∃ x6 F' Lt, σ = [some (.ref gp), some (.ref fd), some (.ref ll), some (.ref lt), some x, some y, x6] ∧ LC w K G H3 fd lt F H' F' Lt ∧ Kp [fd, lt] H4 H' ∧ Kp [fd, lt] H6 H' ∧ Shuts G ((L0 :: Lr).take i) F' ∧ (∀ m ∈ (movesAt G L).take k, ∀ o ∈ ledTo G L m, o ∈ F') ∧ ∀ o ∈ (ledTo G L mv).take t, o ∈ F') ?_ (fun t σ H' ht p => ?_) (fun t z σ H7 hz p => ?_) (fun σ H' p => ?_)
          · exact ⟨_, F5, Lt5, rfl, lc6, kp5.trans (same_kp s7), Kp.refl, sh5, dn5, fun o ho => by simp at ho⟩
          · obtain ⟨_, _, _, _, _, _, kp, _⟩ := p
            exact sqL_of (kp _ _ a2n hos)
          · obtain ⟨z6, F7, Lt7, rfl, lc7, kp74, kp7, sh7, dn7, in7⟩ := p
            obtain ⟨d, hd, hzd⟩ := dpAll_get dos hz
            rw [List.getElem?_map] at hd
            cases hO : (ledTo G L mv)[t]? with
            | none => rw [hO] at hd; cases hd
            | some o =>
            rw [hO] at hd
            cases hd
            have hom : o ∈ ledTo G L mv := List.mem_of_getElem? hO
            have hz7 : Dp K H7 z (encL o) := dp_kp kp7 lc6.noTups (tupOnly_encL o) hzd
            have hlen7 := small F7 lc7.nd fun L hL => (lc7.re L hL).lay ok
            refine ⟨_, rfl, _, rfl, fd, KL F7, keyL o, rfl, lc7.hn.rd, keyD_L hz7, _, rfl, ?_⟩
            rw [isSome_lay (keys_KL F7)]
            have take1 : ∀ {q : Lay}, q ∈ (ledTo G L mv).take (t + 1) → q ∈ (ledTo G L mv).take t ∨ q = o := by
              intro q hq'
              rw [List.take_add_one, hO] at hq'
              simpa using hq'
            by_cases hin : o ∈ F7
            · rw [decide_eq_true hin]
              refine iteF ?_
              refine ⟨_, F7, Lt7, rfl, lc7, kp74, kp7, sh7, dn7, fun q hq' => ?_⟩
              rcases take1 hq' with h | rfl
              · exact in7 q h
              · exact hin
            · rw [decide_eq_false hin]
              refine iteT ?_
              refine ⟨_, rfl, _, rfl, fd, KL F7, keyL o, rfl, lc7.hn, by unfold KL; rw [List.length_map, sizeLine_eq]; omega, keyD_L hz7, fun H8 b8 hn8 => ?_⟩
              rw [put_KL hin] at hn8
              obtain ⟨zs, hzs, dzs⟩ := lc7.lt
              have ltf : lt ≠ fd := by
                obtain ⟨q, e, _⟩ := lc7.hn
                exact ne_of hzs e (fun z => nomatch z)
              have kp78 : Kp [fd, lt] H7 H8 := but_kp b8 (by simp)
              have hzs8 := b8 _ _ ltf hzs
              have dzs8 : DpAll K H8 zs (Lt7.map encL) := dpAll_kp kp78 lc7.noTups (tupAll_lays _) dzs
              have hz8 : Dp K H8 z (encL o) := dp_kp kp78 lc7.noTups (tupOnly_encL o) hz7
              have hzl := dpAll_len dzs8
              rw [List.length_map] at hzl
              have hl7 : Lt7.length ≤ F7.length := by rw [lc7.ef, List.length_append]; omega
              refine ⟨_, rfl, .inl ⟨rfl, _, sqL_of hzs8⟩, _, rfl, lt, zs, z, rfl, rfl, hzs8, by rw [sizeLine_eq]; omega, ?_⟩
              have kp89 : Kp [fd, lt] H8 (upd H8 lt (.lst (zs ++ [z]))) := kp_upd (by simp)
              have ex8 : ∀ x ∈ [fd, lt], NoTup x H8 := by
                intro x hx
                rw [List.mem_cons, List.mem_singleton] at hx
                rcases hx with rfl | rfl
                · exact hn_noTup hn8
                · exact noTup_lst hzs8
              have hin' : ∀ q ∈ F7, q ∈ F7 ++ [o] := fun q hq' => List.mem_append_left _ hq'
              refine ⟨_, F7 ++ [o], Lt7 ++ [o], rfl, ⟨(lc7.kp.trans kp78).trans kp89, ?_, ⟨zs ++ [z], upd_same, ?_⟩, ?_, ?_, ?_⟩, (kp74.trans kp78).trans kp89, (kp7.trans kp78).trans kp89, sh7.mono hin', fun m hm q hq' => hin' _ (dn7 m hm q hq'), fun q hq' => ?_⟩
              · refine hn_kp (ex := [lt]) (kp_upd (by simp)) (fun x hx => ?_) (by simp [Ne.symm ltf]) hn8
                rw [List.mem_singleton] at hx
                subst hx
                exact noTup_lst hzs8
              · rw [List.map_append]
                exact dpAll_kp kp89 ex8 (by rw [← List.map_append]; exact tupAll_lays (Lt7 ++ [o])) (dpAll_snoc dzs8 hz8)
              · rw [lc7.ef, List.append_assoc]
              · exact List.nodup_append.mpr ⟨lc7.nd, by simp, fun a ha b hb => by rw [List.mem_singleton] at hb; subst hb; exact fun e => hin (e ▸ ha)⟩
              · intro q hq'
                rcases List.mem_append.mp hq' with h | h
                · exact lc7.re q h
                · rw [List.mem_singleton] at h
                  subst h
                  exact .step hre hmv hom
              · rcases take1 hq' with h | rfl
                · exact hin' _ (in7 q h)
                · exact List.mem_append_right _ List.mem_cons_self
          · obtain ⟨z6, F7, Lt7, rfl, lc7, kp74, kp7, sh7, dn7, in7⟩ := p
            refine ⟨_, _, F7, Lt7, rfl, lc7, kp74, sh7, fun m hm o ho => ?_⟩
            rw [List.take_add_one, hM] at hm
            rcases List.mem_append.mp hm with h | h
            · exact dn7 m h o ho
            · have e : m = mv := by simpa using h
              subst e
              rw [hol, List.take_length] at in7
              exact in7 o ho
        · obtain ⟨y5, y6, F5, Lt5, rfl, lc5, kp5, sh5, dn5⟩ := p
          refine ⟨_, _, _, F5, Lt5, rfl, lc5, fun M hM m hm o ho => ?_⟩
          rw [List.take_add_one, hL] at hM
          rcases List.mem_append.mp hM with h | h
          · exact sh5 M h m hm o ho
          · have e : M = L := by simpa using h
            subst e
            rw [hml, List.take_length] at dn5
            exact dn5 m hm o ho
      · obtain ⟨x4, x5, x6, F', Lt, rfl, lc, sh⟩ := p
        have hlen7 := small F' lc.nd fun L hL => (lc.re L hL).lay ok
        obtain ⟨zs, hzs, dzs⟩ := lc.lt
        refine ⟨_, rfl, fd, KL F', rfl, lc.hn.rd, _, _, rfl, rfl, _, rfl, ?_⟩
        have hk : decide (((KL F').length : Int) > 6000) = false := decide_eq_false (by unfold KL; rw [List.length_map]; omega)
        rw [hk]
        refine iteF ?_
        refine ⟨_, rfl, lt, F', Lt, _, _, _, _, zs, rfl, (fun b o e => lc.kp b o (fun hb => by rw [exH b hb] at e; cases e) (sH3 b o e)), lc.hn, hzs, dzs, lc.nd, lc.re, ?_, ?_, ?_, ?_⟩
        · rw [lc.ef]
          exact List.mem_append_left _ hnil
        · intro L hL
          rw [lc.ef]
          exact List.mem_append_right _ hL
        · intro L hL m hm o ho
          obtain ⟨hL1, hL2⟩ := List.mem_filter.mp hL
          have hL3 := of_decide_eq_true hL2
          rw [lc.ef] at hL1
          rcases List.mem_append.mp hL1 with h | h
          · by_cases hl : L ∈ L0 :: Lr
            · rw [hdl, List.take_length] at sh
              exact sh L hl m hm o ho
            · rw [lc.ef]
              exact List.mem_append_left _ (shut L (List.mem_filter.mpr ⟨h, decide_eq_true hl⟩) m hm o ho)
          · exact absurd h hL3
        · rw [lc.ef, List.length_append]
end
end K23
set_option maxHeartbeats 1000000
namespace K23
open PySem PySem.Spec PyProof.Rows L2 KSup NdefX StX KNest
def winMv (G : Game) (ks : List Lay) (L : Lay) : Option Mv := (movesAt G L).find? fun m => (ledTo G L m).all fun o => decide (o ∈ ks)
def encO : Option Mv → PyData
  | none => .none
  | some m => encM m
theorem winMv_some {G : Game} {ks : List Lay} {L : Lay} {m : Mv} (h : winMv G ks L = some m) : m ∈ movesAt G L ∧ ∀ o ∈ ledTo G L m, o ∈ ks := by
  unfold winMv at h
  have h1 := List.find?_some h
  refine ⟨List.mem_of_find?_eq_some h, fun o ho => ?_⟩
  rw [List.all_eq_true] at h1
  exact of_decide_eq_true (h1 o ho)
theorem winMv_none {G : Game} {ks : List Lay} {L : Lay} (h : winMv G ks L = none) : ∀ m ∈ movesAt G L, ∃ o ∈ ledTo G L m, o ∉ ks := by
  intro m hm
  unfold winMv at h
  rw [List.find?_eq_none] at h
  have h1 := h m hm
  simp only [List.all_eq_true, decide_eq_true_eq, Classical.not_forall] at h1
  obtain ⟨o, ho, h2⟩ := h1
  exact ⟨o, ho, h2⟩
section
variable {P : Program} {w : World} {K : PySem.W.Frag} {mg : Str → Option Value} {base : Heap} {f g1 g2 g3 : Addr} {fd gd1 gd2 gd3 : FuncData}
def spWinning (w : World) (K : PySem.W.Frag) : Sp := fun vs H Q _ => ∃ g rd l G L kvs ks, vs = [g, .ref rd, l] ∧ Dp K H g (encG G) ∧ OkG G ∧ HN w K H rd kvs ∧ kvs.map (·.1) = ks.map keyL ∧ Dp K H l (encL L) ∧ IsLay G L ∧ RetD K H (encO (winMv G ks L)) Q
theorem bools_ofB {β : Type} {H : Hp} {f : β → Bool} {bs : List β} {ys : List V} (h : DpAll K H ys (bs.map fun b => PyData.bool (f b))) : ys = (bs.map f).map V.bl := bools_of (by rw [List.map_map]; exact h)
theorem len_led {G : Game} {L : Lay} {m : Mv} (ok : OkG G) (lay : IsLay G L) (hm : m ∈ movesAt G L) : (ledTo G L m).length ≤ 60 := by
  rcases mem_moves.mp hm with ⟨b, _, rfl⟩ | ⟨z, hz, rfl⟩
  · show 1 ≤ 60
    omega
  · show ((freeS G.c L z).map _).length ≤ 60
    rw [List.length_map]
    exact len_freeS ok lay (ok.zs z (mem_wants.mp hz).2.1).1
theorem ok_winning (F : FnP K "winning_move" sWinning f fd) (T : Bl mg)
    (G1 : FnOk P w K mg base CX0 1 g1 gd1 ["game", "layout"] (spMoves K)) (k1 : PySem.W.keepIn K (.ref g1) = true) (b1 : Binds K gd1 ["game", "layout"] []) (m1 : mg "moves_at" = some (.ref g1))
    (G2 : FnOk P w K mg base CX0 2 g2 gd2 ["game", "layout", "move"] (spLed K)) (k2 : PySem.W.keepIn K (.ref g2) = true) (b2 : Binds K gd2 ["game", "layout", "move"] []) (m2 : mg "led_to" = some (.ref g2)) :
    FnOk P w K mg base CX0 3 f fd ["game", "ranks", "layout"] (spWinning w K) := by
  refine F.ok scWinning (fun vs H Q E h => ?_) (fun cdv A outer s H vs Q E hr h => ?_)
  · obtain ⟨g, rd, l, G, L, kvs, ks, rfl, _⟩ := h
    rfl
  · obtain ⟨g, rd, l, G, L, kvs, ks, rfl, hg, ok, hn, hks, hl, lay, hq⟩ := h
    have r1 : Room 1 (A.deeper (envOfC _ _ s.heap.objs.size f cdv)) := hr.mono (by omega)
    refine ⟨_, PSs.nox (pss_cons (ps_for PassesOwn.never rfl (pi_list (pe_call G1 r1 (by rfl) m1 k1 b1 .nil pass0 (pa_cons (pv 0) (pa_cons (pv 2) pa_nil)))) (pg_name (i := 3) scWinning.nd rfl (Or.inl rfl))
        (pss_one (ps_if (pt_val (pe_callB (cr_all rfl) (by rfl) T.all (by decide +kernel) (pa_cons (pe_lc (own := [("other", 4)]) (g := gName 4) (tt := tYes) rfl scWinning.nd (pi_list (pe_call G2 hr (by rfl) m2 k2 b2 .nil pass0 (pa_cons (pv 0) (pa_cons (pv 2) (pa_cons (pv 3) pa_nil)))))
            (blkOk_by (N := ["game", "ranks", "layout", "move", "other"]) (sc := defScope sWinning) (by decide +kernel))
            (fun _ _ _ _ _ => pg_name (i := 4) scWinning.nd rfl (Or.inl rfl)) (fun _ _ _ _ _ => pts_nil) (fun _ _ _ _ _ => pe_cmp (pc_ninE w K hr.units (pv 4) (pv 1)) (by with_unfolding_all rfl))) pa_nil))) (pss_one (ps_ret (pv 3))) pss_nil)))
      (pss_one (ps_ret pe_non))), ?_⟩
    have hml := len_moves ok lay
    have c4 := ok.m
    have lm := lay.m
    refine ⟨_, rfl, _, rfl, g, l, G, L, rfl, hg, ok, hl, by omega, fun H1 a ms s1 hms na dms => ?_⟩
    refine ⟨a, rfl, ⟨_, sqL_of hms⟩, ?_⟩
    have hmsl := dpAll_len dms
    rw [List.length_map] at hmsl
    refine for_list (K := K) (xs := ms) (fun i σ H' => ∃ x3 x4, σ = [some g, some (.ref rd), some l, x3, x4] ∧ Same H1 H' ∧ ∀ m ∈ (movesAt G L).take i, ((ledTo G L m).all fun o => decide (o ∈ ks)) = false) ?_ (fun i σ H' hi p => ?_) (fun i x σ H' hx p => ?_) (fun σ H' p => ?_)
    · exact ⟨_, _, rfl, Same.refl _, fun m hm => by simp at hm⟩
    · obtain ⟨_, _, _, s2, _⟩ := p
      exact sqL_of (s2 _ _ hms)
    · obtain ⟨x3, x4, rfl, s2, hno⟩ := p
      obtain ⟨d, hd, hxd⟩ := dpAll_get dms hx
      rw [List.getElem?_map] at hd
      cases hM : (movesAt G L)[i]? with
      | none => rw [hM] at hd; cases hd
      | some mv =>
      rw [hM] at hd
      cases hd
      have hmv : mv ∈ movesAt G L := List.mem_of_getElem? hM
      have s12 := s1.trans s2
      refine ⟨_, rfl, _, rfl, _, rfl, g, l, x, G, L, mv, rfl, dp_same s12 hg, ok, dp_same s12 hl, lay, dp_same s2 hxd, hmv, fun H3 b os s3 hos nb dos => ?_⟩
      refine ⟨b, rfl, ⟨_, sqL_of hos⟩, fun D nD => ?_⟩
      have hlo := len_led ok lay hmv
      refine lcB_L (K := K) (bs := ledTo G L mv) (enc := encL) (keep := fun _ => true) (F := fun o => .bool (decide (o ∈ ks))) (by omega) (sqL_of hos) nD dos (fun b _ _ => rfl) (fun y o H4 s4 hy hmem R S hR hS => ?_) (fun H5 ys s5 eD hys => ?_)
      · refine ⟨wipe_one _ 4 _, ?_⟩
        dsimp only [tYes]
        rw [if_pos rfl]
        have hn4 := hn.same ((s12.trans s3).trans s4)
        refine ⟨_, rfl, _, rfl, rd, kvs, keyL o, rfl, hn4.rd, keyD_L hy, ?_⟩
        rw [isSome_lay hks]
        exact hR _ _ (Same.refl _) rfl (.bl _)
      rw [filter_ttB] at hys
      have hb := bools_ofB hys
      subst hb
      refine ⟨D, _, rfl, sqL_of eD, ?_⟩
      have e : (((ledTo G L mv).map fun o => decide (o ∈ ks)).all id) = (ledTo G L mv).all fun o => decide (o ∈ ks) := by rw [List.all_map]; rfl
      rw [e]
      refine ⟨_, rfl, ?_⟩
      have s35 := s3.trans s5
      cases hall : (ledTo G L mv).all fun o => decide (o ∈ ks) with
      | true =>
        refine iteT ⟨_, rfl, hq _ x (s12.trans s35) ?_⟩
        have ew : winMv G ks L = some mv := by
          unfold winMv
          have hi : i < (movesAt G L).length := (List.getElem?_eq_some_iff.mp hM).1
          have el : movesAt G L = (movesAt G L).take i ++ mv :: (movesAt G L).drop (i + 1) := by
            have h1 := List.take_append_drop i (movesAt G L)
            rw [List.drop_eq_getElem_cons hi, (List.getElem?_eq_some_iff.mp hM).2] at h1
            exact h1.symm
          rw [el, List.find?_append]
          have h2 : ((movesAt G L).take i).find? (fun m => (ledTo G L m).all fun o => decide (o ∈ ks)) = none := List.find?_eq_none.mpr fun m hm => by rw [hno m hm]; exact Bool.false_ne_true
          rw [h2, Option.none_or]
          exact List.find?_cons_of_pos (p := fun m : Mv => (ledTo G L m).all fun o => decide (o ∈ ks)) hall
        rw [ew]
        exact dp_same (s2.trans s35) hxd
      | false =>
        refine iteF ⟨_, _, rfl, s2.trans s35, fun m hm => ?_⟩
        rw [List.take_add_one, hM] at hm
        rcases List.mem_append.mp hm with h | h
        · exact hno m h
        · have e : m = mv := by simpa using h
          subst e
          exact hall
    · obtain ⟨x3, x4, rfl, s2, hno⟩ := p
      rw [hmsl, List.take_length] at hno
      have ew : winMv G ks L = none := List.find?_eq_none.mpr fun m hm => by rw [hno m hm]; exact Bool.false_ne_true
      refine hq _ .non (s1.trans s2) ?_
      rw [ew]
      exact .non
end
end K23
set_option maxHeartbeats 1000000
namespace K23
open PySem PySem.Spec PyProof.Rows L2 KSup NdefX StX KNest
/-- the table of ranks as data -/
def encV (r : RRow) : PyData := .tuple [.int r.2.1, encM r.2.2]
def RKV (K : PySem.W.Frag) (H : Hp) (kvs : List (NK × V)) (rs : List RRow) : Prop := Paired (fun kv r => kv.1 = keyL r.1 ∧ Dp K H kv.2 (encV r)) kvs rs
theorem tupOnly_encV (r : RRow) : tupOnly (encV r) = true := by simp [encV, tupOnly, tupAll, tupOnly_encM]
theorem RKV.keys {K : PySem.W.Frag} {H : Hp} {kvs : List (NK × V)} {rs : List RRow} (h : RKV K H kvs rs) : kvs.map (·.1) = (rs.map (·.1)).map keyL := by
  induction h with
  | nil => rfl
  | cons h t ih => rw [List.map_cons, List.map_cons, List.map_cons, ih, h.1]
theorem RKV.same {K : PySem.W.Frag} {H H' : Hp} {kvs : List (NK × V)} {rs : List RRow} (h : RKV K H kvs rs) (s : Same H H') : RKV K H' kvs rs := Paired.mapP h fun _ _ z => ⟨z.1, dp_same s z.2⟩
theorem RKV.kp {K : PySem.W.Frag} {H H' : Hp} {ex : List Addr} {kvs : List (NK × V)} {rs : List RRow} (h : RKV K H kvs rs) (k : Kp ex H H') (n : ∀ x ∈ ex, NoTup x H) : RKV K H' kvs rs := Paired.mapP h fun _ _ z => ⟨z.1, dp_kp k n (tupOnly_encV _) z.2⟩
theorem RKV.len {K : PySem.W.Frag} {H : Hp} {kvs : List (NK × V)} {rs : List RRow} (h : RKV K H kvs rs) : kvs.length = rs.length := Paired.length h
theorem RKV.app {K : PySem.W.Frag} {H : Hp} {a b : List (NK × V)} {rs qs : List RRow} (h : RKV K H a rs) (h2 : RKV K H b qs) : RKV K H (a ++ b) (rs ++ qs) := by
  induction h with
  | nil => exact h2
  | cons h t ih => exact .cons h ih
theorem RKV.snoc {K : PySem.W.Frag} {H : Hp} {a : List (NK × V)} {rs : List RRow} {k : NK} {v : V} {r : RRow} (h : RKV K H a rs) (e : k = keyL r.1) (d : Dp K H v (encV r)) : RKV K H (a ++ [(k, v)]) (rs ++ [r]) := h.app (.cons ⟨e, d⟩ .nil)
theorem RKV.get {K : PySem.W.Frag} {H : Hp} {kvs : List (NK × V)} {rs : List RRow} (h : RKV K H kvs rs) (nd : (rs.map (·.1)).Nodup) {r : RRow} (hr : r ∈ rs) : ∃ v, valV kvs (keyL r.1) = some v ∧ Dp K H v (encV r) := by
  induction h with
  | nil => cases hr
  | @cons p q ps qs h t ih =>
    rw [List.map_cons, List.nodup_cons] at nd
    rcases List.mem_cons.mp hr with rfl | hr
    · exact ⟨p.2, valV_pos h.1, h.2⟩
    · have ne : ¬ p.1 = keyL r.1 := fun e => by
        rw [h.1] at e
        exact nd.1 (List.mem_map.mpr ⟨r, hr, (keyL_inj e).symm⟩)
      rw [valV_neg ne]
      exact ih nd.2 hr
theorem mergeN_fresh : ∀ (more kvs : List (NK × V)), ((kvs ++ more).map (·.1)).Nodup → mergeN kvs more = kvs ++ more
  | [], kvs, _ => by rw [List.append_nil]; rfl
  | p :: more, kvs, h => by
    show mergeN (putK kvs p.1 p.2) more = _
    have e : (valV kvs p.1).isSome = false := by
      rw [isSome_key]
      refine decide_eq_false fun hm => ?_
      rw [List.map_append, List.map_cons] at h
      exact (List.nodup_append.mp h).2.2 p.1 hm p.1 List.mem_cons_self rfl
    rw [putK_fresh _ e, mergeN_fresh more, List.append_assoc]
    · rfl
    · rw [List.append_assoc]
      exact h
/-- the layouts that are won in this turn -/
def wonRows (G : Game) (ks : List Lay) (t : Int) (Ls : List Lay) : List RRow := Ls.filterMap fun L => (winMv G ks L).map fun m => (L, t, m)
theorem mem_wonRows {G : Game} {ks : List Lay} {t : Int} {Ls : List Lay} {r : RRow} : r ∈ wonRows G ks t Ls ↔ r.1 ∈ Ls ∧ r.2.1 = t ∧ winMv G ks r.1 = some r.2.2 := by
  unfold wonRows
  rw [List.mem_filterMap]
  constructor
  · rintro ⟨L, hL, e⟩
    obtain ⟨m, hm, rfl⟩ := Option.map_eq_some_iff.mp e
    exact ⟨hL, rfl, hm⟩
  · rintro ⟨h1, h2, h3⟩
    refine ⟨r.1, h1, ?_⟩
    rw [h3, ← h2]
    rfl
theorem keys_wonRows {G : Game} {ks : List Lay} {t : Int} : ∀ {Ls : List Lay}, (wonRows G ks t Ls).map (·.1) = Ls.filter fun L => (winMv G ks L).isSome
  | [] => rfl
  | L :: Ls => by
    have ih := keys_wonRows (G := G) (ks := ks) (t := t) (Ls := Ls)
    unfold wonRows at ih ⊢
    rw [List.filterMap_cons, List.filter_cons]
    cases h : winMv G ks L with
    | none => exact ih
    | some m =>
      show L :: _ = L :: _
      rw [ih]
def Apart (w : World) (G : Game) : Prop := ∀ Ls : List Lay, Ls.Nodup → (∀ L ∈ Ls, IsLay G L) → (Ls.map fun L => (keyL L).hash w).Nodup
theorem wonRows_app {G : Game} {ks : List Lay} {t : Int} (a b : List Lay) : wonRows G ks t (a ++ b) = wonRows G ks t a ++ wonRows G ks t b := by
  unfold wonRows
  rw [List.filterMap_append]
/-- between two turns of ranks_of -/
def RInv (w : World) (K : PySem.W.Frag) (G : Game) (H : Hp) (gp rd : Addr) (m : Nat) (σ : L2.St) (H' : Hp) : Prop := ∃ (ll : Addr) (t : Int) (ys : List V) (Lf : List Lay) (rs : List RRow) (kvs : List (NK × V)) (x4 x5 x6 x7 : Option V), σ = [some (.ref gp), some (.ref rd), some (.ref ll), some (.int t), x4, x5, x6, x7] ∧
  Same H H' ∧ HN w K H' rd kvs ∧ RKV K H' kvs rs ∧ H' ll = some (.lst ys) ∧ DpAll K H' ys (Lf.map encL) ∧ Lf.Nodup ∧ RanksOk G rs ∧ (∀ r ∈ rs, r.2.1 < t) ∧ 0 ≤ t ∧ (∀ L, Reach G L ↔ (L ∈ Lf ∨ L ∈ rs.map (·.1))) ∧ (∀ L ∈ Lf, L ∉ rs.map (·.1)) ∧ m = Lf.length
section
variable {P : Program} {w : World} {K : PySem.W.Frag} {mg : Str → Option Value} {base : Heap} {f g1 g2 g3 : Addr} {fd gd1 gd2 gd3 : FuncData}
def encSo (p : Lay × Option Mv) : PyData := .tuple [encL p.1, encO p.2]
theorem tupOnly_encSo (p : Lay × Option Mv) : tupOnly (encSo p) = true := by
  have h : tupOnly (encO p.2) = true := by
    cases p.2 with
    | none => rfl
    | some m => exact tupOnly_encM m
  simp [encSo, tupOnly, tupAll, tupOnly_encL, h]
def spRanks (w : World) (K : PySem.W.Frag) : Sp := fun vs H Q _ => ∃ g G, vs = [g] ∧ Dp K H g (encG G) ∧ OkG G ∧ Small G ∧ Apart w G ∧
  ∀ (H' : Hp) (a : Addr) (kvs : List (NK × V)) (rs : List RRow), Same H H' → HN w K H' a kvs → RKV K H' kvs rs → H a = none → RanksOk G rs → Shut G rs → Q (.ref a) H'
theorem ok_ranks (F : FnP K "ranks_of" sRanks f fd) (T : Bl mg)
    (G1 : FnOk P w K mg base CX0 3 g1 gd1 ["game"] (spLayouts K)) (k1 : PySem.W.keepIn K (.ref g1) = true) (b1 : Binds K gd1 ["game"] []) (m1 : mg "layouts_of" = some (.ref g1))
    (G2 : FnOk P w K mg base CX0 3 g2 gd2 ["game", "ranks", "layout"] (spWinning w K)) (k2 : PySem.W.keepIn K (.ref g2) = true) (b2 : Binds K gd2 ["game", "ranks", "layout"] []) (m2 : mg "winning_move" = some (.ref g2)) :
    FnOk P w K mg base CX0 4 f fd ["game"] (spRanks w K) := by
  refine F.ok scRanks (fun vs H Q E h => ?_) (fun cdv A outer s H vs Q E hr h => ?_)
  · obtain ⟨g, G, rfl, _⟩ := h
    rfl
  · obtain ⟨g, G, rfl, hg, ok, small, apart, hq⟩ := h
    refine ⟨_, PSs.nox (pss_cons (ps_asg (pe_tup (pa_cons pe_nnew (pa_cons (pe_call G1 hr (by rfl) m1 k1 b1 .nil pass0 (pa_cons (pv 0) pa_nil)) (pa_cons pe_int pa_nil)))) (pg_tup rfl (pgs_cons (pg_name (i := 1) scRanks.nd rfl (Or.inr rfl)) (pgs_cons (pg_name (i := 2) scRanks.nd rfl (Or.inl rfl)) (pgs_cons (pg_name (i := 3) scRanks.nd rfl (Or.inr rfl)) pgs_nil)))))
      (pss_one (ps_while PassesOwn.never (pt_val pe_bl)
        (pss_cons (ps_setLc (i := 4) (own := [("layout", 6)]) (g := gName 6) (tt := tYes) (by rfl) scRanks.nd rfl rfl (sw_true rfl rfl rfl (by decide +kernel)) (pi_list (pv 2))
            (blkOk_by (N := ["game", "ranks", "left", "turn", "some", "won", "layout", "move"]) (sc := defScope sRanks) (by decide +kernel))
            (fun _ _ _ _ _ => pg_name (i := 6) scRanks.nd rfl (Or.inl rfl)) (fun _ _ _ _ _ => pts_nil) (fun _ _ _ _ _ => pe_tup (pa_cons (pv 6) (pa_cons (pe_call G2 hr (by rfl) m2 k2 b2 .nil pass0 (pa_cons (pv 0) (pa_cons (pv 1) (pa_cons (pv 6) pa_nil)))) pa_nil))))
        (pss_cons (ps_set (i := 5) scRanks.nd rfl (Or.inr rfl) (pe_ndc hr.units (own := [("layout", 6), ("move", 7)]) (g := gTup K 2 (gCons (gName 6) (gCons (gName 7) gNil))) rfl scRanks.nd (pi_list (pv 4))
            (blkOk_by (N := ["game", "ranks", "left", "turn", "some", "won", "layout", "move"]) (sc := defScope sRanks) (by decide +kernel))
            (fun _ _ _ _ _ => pg_tup rfl (pgs_cons (pg_name (i := 6) scRanks.nd rfl (Or.inl rfl)) (pgs_cons (pg_name (i := 7) scRanks.nd rfl (Or.inl rfl)) pgs_nil))) (fun _ _ _ _ _ => pts_one (pt_cmpR op_notN (pv 7) pe_non (nomark _))) (fun _ _ _ _ _ => pv 6) (fun _ _ _ _ _ => pe_tup (pa_cons (pv 3) (pa_cons (pv 7) pa_nil)))))
        (pss_cons (ps_if (pt_cmpR (op_eqNE hr.units) (pv 5) pe_nnew (nomark _)) (pss_one (ps_ret (pv 1))) pss_nil)
        (pss_cons (ps_expr (pe_mG tyOk_N PySem.F.plainAttrs_dict PySem.F.slot_dict_update PySem.F.type_dict_update (mt_updN hr.units) (pv 1) (pa_cons (pv 5) pa_nil)))
        (pss_one (ps_asg (pe_tup (pa_cons (pe_lc (own := [("layout", 6)]) (g := gName 6) rfl scRanks.nd (pi_list (pv 2))
            (blkOk_by (N := ["game", "ranks", "left", "turn", "some", "won", "layout", "move"]) (sc := defScope sRanks) (by decide +kernel))
            (fun _ _ _ _ _ => pg_name (i := 6) scRanks.nd rfl (Or.inl rfl)) (fun _ _ _ _ _ => pts_one (pt_cmp (pc_nnotinE w K hr.units (pv 6) (pv 5)) (by with_unfolding_all rfl))) (fun _ _ _ _ _ => pv 6)) (pa_cons (pe_op op_add (pv 3) pe_int) pa_nil)))
            (pg_tup rfl (pgs_cons (pg_name (i := 2) scRanks.nd rfl (Or.inl rfl)) (pgs_cons (pg_name (i := 3) scRanks.nd rfl (Or.inr rfl)) pgs_nil))))))))))))  , ?_⟩
    obtain ⟨gp, gq, rfl, sg, sz⟩ := dp_encG hg
    intro rd nrd
    have s1 := same_upd (o := dN w rd []) nrd
    refine ⟨_, rfl, .ref gp, G, rfl, dp_same s1 hg, ok, small, fun H1 l0 xs Ls s2 hl0 nl0 dxs nd0 re0 => ?_⟩
    refine ⟨by rw [sizeLine_eq]; show 3 ≤ 16777216; omega, fun tp ntp => ?_⟩
    have s3 := same_upd (o := .tup [.ref rd, .ref l0, .int 0]) ntp
    refine ⟨tp, _, rfl, sqT_of upd_same, rfl, _, _, rfl, _, _, rfl, _, _, rfl, rfl, ?_⟩
    refine ⟨RInv w K G H gp rd, ⟨_, l0, 0, xs, Ls, [], [], _, _, _, _, rfl, (s1.trans s2).trans s3, ?_, .nil, s3 _ _ hl0, dpAll_same s3 dxs, nd0, ⟨List.nodup_nil, (fun r hr => nomatch hr), (fun r hr => nomatch hr)⟩, (fun r hr => nomatch hr), by omega, fun L => ?_, fun L _ hL => (nomatch hL), rfl⟩, ?_⟩
    · exact ⟨[], (s2.trans s3) _ _ upd_same, (fun x hx => nomatch hx), rfl⟩
    · rw [re0 L]
      simp
    rintro m σ H2 ⟨ll, t, ys, Lf, rs, kvs, x4, x5, x6, x7, rfl, sH, hn, rk, hll, dl, nd, rok, hlt, ht0, part, disj, rfl⟩
    refine ⟨true, rfl, iteT ⟨fun σ' H' => ∃ m', m' < Lf.length ∧ RInv w K G H gp rd m' σ' H', fun σ' H' h => h, ?_⟩⟩
    have hre : ∀ L ∈ Lf, Reach G L := fun L hL => (part L).mpr (.inl hL)
    have hl6 : Lf.length ≤ 6000 := small Lf nd fun L hL => (hre L hL).lay ok
    have hlr : rs.length ≤ 6000 := by
      have := small _ rok.nd fun L hL => by
        obtain ⟨r, hr, rfl⟩ := List.mem_map.mp hL
        exact (rok.re r hr).lay ok
      rw [List.length_map] at this
      exact this
    have hlk := rk.len
    generalize hks : rs.map (·.1) = ks at *
    have hkk : kvs.map (·.1) = ks.map keyL := by rw [rk.keys, hks]
    -- some
    refine ⟨_, rfl, ll, rfl, ⟨_, sqL_of hll⟩, fun D nD => ?_⟩
    refine lcB_L (K := K) (bs := Lf) (enc := encL) (keep := fun _ => true) (F := fun L => encSo (L, winMv G ks L)) (by omega) (sqL_of hll) nD dl (fun b _ _ => tupOnly_encSo _) (fun x L H3 s3 hx hmem R S hR hS => ?_) (fun H4 zs s4 eD hzs => ?_)
    · refine ⟨wipe_one _ 6 _, ?_⟩
      dsimp only [tYes]
      rw [if_pos rfl]
      refine ⟨_, rfl, _, rfl, _, rfl, _, rfl, .ref gp, rd, x, G, L, kvs, ks, rfl, dp_same (sH.trans s3) hg, ok, hn.same s3, hkk, hx, (hre L hmem).lay ok, fun H5 v s5 hv => ?_⟩
      refine ⟨by rw [sizeLine_eq]; show 2 ≤ 16777216; omega, fun p np => hR _ _ (s5.trans (same_upd np)) rfl ?_⟩
      have s6 := same_upd (o := .tup [x, v]) np
      exact .tup (sqT_of upd_same) (.cons (dp_same (s5.trans s6) hx) (.cons (dp_same s6 hv) .nil))
    rw [filter_ttB] at hzs
    have hzl := dpAll_len hzs
    rw [List.length_map] at hzl
    have hzs' : DpAll K H4 zs ((Lf.map fun L => (L, winMv G ks L)).map encSo) := by rw [List.map_map]; exact hzs
    have sH4 := sH.trans s4
    -- won
    refine ⟨_, rfl, D, rfl, ⟨_, sqL_of eD⟩, fun D2 nD2 => ?_⟩
    refine ndc_list (w := w) (K := K) (xs := zs) (fun i H' => Same H4 H' ∧ ∃ kv, HN w K H' D2 kv ∧ RKV K H' kv (wonRows G ks t (Lf.take i))) ?_ (fun i H' hi p => ?_) (fun i x H' hx p => ?_) (fun H5 p => ?_)
    · exact ⟨same_upd nD2, [], ⟨[], upd_same, (fun x hx => nomatch hx), rfl⟩, .nil⟩
    · exact p.1.seq (sqL_of eD)
    · obtain ⟨s5, kv, hkv, rkv⟩ := p
      obtain ⟨d, hd, hxd⟩ := dpAll_get hzs' hx
      rw [List.getElem?_map, List.getElem?_map] at hd
      cases hL : Lf[i]? with
      | none => rw [hL] at hd; cases hd
      | some L =>
      rw [hL] at hd
      cases hd
      have tk : Lf.take (i + 1) = Lf.take i ++ [L] := by rw [List.take_add_one, hL]; rfl
      have hnin : L ∉ Lf.take i := by
        have h1 : (Lf.take (i + 1)).Nodup := nd.sublist (List.take_sublist _ _)
        rw [tk] at h1
        exact fun h => (List.nodup_append.mp h1).2.2 L h L List.mem_cons_self rfl
      have hxd' := dp_same s5 hxd
      unfold encSo at hxd'
      cases hxd' with
      | tup sq aa =>
      cases aa with
      | cons h1 aa =>
      cases aa with
      | cons h2 aa =>
      cases aa
      refine ⟨_, _, rfl, sq, rfl, _, _, rfl, _, _, rfl, rfl, wipe_two _ 6 7 _ _, ?_⟩
      dsimp only at h1 h2
      cases hw : winMv G ks L with
      | none =>
        rw [hw] at h2
        cases h2
        refine ⟨_, rfl, rfl, _, rfl, iteF ⟨s5, kv, hkv, ?_⟩⟩
        rw [tk, wonRows_app]
        have e : wonRows G ks t [L] = [] := by simp [wonRows, hw]
        rw [e, List.append_nil]
        exact rkv
      | some mv =>
        rw [hw] at h2
        have h2' : Dp K H' _ (encM mv) := h2
        obtain ⟨q, rfl, _⟩ := dp_encM h2'
        refine ⟨_, rfl, rfl, _, rfl, iteT ?_⟩
        refine ⟨_, rfl, _, rfl, _, rfl, by rw [sizeLine_eq]; show 2 ≤ 16777216; omega, fun p np => ?_⟩
        have s6 := same_upd (o := .tup [.int t, .ref q]) np
        have hlkv := rkv.len
        have hlw : (wonRows G ks t (Lf.take i)).length ≤ Lf.length := by
          unfold wonRows
          exact Nat.le_trans (List.length_filterMap_le _ _) (List.length_take_le' _ _)
        refine ⟨kv, keyL L, hkv.same s6, by rw [sizeLine_eq]; omega, keyD_L (dp_same s6 h1), fun H6 b6 hn6 => ?_⟩
        have hfr : (valV kv (keyL L)).isSome = false := by
          rw [isSome_lay rkv.keys, keys_wonRows]
          exact decide_eq_false fun h => hnin (List.mem_filter.mp h).1
        rw [putK_fresh _ hfr] at hn6
        have nD2' : H4 D2 = none := nD2
        have kp6 : Kp [D2] (upd H' p (.tup [.int t, .ref q])) H6 := but_kp b6 (by simp)
        have ex6 : ∀ x ∈ [D2], NoTup x (upd H' p (.tup [.int t, .ref q])) := fun x hx => by
          rw [List.mem_singleton] at hx
          subst hx
          exact hn_noTup (hkv.same s6)
        refine ⟨fun a o e => b6 _ _ (ne_of_none e nD2) ((s5.trans s6) _ _ e), _, hn6, ?_⟩
        rw [tk, wonRows_app]
        have e : wonRows G ks t [L] = [(L, t, mv)] := by simp [wonRows, hw]
        rw [e]
        refine ((rkv.same s6).kp kp6 ex6).snoc rfl (dp_kp kp6 ex6 (tupOnly_encV (L, t, mv)) ?_)
        exact .tup (sqT_of upd_same) (.cons (.int t) (.cons (dp_same s6 h2') .nil))
    obtain ⟨s5, kw, hkw, rkw⟩ := p
    rw [hzl, List.take_length] at rkw
    -- if won == {}
    have sH5 := sH4.trans s5
    have hn5 := hn.same (s4.trans s5)
    have rk5 := rk.same (s4.trans s5)
    obtain ⟨xw, eD2, nkw, mkw⟩ := id hkw
    refine ⟨_, rfl, fun q nq => ?_⟩
    have s6 := same_upd (o := dN w q []) nq
    refine ⟨D2, q, xw, rfl, rfl, .inl (s6 _ _ eD2), upd_same, _, rfl, ?_⟩
    have lxw : xw.length = (wonRows G ks t Lf).length := by rw [← rkw.len, ← mkw, List.length_map]
    cases hxw : xw with
    | nil =>
      refine iteT ⟨_, rfl, hq _ rd kvs rs (sH5.trans s6) (hn5.same s6) (rk5.same s6) nrd rok fun L hL hk m hm => ?_⟩
      rw [hks] at hk ⊢
      have hLf : L ∈ Lf := by
        rcases (part L).mp hL with h | h
        · exact h
        · exact absurd h hk
      have hno : winMv G ks L = none := by
        cases hw : winMv G ks L with
        | none => rfl
        | some mv =>
          have h1 : (L, t, mv) ∈ wonRows G ks t Lf := mem_wonRows.mpr ⟨hLf, rfl, hw⟩
          rw [hxw] at lxw
          have h2 := List.length_pos_of_mem h1
          rw [← lxw] at h2
          exact absurd h2 (Nat.lt_irrefl 0)
      exact winMv_none hno m hm
    | cons x0 xr =>
      refine iteF ?_
      have hpos : 0 < (wonRows G ks t Lf).length := by rw [← lxw, hxw]; exact Nat.succ_pos _
      have hn6 := hn5.same s6
      have hkw6 := hkw.same s6
      have rk6 := rk5.same s6
      have rkw6 := rkw.same s6
      have sH6 := sH5.trans s6
      have eD26 := s6 _ _ eD2
      have nrdH2 : ∃ o, H2 rd = some o := let ⟨y, e, _⟩ := hn; ⟨_, e⟩
      have ne2 : rd ≠ D2 := by
        obtain ⟨o, e⟩ := nrdH2
        exact ne_of_none (s4 _ _ e) nD2
      have hlw : (wonRows G ks t Lf).length ≤ Lf.length := by
        unfold wonRows
        exact List.length_filterMap_le _ _
      have wre : ∀ L ∈ (wonRows G ks t Lf).map (·.1), L ∈ Lf := fun L hL => by
        rw [keys_wonRows] at hL
        exact (List.mem_filter.mp hL).1
      have wnd : ((wonRows G ks t Lf).map (·.1)).Nodup := by
        rw [keys_wonRows]
        exact nd.sublist List.filter_sublist
      have allnd : ((kvs ++ kw).map (·.1)).Nodup := by
        rw [List.map_append, hkk, rkw.keys, ← List.map_append]
        have h1 : (ks ++ (wonRows G ks t Lf).map (·.1)).Nodup := by
          rw [← hks]
          refine List.nodup_append.mpr ⟨rok.nd, by rw [hks]; exact wnd, fun a ha b hb e => ?_⟩
          subst e
          rw [hks] at ha hb
          exact disj a (wre a hb) ha
        exact List.Pairwise.map _ (fun a b h e => h (keyL_inj e)) h1
      refine ⟨_, rfl, ⟨rd, kvs, rfl, hn6.rd⟩, _, rfl, rd, D2, kvs, kw, rfl, rfl, ne2, hn6, hkw6, .inr ?_, ?_, fun H7 b7 hn7 => ?_⟩
      · have h1 := apart _ wnd fun L hL => (hre L (wre L hL)).lay ok
        have h2 : (kw.map fun p => p.1.hash w) = ((wonRows G ks t Lf).map (·.1)).map fun L => (keyL L).hash w := by
          have h3 := congrArg (List.map fun k : NK => k.hash w) rkw.keys
          rw [List.map_map, List.map_map] at h3
          exact h3
        show (kw.map fun p => p.1.hash w).Nodup
        rw [h2]
        exact h1
      · rw [rk.len, rkw.len, sizeLine_eq]
        omega
      rw [mergeN_fresh _ _ allnd] at hn7
      have kp7 : Kp [rd] (upd H5 q (dN w q [])) H7 := but_kp b7 (by simp)
      have ex7 : ∀ x ∈ [rd], NoTup x (upd H5 q (dN w q [])) := fun x hx => by
        rw [List.mem_singleton] at hx
        subst hx
        exact hn_noTup hn6
      have hkw7 : HN w K H7 D2 kw := hn_kp kp7 ex7 (by simp [Ne.symm ne2]) hkw6
      have rk7 := (rk6.kp kp7 ex7).app (rkw6.kp kp7 ex7)
      have llr : ll ≠ rd := by
        obtain ⟨y, e, _⟩ := hn
        exact ne_of hll e (fun z => nomatch z)
      have s46 := (s4.trans s5).trans s6
      have hll7 : H7 ll = some (.lst ys) := b7 _ _ llr (s46 _ _ hll)
      have dl7 : DpAll K H7 ys (Lf.map encL) := dpAll_kp kp7 ex7 (tupAll_lays _) (dpAll_same s46 dl)
      have sH7 : Same H H7 := fun a o e => b7 _ _ (ne_of_none e nrd) (sH6 _ _ e)
      -- left, turn
      refine ⟨_, rfl, ll, rfl, ⟨_, sqL_of hll7⟩, fun D3 nD3 => ?_⟩
      refine lcB_L (K := K) (bs := Lf) (enc := encL) (keep := fun L => !(winMv G ks L).isSome) (F := encL) (by omega) (sqL_of hll7) nD3 dl7 (fun b _ _ => tupOnly_encL _) (fun x L H8 s8 hx hmem R S hR hS => ?_) (fun H8 ws s8 eD3 hws => ?_)
      · refine ⟨wipe_one _ 6 _, ?_⟩
        refine ⟨_, rfl, _, rfl, D2, kw, keyL L, rfl, (hkw7.same s8).rd, keyD_L hx, _, rfl, ?_⟩
        have e : (valV kw (keyL L)).isSome = (winMv G ks L).isSome := by
          rw [isSome_lay rkw.keys, keys_wonRows, Bool.eq_iff_iff, decide_eq_true_iff, List.mem_filter]
          exact ⟨fun h => h.2, fun h => ⟨hmem, h⟩⟩
        rw [e]
        cases hk : (winMv G ks L).isSome with
        | true => exact iteF (hS _ (Same.refl _) (show (!(winMv G ks L).isSome) = false by rw [hk]; rfl))
        | false => exact iteT ⟨_, rfl, hR _ _ (Same.refl _) (show (!(winMv G ks L).isSome) = true by rw [hk]; rfl) hx⟩
      refine ⟨_, rfl, _, _, rfl, rfl, by rw [sizeLine_eq]; show 2 ≤ 16777216; omega, fun tq ntq => ?_⟩
      have s9 := same_upd (o := .tup [.ref D3, .int (t + 1)]) ntq
      have s89 := s8.trans s9
      refine ⟨tq, _, rfl, sqT_of upd_same, rfl, _, _, rfl, _, _, rfl, rfl, ?_⟩
      refine ⟨_, ?_, D3, t + 1, ws, Lf.filter fun L => !(winMv G ks L).isSome, rs ++ wonRows G ks t Lf, kvs ++ kw, _, _, _, _, rfl, sH7.trans s89, hn7.same s89, rk7.same s89, s9 _ _ eD3, dpAll_same s9 hws, nd.sublist List.filter_sublist, ⟨?_, ?_, ?_⟩, ?_, by omega, fun L => ?_, fun L hL hk => ?_, rfl⟩
      · obtain ⟨r, hr⟩ := List.exists_mem_of_length_pos hpos
        obtain ⟨h1, _, h3⟩ := mem_wonRows.mp hr
        have h4 : (Lf.filter fun L => !(winMv G ks L).isSome).length < Lf.length := by
          refine Nat.lt_of_le_of_ne (List.length_filter_le _ _) fun e => ?_
          have h5 := List.length_filter_eq_length_iff.mp e r.1 h1
          rw [h3] at h5
          cases h5
        exact h4
      · rw [List.map_append]
        refine List.nodup_append.mpr ⟨rok.nd, wnd, fun a ha b hb e => ?_⟩
        subst e
        rw [hks] at ha
        exact disj a (wre a hb) ha
      · intro r hr
        rcases List.mem_append.mp hr with h | h
        · exact rok.re r h
        · exact hre _ (mem_wonRows.mp h).1
      · intro r hr
        rcases List.mem_append.mp hr with h | h
        · obtain ⟨h1, h2, h3⟩ := rok.ok r h
          refine ⟨h1, h2, fun o ho => ?_⟩
          obtain ⟨q, hq1, hq2⟩ := h3 o ho
          exact ⟨q, List.mem_append_left _ hq1, hq2⟩
        · obtain ⟨h1, h2, h3⟩ := mem_wonRows.mp h
          obtain ⟨h4, h5⟩ := winMv_some h3
          refine ⟨by omega, h4, fun o ho => ?_⟩
          have h6 := h5 o ho
          rw [← hks] at h6
          obtain ⟨q, hq1, hq2⟩ := List.mem_map.mp h6
          refine ⟨q, List.mem_append_left _ hq1, hq2, ?_⟩
          have := hlt q hq1
          omega
      · intro r hr
        rcases List.mem_append.mp hr with h | h
        · have := hlt r h
          omega
        · have := (mem_wonRows.mp h).2.1
          omega
      · rw [part L, List.map_append, List.mem_append, hks, keys_wonRows, List.mem_filter, List.mem_filter]
        constructor
        · rintro (h | h)
          · cases hk : (winMv G ks L).isSome with
            | true => exact .inr (.inr ⟨h, rfl⟩)
            | false => exact .inl ⟨h, rfl⟩
          · exact .inr (.inl h)
        · rintro (h | h | h)
          · exact .inl h.1
          · exact .inr h
          · exact .inl h.1
      · obtain ⟨h1, h2⟩ := List.mem_filter.mp hL
        rw [List.map_append, List.mem_append, hks, keys_wonRows, List.mem_filter] at hk
        rcases hk with h | h
        · exact disj L h1 h
        · rw [h.2] at h2
          cases h2
end
end K23
set_option maxHeartbeats 1000000
namespace K23
open PySem PySem.Spec PyProof.Rows L2 KSup NdefX StX KNest
theorem pa_starE {X : Cx} {e : Expr} {es : List Expr} {te : TE} {t : TA} {p : Pos} (K : PySem.W.Frag) (he : PE X e te) (hr : PA X es t) (hs : starEach (.Starred e p :: es) X.env = (true, eval e X.env) :: starEach es X.env := by rfl) (eK : X.K = K := by rfl) : PA X (.Starred e p :: es) (tStar K te t) := by
  subst eK
  exact pa_star he hr hs
theorem walk_keysN {w : World} {d : Addr} {o : Obj} {xs : List NRow} : Walk (Itn w d o xs) xs.length (fun H => H d = some (.frz o (dN w d xs))) (fun i H x H' => H' = H ∧ ∃ r, xs[i]? = some r ∧ x = .ref r.2.1) :=
  ⟨fun _ _ hi q => ⟨q, hi⟩, fun _ q => ⟨q, Nat.le_refl _⟩, fun _ _ _ _ _ _ y => y⟩
section
variable {β : Type} {enc : β → PyData} {K : PySem.W.Frag} {bs : List β} {g : TG} {tt : TT} {te : TE} {vs : List Nat} {σ : L2.St} {H1 : Hp} {D : Addr} {Qd : Hp → Prop}
/-- a comprehension over whatever yields typed data -/
theorem lcB_W {J : It} {n : Nat} {G : Hp → Prop} {Y : Nat → Hp → V → Hp → Prop} (wk : Walk J n G Y) {keep : β → Bool} {F : β → PyData} (hn : n = bs.length) (hlen : bs.length ≤ 1000000) (nD : H1 D = none)
    (hG : ∀ H, Same H1 H → G H) (hY : ∀ i H x H', i < n → Same H1 H → Y i H x H' → Same H H' ∧ ∃ e, bs[i]? = some e ∧ Dp K H' x (enc e))
    (hF : ∀ d ∈ bs, keep d = true → tupOnly (F d) = true) (step : LcStepB K enc bs g tt te vs σ H1 keep F)
    (hd : ∀ H ys, Same H1 H → H D = some (.lst ys) → DpAll K H ys ((bs.filter keep).map F) → Qd H) :
    ∃ W : Nat → Nat → Hp → Prop, (∃ m, W 0 m (upd H1 D (.lst []))) ∧ ∀ i m H, W i m H →
      (J.stop i H ∧ Qd H) ∨ (J.go i H ∧ ∃ Nx : Hp → Prop, (∀ H', Nx H' → ∃ m', m' < m ∧ W (i + 1) m' H') ∧ ∀ x H', J.yld i H x H' → g x (wipe σ vs) H' fun σ2 H2 => wipe σ2 vs = wipe σ vs ∧ tt σ2 H2 fun b H3 =>
        if b = true then te σ2 H3 fun y H4 => ∃ acc, H4 D = some (.lst acc) ∧ acc.length < sizeLine ∧ Nx (upd H4 D (.lst (acc ++ [y]))) else Nx H3) := by
  refine lc_it wk (LcPB K bs H1 D keep F) ⟨same_upd nD, [], upd_same, .nil⟩ (fun i H hi p => hG H p.1) (fun i x H H' hi p y => ?_) (fun H p => ?_)
  · obtain ⟨s2, d, hd', hx⟩ := hY i H x H' hi p.1 y
    obtain ⟨s1, ys, eD, hys⟩ := p
    refine step x d H' (s1.trans s2) hx (List.mem_of_getElem? hd') _ _ (fun y H3 s3 hk hy => ⟨ys, s3 _ _ (s2 _ _ eD), ?_, ?_⟩) (fun H3 s3 hk => ?_)
    · rw [dpAll_len hys, List.length_map]
      have h1 := List.length_filter_le keep (bs.take i)
      have h2 : (bs.take i).length ≤ bs.length := List.length_take_le' _ _
      rw [sizeLine_eq]
      omega
    · have sU : Same H1 (upd H3 D (.lst (ys ++ [y]))) := fun b o e => by
        have hb : b ≠ D := ne_of_none e nD
        rw [upd_ne hb]
        exact s3 _ _ (s2 _ _ (s1 _ _ e))
      refine ⟨sU, _, upd_same, ?_⟩
      rw [filter_take_succB keep hd', if_pos hk, List.map_append]
      refine dpAll_updL (s3 _ _ (s2 _ _ eD)) (tupAll_of fun z hz => ?_) (dpAll_snoc (dpAll_same (s2.trans s3) hys) hy)
      rcases List.mem_append.mp hz with hz | hz
      · obtain ⟨z0, h0, rfl⟩ := List.mem_map.mp hz
        obtain ⟨h1, h2⟩ := List.mem_filter.mp h0
        exact hF _ (List.mem_of_mem_take h1) h2
      · rw [List.map_singleton, List.mem_singleton] at hz
        rw [hz]
        exact hF _ (List.mem_of_getElem? hd') hk
    · refine ⟨(s1.trans s2).trans s3, ys, s3 _ _ (s2 _ _ eD), ?_⟩
      rw [filter_take_succB keep hd', hk]
      simp only [Bool.false_eq_true, if_false, List.append_nil]
      exact dpAll_same (s2.trans s3) hys
  · obtain ⟨s1, ys, e, h⟩ := p
    rw [hn, List.take_length] at h
    exact hd H ys s1 e h
end
/-- the keys' own tuples are data, in their order -/
theorem rows_KL {K : PySem.W.Frag} {H : Hp} : ∀ {xs : List NRow} {F : List Lay}, NKeys K H xs → xs.map prN = KL F → xs.length = F.length ∧ ∀ (i : Nat) (r : NRow), xs[i]? = some r → ∃ L, F[i]? = some L ∧ Dp K H (.ref r.2.1) (encL L)
  | [], [], _, _ => ⟨rfl, fun i r h => by simp at h⟩
  | [], _ :: _, _, h => by simp [KL] at h
  | _ :: _, [], _, h => by simp [KL] at h
  | x :: xs, L :: F, n, h => by
    unfold KL at h
    rw [List.map_cons, List.map_cons] at h
    injection h with h1 h2
    obtain ⟨l, ih⟩ := rows_KL (F := F) (fun y hy => n y (List.mem_cons_of_mem _ hy)) h2
    refine ⟨by rw [List.length_cons, List.length_cons, l], fun i r hr => ?_⟩
    cases i with
    | zero =>
      simp only [List.getElem?_cons_zero, Option.some.injEq] at hr
      subst hr
      have h3 := (n x List.mem_cons_self).1
      have h4 : x.1 = keyL L := congrArg Prod.fst h1
      rw [h4, data_keyL] at h3
      exact ⟨L, rfl, h3⟩
    | succ i => exact ih i r (by simpa using hr)
/-! ### forced_rows -/
def rowOf (rs : List RRow) (L : Lay) : RRow := (rs.find? fun r => decide (r.1 = L)).getD (L, 0, .give 0)
theorem rowOf_mem {rs : List RRow} {L : Lay} (h : L ∈ rs.map (·.1)) : rowOf rs L ∈ rs ∧ (rowOf rs L).1 = L := by
  obtain ⟨r, hr, e⟩ := List.mem_map.mp h
  unfold rowOf
  cases hf : rs.find? fun r => decide (r.1 = L) with
  | none =>
    have := List.find?_eq_none.mp hf r hr
    simp [e] at this
  | some q =>
    have h1 := List.find?_some hf
    exact ⟨List.mem_of_find?_eq_some hf, of_decide_eq_true h1⟩
def encF (r : RRow) : PyData := .tuple [encL r.1, .int r.2.1, encM r.2.2]
theorem dp_encV {K : PySem.W.Frag} {H : Hp} {v : V} {r : RRow} (h : Dp K H v (encV r)) : ∃ p q, v = .ref p ∧ SqT K H p [.int r.2.1, .ref q] ∧ Dp K H (.ref q) (encM r.2.2) := by
  unfold encV at h
  cases h with
  | tup sq aa =>
  cases aa with
  | cons h1 aa =>
  cases aa with
  | cons h2 aa =>
  cases aa
  cases h1
  obtain ⟨q, rfl, _⟩ := dp_encM h2
  exact ⟨_, q, rfl, sq, h2⟩
theorem tupOnly_encF (r : RRow) : tupOnly (encF r) = true := by simp [encF, tupOnly, tupAll, tupOnly_encM, tupOnly_encL]
structure FrOk (G : Game) (rs rows : List RRow) : Prop where
  nd : (rows.map (·.1)).Nodup
  sub : ∀ r ∈ rows, r ∈ rs
  nil : [] ∈ rows.map (·.1)
  shut : ∀ r ∈ rows, ∀ o ∈ ledTo G r.1 r.2.2, o ∈ rows.map (·.1)
section
variable {P : Program} {w : World} {K : PySem.W.Frag} {mg : Str → Option Value} {base : Heap} {f g1 g2 g3 : Addr} {fd gd1 gd2 gd3 : FuncData}
def spForcedRows (w : World) (K : PySem.W.Frag) : Sp := fun vs H Q _ => ∃ g rd G kvs rs, vs = [g, .ref rd] ∧ Dp K H g (encG G) ∧ OkG G ∧ Small G ∧ HN w K H rd kvs ∧ RKV K H kvs rs ∧ RanksOk G rs ∧ [] ∈ rs.map (·.1) ∧
  ∀ (H' : Hp) (a : Addr) (xs : List V) (rows : List RRow), Same H H' → H' a = some (.lst xs) → H a = none → DpAll K H' xs (rows.map encF) → FrOk G rs rows → Q (.ref a) H'
def FInv (w : World) (K : PySem.W.Frag) (G : Game) (H : Hp) (g : V) (rd fd ll : Addr) (rs : List RRow) (m : Nat) (σ : L2.St) (H' : Hp) : Prop := ∃ (F Ln : List Lay) (ys : List V) (x4 x5 : Option V), σ = [some g, some (.ref rd), some (.ref fd), some (.ref ll), x4, x5] ∧
  Same H H' ∧ HN w K H' fd (KL F) ∧ H' ll = some (.lst ys) ∧ DpAll K H' ys (Ln.map encL) ∧ F.Nodup ∧ (∀ L ∈ F, L ∈ rs.map (·.1)) ∧ [] ∈ F ∧ (∀ L ∈ Ln, L ∈ F) ∧ (∀ L ∈ F, L ∉ Ln → ∀ o ∈ ledTo G L (rowOf rs L).2.2, o ∈ F) ∧ Ln.length ≤ F.length ∧ m = 6000 - F.length + Ln.length
theorem ok_forcedRows (F : FnP K "forced_rows" sForcedRows f fd) (T : Bl mg)
    (G2 : FnOk P w K mg base CX0 2 g2 gd2 ["game", "layout", "move"] (spLed K)) (k2 : PySem.W.keepIn K (.ref g2) = true) (b2 : Binds K gd2 ["game", "layout", "move"] []) (m2 : mg "led_to" = some (.ref g2)) :
    FnOk P w K mg base CX0 3 f fd ["game", "ranks"] (spForcedRows w K) := by
  refine F.ok scForcedRows (fun vs H Q E h => ?_) (fun cdv A outer s H vs Q E hr h => ?_)
  · obtain ⟨g, rd, G, kvs, rs, rfl, _⟩ := h
    rfl
  · obtain ⟨g, rd, G, kvs, rs, rfl, hg, ok, small, hn, rk, rok, hnil, hq⟩ := h
    refine ⟨_, PSs.nox (pss_cons (ps_par (i := 2) (j := 3) rfl scForcedRows.nd rfl rfl (by decide) rfl rfl (pa_cons (pe_disp1N hr.units (pe_tup pa_nil) pe_bl) (pa_cons (pe_lst (pa_cons (pe_tup pa_nil) pa_nil)) pa_nil)) (by rfl))
      (pss_cons (ps_while PassesOwn.never (pt_cmpR (op_neD hr.units) (pv 3) (pe_lst pa_nil) (nomark _))
        (pss_cons (ps_set (i := 4) scForcedRows.nd rfl (Or.inl rfl) (pe_bm PySem.F.plainAttrs_list PySem.F.slot_list_pop PySem.F.type_list_pop mt_popAt (pv 3) (pa_cons pe_int pa_nil)))
        (pss_one (ps_for PassesOwn.never rfl (pi_list (pe_call G2 hr (by rfl) m2 k2 b2 .nil pass0 (pa_cons (pv 0) (pa_cons (pv 4) (pa_cons (pe_ix ix_tup (pe_nget hr.units (pv 1) (pv 4) (fun _ _ => rfl)) pe_int (fun _ _ => rfl)) pa_nil))))) (pg_name (i := 5) scForcedRows.nd rfl (Or.inl rfl))
            (pss_one (ps_if (pt_cmp (pc_nnotin hr.units (pv 5) (pv 2)) (by with_unfolding_all rfl))
                (pss_cons (ps_nput hr.units (pv 2) (pv 5) pe_bl rfl) (pss_one (ps_expr (pe_bm PySem.F.plainAttrs_list PySem.F.slot_list_append PySem.F.type_list_append mt_append (pv 3) (pa_cons (pv 5) pa_nil))))) pss_nil))))))
      (pss_one (ps_ret (pe_lock (pe_lc (own := [("layout", 4)]) (g := gName 4) (tt := tYes) rfl scForcedRows.nd (pi_keysN (pv 2))
          (blkOk_by (N := ["game", "ranks", "found", "line", "layout", "other"]) (sc := defScope sForcedRows) (by decide +kernel))
          (fun _ _ _ _ _ => pg_name (i := 4) scForcedRows.nd rfl (Or.inl rfl)) (fun _ _ _ _ _ => pts_nil) (fun _ _ _ _ _ => pe_tup (pa_cons (pv 4) (pa_starE K (pe_ngetE w K hr.units (pv 1) (pv 4) (fun _ _ => rfl)) pa_nil)))))))))  , ?_⟩
    intro fd nfd
    refine ⟨by rw [sizeLine_eq]; show 0 ≤ 16777216; omega, fun e0 ne0 => ⟨keyL [], ?_, ?_, fun H1 b1 hn1 => ?_⟩⟩
    · rw [upd_ne (ne_of_none upd_same ne0)]
      exact upd_same
    · exact keyD_L (.tup (sqT_of upd_same) .nil)
    have sA : Same H (upd (upd H fd (dN w fd [])) e0 (.tup [])) := (same_upd nfd).trans (same_upd ne0)
    have sB : Same H H1 := fun b o e => b1 _ _ (ne_of_none e nfd) (sA _ _ e)
    refine ⟨by rw [sizeLine_eq]; show 0 ≤ 16777216; omega, fun e1 ne1 => ⟨by rw [sizeLine_eq]; show 1 ≤ 16777216; omega, fun ll nll => ⟨_, _, rfl, ?_⟩⟩⟩
    have s2 := same_upd (o := .tup []) ne1
    have s3 := same_upd (o := .lst [.ref e1]) nll
    have nllH : H ll = none := sB.free (s2.free nll)
    have lfd : ll ≠ fd := by
      obtain ⟨ys, e, _⟩ := hn1
      exact fun z => ne_of_none (s2 _ _ e) nll z.symm
    refine ⟨FInv w K G H g rd fd ll rs, ⟨_, [[]], [[]], [.ref e1], _, _, rfl, (sB.trans s2).trans s3, (hn1.same s2).same s3, upd_same, .cons (.tup (sqT_of (s3 _ _ upd_same)) .nil) .nil, by simp, ?_, List.mem_singleton.mpr rfl, fun L hL => hL, fun L hL hn => absurd hL hn, Nat.le_refl _, rfl⟩, ?_⟩
    · intro L hL
      rw [List.mem_singleton] at hL
      subst hL
      exact hnil
    rintro m σ H2 ⟨F, Ln, ys, x4, x5, rfl, sH, hn2, hll, dl, nd, hk, hn0, hsub, shut, hle, rfl⟩
    have rdfd : rd ≠ fd := by
      obtain ⟨q, e, _⟩ := hn
      exact ne_of_none e nfd
    have rdll : rd ≠ ll := by
      obtain ⟨q, e, _⟩ := hn
      exact ne_of_none e nllH
    have hre : ∀ L ∈ rs.map (·.1), Reach G L := fun L hL => by
      obtain ⟨r, hr, rfl⟩ := List.mem_map.mp hL
      exact rok.re r hr
    refine ⟨_, rfl, by rw [sizeLine_eq]; show 0 ≤ 16777216; omega, fun l1 nl1 => ?_⟩
    have s4 := same_upd (o := .lst []) nl1
    refine ⟨.list (Ln.map encL), .list [], .lst (sqL_of (s4 _ _ hll)) (dpAll_same s4 dl), .lst (sqL_of upd_same) .nil, shaped_lays Ln, by decide +kernel, _, rfl, ?_⟩
    have hF6 : F.length ≤ 6000 := small F nd fun L hL => (hre L (hk L hL)).lay ok
    cases Ln with
    | nil =>
      have hn4 := hn2.same s4
      have sH4 := sH.trans s4
      generalize upd H2 l1 (.lst []) = H4 at *
      obtain ⟨xn, en, nk, mk⟩ := id hn4
      obtain ⟨hxl, hxr⟩ := rows_KL nk mk
      refine ⟨fd, dN w fd xn, en, trivial, fun od => ?_⟩
      have kpl : Kp [fd] H4 (upd H4 fd (.frz od (dN w fd xn))) := kp_upd (by simp)
      have exl : ∀ x ∈ [fd], NoTup x H4 := fun x hx => by
        rw [List.mem_singleton] at hx
        subst hx
        exact hn_noTup hn4
      have hnl := hn_kp kpl exl (by simp [rdfd]) (hn.same sH4)
      have rkl := (rk.same sH4).kp kpl exl
      refine ⟨_, rfl, fd, od, xn, rfl, upd_same, fun D nD => ?_⟩
      refine lcB_W (K := K) (bs := F) (enc := encL) walk_keysN (keep := fun _ => true) (F := fun L => encF (rowOf rs L)) hxl (by omega) nD (fun H' s => s _ _ upd_same) (fun i H' x H'' hi s y => ?_) (fun _ _ _ => tupOnly_encF _) (fun x L H5 s5 hx hmem R S hR hS => ?_) (fun H5 zs s5 eD hzs => ?_)
      · obtain ⟨rfl, r, hr, rfl⟩ := y
        obtain ⟨L, hL, dL⟩ := hxr i r hr
        exact ⟨Same.refl _, L, hL, dp_same s (dp_kp kpl exl (tupOnly_encL L) dL)⟩
      · refine ⟨wipe_one _ 4 _, ?_⟩
        dsimp only [tYes]
        rw [if_pos rfl]
        obtain ⟨r1, r2⟩ := rowOf_mem (hk L hmem)
        obtain ⟨v, hv, dv⟩ := (rkl.same s5).get rok.nd r1
        rw [r2] at hv
        obtain ⟨vp, vq, rfl, sq, h2⟩ := dp_encV dv
        refine ⟨_, rfl, _, rfl, _, rfl, rd, kvs, keyL L, _, rfl, (hnl.same s5).rd, keyD_L hx, hv, _, _, rfl, .inl sq, ?_⟩
        refine ⟨by rw [sizeLine_eq]; show 3 ≤ 16777216; omega, fun p np => ?_⟩
        have s6 := same_upd (o := .tup [x, .int (rowOf rs L).2.1, .ref vq]) np
        refine hR _ _ s6 rfl (.tup (sqT_of upd_same) ?_)
        rw [r2]
        exact .cons (dp_same s6 hx) (.cons (.int _) (.cons (dp_same s6 h2) .nil))
      rw [filter_ttB] at hzs
      refine ⟨s5 _ _ upd_same, ?_⟩
      have e5 := s5 _ _ (upd_same (H := H4) (a := fd) (o := .frz od (dN w fd xn)))
      have kp6 : Kp [fd] H5 (upd H5 fd (dN w fd xn)) := kp_upd (by simp)
      have ex6 : ∀ x ∈ [fd], NoTup x H5 := fun x hx ys => by
        rw [List.mem_singleton] at hx
        subst hx
        rw [e5]
        exact ⟨(fun e => nomatch e), fun o => (fun e => nomatch e)⟩
      have Dfd : D ≠ fd := fun e => by rw [e, upd_same] at nD; cases nD
      have nDH : H D = none := by
        cases hD : H D with
        | none => rfl
        | some o =>
          have h1 := sH4 _ _ hD
          rw [upd_ne Dfd, h1] at nD
          cases nD
      refine hq _ D zs (F.map (rowOf rs)) (fun b o e => ?_) (by rw [upd_ne Dfd]; exact eD) nDH ?_ ⟨?_, ?_, ?_, ?_⟩
      · have hb : b ≠ fd := ne_of_none e nfd
        rw [upd_ne hb]
        refine s5 _ _ ?_
        rw [upd_ne hb]
        exact sH4 _ _ e
      · rw [List.map_map]
        exact dpAll_kp kp6 ex6 (tupAll_map (f := fun L => encF (rowOf rs L)) (fun _ => tupOnly_encF _) F) hzs
      · have e : (F.map (rowOf rs)).map (·.1) = F := by
          rw [List.map_map]
          conv => rhs; rw [← List.map_id F]
          exact List.map_congr_left fun L hL => (rowOf_mem (hk L hL)).2
        rw [e]
        exact nd
      · intro r hr
        obtain ⟨L, hL, rfl⟩ := List.mem_map.mp hr
        exact (rowOf_mem (hk L hL)).1
      · exact List.mem_map.mpr ⟨rowOf rs [], List.mem_map.mpr ⟨[], hn0, rfl⟩, (rowOf_mem hnil).2⟩
      · intro r hr o ho
        obtain ⟨L, hL, rfl⟩ := List.mem_map.mp hr
        rw [(rowOf_mem (hk L hL)).2] at ho
        have h1 := shut L hL (fun h => nomatch h) o ho
        exact List.mem_map.mpr ⟨rowOf rs o, List.mem_map.mpr ⟨o, h1, rfl⟩, (rowOf_mem (hk o h1)).2⟩
    | cons L0 Lr =>
      refine iteT ⟨fun σ' H' => ∃ m', m' < 6000 - F.length + (L0 :: Lr).length ∧ FInv w K G H g rd fd ll rs m' σ' H', fun σ' H' h => h, ?_⟩
      rw [List.map_cons] at dl
      cases dl with
      | @cons y0 yr _ _ dy0 dyr =>
      have hll4 := s4 _ _ hll
      have hn4 := hn2.same s4
      have dy04 := dp_same s4 dy0
      have dyr4 := dpAll_same s4 dyr
      have sH4 := sH.trans s4
      generalize upd H2 l1 (.lst []) = H4 at *
      refine ⟨_, rfl, .inl ⟨rfl, _, sqL_of hll4⟩, ll, y0 :: yr, 0, 0, y0, rfl, rfl, hll4, by omega, by omega, by simp [seqIndex?], rfl, ?_⟩
      have kp5 : Kp [fd, ll] H4 (upd H4 ll (.lst ((y0 :: yr).eraseIdx 0))) := kp_upd (by simp)
      have ex4 : ∀ x ∈ [fd, ll], NoTup x H4 := by
        intro x hx
        rw [List.mem_cons, List.mem_singleton] at hx
        rcases hx with rfl | rfl
        · exact hn_noTup hn4
        · exact noTup_lst hll4
      have exl4 : ∀ x ∈ [ll], NoTup x H4 := fun x hx => ex4 x (List.mem_cons_of_mem _ hx)
      have dy05 : Dp K _ y0 (encL L0) := dp_kp kp5 ex4 (tupOnly_encL L0) dy04
      have dyr5 := dpAll_kp kp5 ex4 (tupAll_lays Lr) dyr4
      have hn5 : HN w K (upd H4 ll (.lst ((y0 :: yr).eraseIdx 0))) fd (KL F) := hn_kp (ex := [ll]) (kp_upd (by simp)) exl4 (by simp [Ne.symm lfd]) hn4
      have hll5 : upd H4 ll (.lst ((y0 :: yr).eraseIdx 0)) ll = some (.lst yr) := upd_same
      have sH5 : Same H (upd H4 ll (.lst ((y0 :: yr).eraseIdx 0))) := fun b o e => by
        rw [upd_ne (ne_of_none e nllH)]
        exact sH4 _ _ e
      generalize upd H4 ll (.lst ((y0 :: yr).eraseIdx 0)) = H5 at *
      have hL0 : L0 ∈ F := hsub L0 List.mem_cons_self
      have hk0 := hk L0 hL0
      obtain ⟨r1, r2⟩ := rowOf_mem hk0
      obtain ⟨v, hv, dv⟩ := (rk.same sH5).get rok.nd r1
      rw [r2] at hv
      obtain ⟨q1, q2, q3⟩ := rok.ok _ r1
      rw [r2] at q2
      obtain ⟨vp, vq, rfl, sq, h2⟩ := dp_encV dv
      refine ⟨_, rfl, _, rfl, _, rfl, _, rfl, rd, kvs, keyL L0, _, rfl, (hn.same sH5).rd, keyD_L dy05, hv, _, _, 1, _, rfl, rfl, sq, rfl, ?_⟩
      refine ⟨g, y0, _, G, L0, (rowOf rs L0).2.2, rfl, dp_same sH5 hg, ok, dy05, (hre L0 hk0).lay ok, h2, q2, fun H6 a2 os s6 hos na2 dos => ?_⟩
      refine ⟨a2, rfl, ⟨_, sqL_of hos⟩, ?_⟩
      have a2n : a2 ∉ [fd, ll] := by
        intro hx
        rw [List.mem_cons, List.mem_singleton] at hx
        rcases hx with rfl | rfl
        · obtain ⟨q, e, _⟩ := hn5
          rw [e] at na2
          cases na2
        · rw [hll5] at na2
          cases na2
      have hol := dpAll_len dos
      rw [List.length_map] at hol
      have hll6 := s6 _ _ hll5
      have hn6 := hn5.same s6
      have ex6 : ∀ x ∈ [fd, ll], NoTup x H6 := by
        intro x hx
        rw [List.mem_cons, List.mem_singleton] at hx
        rcases hx with rfl | rfl
        · exact hn_noTup hn6
        · exact noTup_lst hll6
      have sH6 := sH5.trans s6
      have hlr : Lr.length ≤ yr.length := by rw [dpAll_len dyr4, List.length_map]; exact Nat.le_refl _
      refine for_list (K := K) (xs := os) (fun t σ H' => ∃ A ys' x5, σ = [some g, some (.ref rd), some (.ref fd), some (.ref ll), some y0, x5] ∧ Kp [fd, ll] H6 H' ∧ HN w K H' fd (KL (F ++ A)) ∧ H' ll = some (.lst ys') ∧ DpAll K H' ys' ((Lr ++ A).map encL) ∧ (F ++ A).Nodup ∧ (∀ L ∈ F ++ A, L ∈ rs.map (·.1)) ∧ ∀ o ∈ (ledTo G L0 (rowOf rs L0).2.2).take t, o ∈ F ++ A) ?_ (fun t σ H' ht p => ?_) (fun t z σ H7 hz p => ?_) (fun σ H' p => ?_)
      · refine ⟨[], yr, _, rfl, Kp.refl, ?_, hll6, ?_, ?_, ?_, fun o ho => by simp at ho⟩
        · rw [List.append_nil]; exact hn6
        · rw [List.append_nil]; exact dpAll_same s6 dyr5
        · rw [List.append_nil]; exact nd
        · rw [List.append_nil]; exact hk
      · obtain ⟨_, _, _, _, kp, _⟩ := p
        exact sqL_of (kp _ _ a2n hos)
      · obtain ⟨A, ys', x5, rfl, kp7, hn7, hll7, dl7, nd7, hk7, in7⟩ := p
        obtain ⟨d, hd, hzd⟩ := dpAll_get dos hz
        rw [List.getElem?_map] at hd
        cases hO : (ledTo G L0 (rowOf rs L0).2.2)[t]? with
        | none => rw [hO] at hd; cases hd
        | some o =>
        rw [hO] at hd
        cases hd
        have hom : o ∈ ledTo G L0 (rowOf rs L0).2.2 := List.mem_of_getElem? hO
        have hz7 : Dp K H7 z (encL o) := dp_kp kp7 ex6 (tupOnly_encL o) hzd
        have hlen7 := small (F ++ A) nd7 fun L hL => (hre L (hk7 L hL)).lay ok
        refine ⟨_, rfl, _, rfl, fd, KL (F ++ A), keyL o, rfl, hn7.rd, keyD_L hz7, _, rfl, ?_⟩
        rw [isSome_lay (keys_KL (F ++ A))]
        have take1 : ∀ {q : Lay}, q ∈ (ledTo G L0 (rowOf rs L0).2.2).take (t + 1) → q ∈ (ledTo G L0 (rowOf rs L0).2.2).take t ∨ q = o := by
          intro q hq'
          rw [List.take_add_one, hO] at hq'
          simpa using hq'
        by_cases hin : o ∈ F ++ A
        · rw [decide_eq_true hin]
          refine iteF ?_
          refine ⟨A, ys', _, rfl, kp7, hn7, hll7, dl7, nd7, hk7, fun q hq' => ?_⟩
          rcases take1 hq' with h | rfl
          · exact in7 q h
          · exact hin
        · rw [decide_eq_false hin]
          refine iteT ?_
          refine ⟨_, rfl, _, rfl, fd, KL (F ++ A), keyL o, rfl, hn7, by unfold KL; rw [List.length_map, sizeLine_eq]; omega, keyD_L hz7, fun H8 b8 hn8 => ?_⟩
          rw [put_KL hin, List.append_assoc] at hn8
          have ex7 : ∀ x ∈ [fd, ll], NoTup x H7 := by
            intro x hx
            rw [List.mem_cons, List.mem_singleton] at hx
            rcases hx with rfl | rfl
            · exact hn_noTup hn7
            · exact noTup_lst hll7
          have kp78 : Kp [fd, ll] H7 H8 := but_kp b8 (by simp)
          have hll8 := b8 _ _ lfd hll7
          have dl8 : DpAll K H8 ys' ((Lr ++ A).map encL) := dpAll_kp kp78 ex7 (tupAll_lays _) dl7
          have hz8 : Dp K H8 z (encL o) := dp_kp kp78 ex7 (tupOnly_encL o) hz7
          have hzl := dpAll_len dl8
          rw [List.length_map] at hzl
          have hll9 : Lr.length + 1 ≤ F.length := hle
          rw [List.length_append] at hzl hlen7
          refine ⟨_, rfl, .inl ⟨rfl, _, sqL_of hll8⟩, _, rfl, ll, ys', z, rfl, rfl, hll8, by rw [sizeLine_eq]; omega, ?_⟩
          have kp89 : Kp [fd, ll] H8 (upd H8 ll (.lst (ys' ++ [z]))) := kp_upd (by simp)
          have ex8 : ∀ x ∈ [fd, ll], NoTup x H8 := by
            intro x hx
            rw [List.mem_cons, List.mem_singleton] at hx
            rcases hx with rfl | rfl
            · exact hn_noTup hn8
            · exact noTup_lst hll8
          refine ⟨A ++ [o], ys' ++ [z], _, rfl, (kp7.trans kp78).trans kp89, ?_, upd_same, ?_, ?_, ?_, fun q hq' => ?_⟩
          · refine hn_kp (ex := [ll]) (kp_upd (by simp)) (fun x hx => ?_) (by simp [Ne.symm lfd]) hn8
            rw [List.mem_singleton] at hx
            subst hx
            exact noTup_lst hll8
          · rw [← List.append_assoc, List.map_append]
            exact dpAll_kp kp89 ex8 (by rw [← List.map_append]; exact tupAll_lays (Lr ++ A ++ [o])) (dpAll_snoc dl8 hz8)
          · rw [← List.append_assoc]
            exact List.nodup_append.mpr ⟨nd7, by simp, fun a ha b hb => by rw [List.mem_singleton] at hb; subst hb; exact fun e => hin (e ▸ ha)⟩
          · intro q hq'
            rw [← List.append_assoc] at hq'
            rcases List.mem_append.mp hq' with h | h
            · exact hk7 q h
            · rw [List.mem_singleton] at h
              subst h
              obtain ⟨r, hr, hr2, _⟩ := q3 q (by rw [r2]; exact hom)
              exact List.mem_map.mpr ⟨r, hr, hr2⟩
          · rw [← List.append_assoc]
            rcases take1 hq' with h | rfl
            · exact List.mem_append_left _ (in7 q h)
            · exact List.mem_append_right _ List.mem_cons_self
      · obtain ⟨A, ys', x5, rfl, kp7, hn7, hll7, dl7, nd7, hk7, in7⟩ := p
        rw [hol, List.take_length] at in7
        have hlen7 := small (F ++ A) nd7 fun L hL => (hre L (hk7 L hL)).lay ok
        refine ⟨_, ?_, F ++ A, Lr ++ A, ys', _, _, rfl, fun b o e => kp7 b o (fun hb => ?_) (sH6 b o e), hn7, hll7, dl7, nd7, hk7, List.mem_append_left _ hn0, fun L hL => ?_, fun L hL hno o ho => ?_, ?_, rfl⟩
        · rw [List.length_append] at hlen7 ⊢
          rw [List.length_append, List.length_cons]
          omega
        · rw [List.mem_cons, List.mem_singleton] at hb
          rcases hb with rfl | rfl
          · rw [nfd] at e; cases e
          · rw [nllH] at e; cases e
        · rcases List.mem_append.mp hL with h | h
          · exact List.mem_append_left _ (hsub L (List.mem_cons_of_mem _ h))
          · exact List.mem_append_right _ h
        · rcases List.mem_append.mp hL with h | h
          · by_cases e : L = L0
            · subst e
              exact in7 o ho
            · refine List.mem_append_left _ (shut L h (fun hm => ?_) o ho)
              rcases List.mem_cons.mp hm with h2 | h2
              · exact e h2
              · exact hno (List.mem_append_left _ h2)
          · exact absurd (List.mem_append_right _ h) hno
        · rw [List.length_append, List.length_append]
          rw [List.length_cons] at hle
          omega
end
end K23
set_option maxHeartbeats 1000000
namespace K23
open PySem PySem.Spec PyProof.Rows L2 KSup NdefX StX KNest
abbrev SRow := Lay × Int × Int
def encS (r : SRow) : PyData := .tuple [encL r.1, .int r.2.1, .int r.2.2]
theorem tupOnly_encS (r : SRow) : tupOnly (encS r) = true := by simp [encS, tupOnly, tupAll, tupOnly_encL]
theorem moves_nodup {G : Game} {L : Lay} (ok : OkG G) (lay : IsLay G L) : (movesAt G L).Nodup := by
  unfold movesAt
  refine List.nodup_append.mpr ⟨?_, ?_, ?_⟩
  · have h := lay.up ok
    refine List.Pairwise.map _ (fun a b h e => ?_) h
    injection e with e
    omega
  · have h : (wants G L).Nodup := by
      unfold wants
      split
      · exact List.nodup_nil
      · exact (ok.up.imp fun {a b} h => Int.ne_of_lt h).sublist List.filter_sublist
    exact List.Pairwise.map _ (fun a b h e => h (by injection e)) h
  · intro a ha b hb e
    obtain ⟨x, _, rfl⟩ := List.mem_map.mp ha
    obtain ⟨z, _, rfl⟩ := List.mem_map.mp hb
    cases e
section
variable {P : Program} {w : World} {K : PySem.W.Frag} {mg : Str → Option Value} {base : Heap} {f g1 g2 g3 g4 : Addr} {fd gd1 gd2 gd3 gd4 : FuncData}
/-! ### safe_start -/
def spSafe (w : World) (K : PySem.W.Frag) : Sp := fun vs H Q _ => ∃ (g : V) (rd : Addr) (l : V) (z : Int) (G : Game) (kvs : List (NK × V)) (ks : List Lay) (L : Lay), vs = [g, .ref rd, l, .int z] ∧ Dp K H g (encG G) ∧ OkG G ∧ HN w K H rd kvs ∧ kvs.map (·.1) = ks.map keyL ∧ Dp K H l (encL L) ∧ IsLay G L ∧ z ∈ G.zs ∧ (∃ s ∈ freeS G.c L z, insB (s, z) L ∉ ks) ∧
  ∀ H' s, Same H H' → s ∈ freeS G.c L z → insB (s, z) L ∉ ks → Q (.int s) H'
theorem ok_safe (F : FnP K "safe_start" sSafe f fd) (T : Bl mg)
    (G1 : FnOk P w K mg base CX0 1 g1 gd1 ["layout", "start", "size"] (spPutAt K)) (k1 : PySem.W.keepIn K (.ref g1) = true) (b1 : Binds K gd1 ["layout", "start", "size"] []) (m1 : mg "put_at" = some (.ref g1))
    (G2 : FnOk P w K mg base CX0 1 g2 gd2 ["game", "layout", "size"] (spFree K)) (k2 : PySem.W.keepIn K (.ref g2) = true) (b2 : Binds K gd2 ["game", "layout", "size"] []) (m2 : mg "free_starts" = some (.ref g2)) :
    FnOk P w K mg base CX0 2 f fd ["game", "ranks", "layout", "size"] (spSafe w K) := by
  refine F.ok scSafe (fun vs H Q E h => ?_) (fun cdv A outer s H vs Q E hr h => ?_)
  · obtain ⟨g, rd, l, z, G, kvs, ks, L, rfl, _⟩ := h
    rfl
  · obtain ⟨g, rd, l, z, G, kvs, ks, L, rfl, hg, ok, hn, hks, hl, lay, hz, hex, hq⟩ := h
    refine ⟨_, PSs.nox (pss_cons (ps_for PassesOwn.never rfl (pi_list (pe_call G2 hr (by rfl) m2 k2 b2 .nil pass0 (pa_cons (pv 0) (pa_cons (pv 2) (pa_cons (pv 3) pa_nil))))) (pg_name (i := 4) scSafe.nd rfl (Or.inl rfl))
        (pss_one (ps_if (pt_cmp (pc_nnotin hr.units (pe_call G1 hr (by rfl) m1 k1 b1 .nil pass0 (pa_cons (pv 2) (pa_cons (pv 4) (pa_cons (pv 3) pa_nil)))) (pv 1)) (by with_unfolding_all rfl)) (pss_one (ps_ret (pv 4))) pss_nil)))
      (pss_one (ps_ret pe_non))), ?_⟩
    have hz3 := ok.zs z hz
    have lm := lay.m
    have cm := ok.m
    refine ⟨_, rfl, _, rfl, _, rfl, g, l, z, G, L, rfl, hg, ok, hl, lay, hz3, fun H1 a xs s1 hxs na dxs => ?_⟩
    refine ⟨a, rfl, ⟨_, sqL_of hxs⟩, ?_⟩
    have ex := ints_of dxs
    subst ex
    refine for_list (K := K) (xs := (freeS G.c L z).map V.int) (fun i σ H' => ∃ x4, σ = [some g, some (.ref rd), some l, some (.int z), x4] ∧ Same H1 H' ∧ ∀ s ∈ (freeS G.c L z).take i, insB (s, z) L ∈ ks) ?_ (fun i σ H' hi p => ?_) (fun i x σ H' hx p => ?_) (fun σ H' p => ?_)
    · exact ⟨_, rfl, Same.refl _, fun s hs => by simp at hs⟩
    · obtain ⟨_, _, s2, _⟩ := p
      exact sqL_of (s2 _ _ hxs)
    · obtain ⟨x4, rfl, s2, hall⟩ := p
      rw [List.getElem?_map] at hx
      cases hs : (freeS G.c L z)[i]? with
      | none => rw [hs] at hx; cases hx
      | some st =>
      rw [hs] at hx
      cases hx
      have hst : st ∈ freeS G.c L z := List.mem_of_getElem? hs
      have s12 := s1.trans s2
      refine ⟨_, rfl, _, rfl, _, rfl, l, st, z, L, rfl, dp_same s12 hl, by omega, lay.up ok, (free_facts ok lay hz hst).1, fun H3 v s3 hv => ?_⟩
      refine ⟨_, rfl, rd, kvs, keyL (insB (st, z) L), rfl, (hn.same (s12.trans s3)).rd, keyD_L hv, _, rfl, ?_⟩
      rw [isSome_lay hks]
      by_cases hin : insB (st, z) L ∈ ks
      · rw [decide_eq_true hin]
        refine iteF ⟨_, rfl, s2.trans s3, fun s hs' => ?_⟩
        rw [List.take_add_one, hs] at hs'
        rcases List.mem_append.mp hs' with h | h
        · exact hall s h
        · have e : s = st := by simpa using h
          subst e
          exact hin
      · rw [decide_eq_false hin]
        exact iteT ⟨_, rfl, hq _ st (s12.trans s3) hst hin⟩
    · obtain ⟨x4, rfl, s2, hall⟩ := p
      rw [List.length_map, List.take_length] at hall
      obtain ⟨s, hs, hno⟩ := hex
      exact absurd (hall s hs) hno
/-! ### served_rows -/
def Done (G : Game) (Fs : List Lay) (R : List SRow) (L : Lay) (m : Mv) : Prop := (∀ s, m = .give s → dropS L s ∈ Fs) ∧ ∀ z, m = .want z → ∃ st, (L, z, st) ∈ R ∧ st ∈ freeS G.c L z ∧ insB (st, z) L ∈ Fs
theorem Done.mono {G : Game} {Fs Fs' : List Lay} {R R' : List SRow} {L : Lay} {m : Mv} (h : Done G Fs R L m) (a : ∀ x ∈ Fs, x ∈ Fs') (b : ∀ x ∈ R, x ∈ R') : Done G Fs' R' L m :=
  ⟨fun s e => a _ (h.1 s e), fun z e => let ⟨st, h1, h2, h3⟩ := h.2 z e; ⟨st, b _ h1, h2, a _ h3⟩⟩
structure SvOk (G : Game) (rs : List RRow) (rows : List SRow) (Vs : List Lay) : Prop where
  nil : [] ∈ Vs
  re : ∀ L ∈ Vs, Reach G L ∧ L ∉ rs.map (·.1)
  done : ∀ L ∈ Vs, ∀ m ∈ movesAt G L, Done G Vs rows L m
  row : ∀ r ∈ rows, r.1 ∈ Vs ∧ r.2.1 ∈ wants G r.1 ∧ r.2.2 ∈ freeS G.c r.1 r.2.1
  nd : (rows.map fun r => (r.1, r.2.1)).Nodup
structure SCt (w : World) (K : PySem.W.Frag) (H6 H' : Hp) (rw fd ll : Addr) (F Ln : List Lay) (R : List SRow) : Prop where
  kp : Kp [rw, fd, ll] H6 H'
  hn : HN w K H' fd (KL F)
  ll : ∃ ys, H' ll = some (.lst ys) ∧ DpAll K H' ys (Ln.map encL)
  rw : ∃ zs, H' rw = some (.lst zs) ∧ DpAll K H' zs (R.map encS)
section
variable {H6 H' : Hp} {rw fd ll : Addr} {F Ln : List Lay} {R : List SRow}
theorem SCt.noTups (h : SCt w K H6 H' rw fd ll F Ln R) : ∀ x ∈ [rw, fd, ll], NoTup x H' := by
  intro x hx
  rw [List.mem_cons, List.mem_cons, List.mem_singleton] at hx
  rcases hx with rfl | rfl | rfl
  · obtain ⟨_, e, _⟩ := h.rw
    exact noTup_lst e
  · exact hn_noTup h.hn
  · obtain ⟨_, e, _⟩ := h.ll
    exact noTup_lst e
theorem SCt.same {H2 : Hp} (h : SCt w K H6 H' rw fd ll F Ln R) (s : Same H' H2) : SCt w K H6 H2 rw fd ll F Ln R := by
  obtain ⟨ys, e1, d1⟩ := h.ll
  obtain ⟨zs, e2, d2⟩ := h.rw
  exact ⟨h.kp.trans (same_kp s), h.hn.same s, ⟨ys, s _ _ e1, dpAll_same s d1⟩, ⟨zs, s _ _ e2, dpAll_same s d2⟩⟩
theorem SCt.row {zs : List V} {z : V} {r : SRow} (h : SCt w K H6 H' rw fd ll F Ln R) (n1 : rw ≠ fd) (n2 : rw ≠ ll) (e : H' rw = some (.lst zs)) (hz : Dp K H' z (encS r)) : SCt w K H6 (upd H' rw (.lst (zs ++ [z]))) rw fd ll F Ln (R ++ [r]) := by
  obtain ⟨ys, e1, d1⟩ := h.ll
  obtain ⟨zs', e2, d2⟩ := h.rw
  rw [e] at e2
  cases e2
  have kp1 : Kp [rw] H' (upd H' rw (.lst (zs ++ [z]))) := kp_upd (by simp)
  have ex1 : ∀ x ∈ [rw], NoTup x H' := fun x hx => h.noTups x (by rw [List.mem_singleton] at hx; simp [hx])
  refine ⟨h.kp.trans (kp_upd (by simp)), hn_kp kp1 ex1 (by simp [Ne.symm n1]) h.hn, ⟨ys, by rw [upd_ne (Ne.symm n2)]; exact e1, dpAll_kp kp1 ex1 (tupAll_lays _) d1⟩, ⟨_, upd_same, ?_⟩⟩
  rw [List.map_append]
  exact dpAll_kp kp1 ex1 (by rw [← List.map_append]; exact tupAll_map tupOnly_encS _) (dpAll_snoc d2 hz)
theorem SCt.put {H8 : Hp} {o : Lay} (h : SCt w K H6 H' rw fd ll F Ln R) (n1 : rw ≠ fd) (n3 : ll ≠ fd) (b : But fd H' H8) (hn : HN w K H8 fd (KL (F ++ [o]))) : SCt w K H6 H8 rw fd ll (F ++ [o]) Ln R := by
  obtain ⟨ys, e1, d1⟩ := h.ll
  obtain ⟨zs, e2, d2⟩ := h.rw
  have kp1 : Kp [fd] H' H8 := but_kp b (by simp)
  have ex1 : ∀ x ∈ [fd], NoTup x H' := fun x hx => h.noTups x (by rw [List.mem_singleton] at hx; simp [hx])
  exact ⟨h.kp.trans (but_kp b (by simp)), hn, ⟨ys, b _ _ n3 e1, dpAll_kp kp1 ex1 (tupAll_lays _) d1⟩, ⟨zs, b _ _ n1 e2, dpAll_kp kp1 ex1 (tupAll_map tupOnly_encS _) d2⟩⟩
theorem SCt.line {ys : List V} {z : V} {o : Lay} (h : SCt w K H6 H' rw fd ll F Ln R) (n2 : rw ≠ ll) (n3 : ll ≠ fd) (e : H' ll = some (.lst ys)) (hz : Dp K H' z (encL o)) : SCt w K H6 (upd H' ll (.lst (ys ++ [z]))) rw fd ll F (Ln ++ [o]) R := by
  obtain ⟨ys', e1, d1⟩ := h.ll
  obtain ⟨zs, e2, d2⟩ := h.rw
  rw [e] at e1
  cases e1
  have kp1 : Kp [ll] H' (upd H' ll (.lst (ys ++ [z]))) := kp_upd (by simp)
  have ex1 : ∀ x ∈ [ll], NoTup x H' := fun x hx => h.noTups x (by rw [List.mem_singleton] at hx; simp [hx])
  refine ⟨h.kp.trans (kp_upd (by simp)), hn_kp kp1 ex1 (by simp [Ne.symm n3]) h.hn, ⟨_, upd_same, ?_⟩, ⟨zs, by rw [upd_ne n2]; exact e2, dpAll_kp kp1 ex1 (tupAll_map tupOnly_encS _) d2⟩⟩
  rw [List.map_append]
  exact dpAll_kp kp1 ex1 (by rw [← List.map_append]; exact tupAll_lays _) (dpAll_snoc d1 hz)
end
/-- what is known between two layouts -/
structure SW (G : Game) (rs : List RRow) (F Ln : List Lay) (R : List SRow) : Prop where
  nd : F.Nodup
  re : ∀ L ∈ F, Reach G L ∧ L ∉ rs.map (·.1)
  nil : [] ∈ F
  ln : ∀ L ∈ Ln, L ∈ F
  lnd : Ln.Nodup
  done : ∀ L ∈ F, L ∉ Ln → ∀ m ∈ movesAt G L, Done G F R L m
  row : ∀ r ∈ R, (r.1 ∈ F ∧ r.1 ∉ Ln) ∧ r.2.1 ∈ wants G r.1 ∧ r.2.2 ∈ freeS G.c r.1 r.2.1
  rnd : (R.map fun r => (r.1, r.2.1)).Nodup
  le : Ln.length ≤ F.length
def spServedRows (w : World) (K : PySem.W.Frag) : Sp := fun vs H Q _ => ∃ g rd G kvs rs, vs = [g, .ref rd] ∧ Dp K H g (encG G) ∧ OkG G ∧ Small G ∧ HN w K H rd kvs ∧ RKV K H kvs rs ∧ Shut G rs ∧ [] ∉ rs.map (·.1) ∧
  ∀ (H' : Hp) (a : Addr) (xs : List V) (rows : List SRow) (Vs : List Lay), Same H H' → H' a = some (.lst xs) → H a = none → DpAll K H' xs (rows.map encS) → rows.length ≤ 100000 → SvOk G rs rows Vs → Q (.ref a) H'
def SInv (w : World) (K : PySem.W.Frag) (G : Game) (H : Hp) (g : V) (rd rw fd ll : Addr) (rs : List RRow) (m : Nat) (σ : L2.St) (H' : Hp) : Prop := ∃ (F Ln : List Lay) (R : List SRow) (x5 x6 x7 x8 x9 : Option V), σ = [some g, some (.ref rd), some (.ref rw), some (.ref fd), some (.ref ll), x5, x6, x7, x8, x9] ∧
  Same H H' ∧ SCt w K H' H' rw fd ll F Ln R ∧ SW G rs F Ln R ∧ R.length ≤ 7 * (F.length - Ln.length) ∧ m = 6000 - F.length + Ln.length
/-- in the middle of a layout's moves -/
structure SM (G : Game) (rs : List RRow) (F0 : List Lay) (L0 : Lay) (Lr : List Lay) (R0 : List SRow) (k : Nat) (A : List Lay) (R : List SRow) : Prop where
  nd : (F0 ++ A).Nodup
  re : ∀ L ∈ F0 ++ A, Reach G L ∧ L ∉ rs.map (·.1)
  done : ∀ m ∈ (movesAt G L0).take k, Done G (F0 ++ A) R L0 m
  sub : ∀ r ∈ R0, r ∈ R
  row : ∀ r ∈ R, r ∈ R0 ∨ (r.1 = L0 ∧ Mv.want r.2.1 ∈ (movesAt G L0).take k ∧ r.2.2 ∈ freeS G.c L0 r.2.1)
  rnd : (R.map fun r => (r.1, r.2.1)).Nodup
  len : R.length ≤ R0.length + k
theorem SCt.pop {H6 H' : Hp} {rw fd ll : Addr} {F Lr : List Lay} {L0 : Lay} {R : List SRow} (h : SCt w K H6 H' rw fd ll F (L0 :: Lr) R) (n2 : rw ≠ ll) (n3 : ll ≠ fd) :
    ∃ y0 yr, H' ll = some (.lst (y0 :: yr)) ∧ Dp K (upd H' ll (.lst yr)) y0 (encL L0) ∧ SCt w K H6 (upd H' ll (.lst yr)) rw fd ll F Lr R := by
  obtain ⟨ys, e1, d1⟩ := h.ll
  obtain ⟨zs, e2, d2⟩ := h.rw
  rw [List.map_cons] at d1
  cases d1 with
  | @cons y0 yr _ _ dy0 dyr =>
  have kp1 : Kp [ll] H' (upd H' ll (.lst yr)) := kp_upd (by simp)
  have ex1 : ∀ x ∈ [ll], NoTup x H' := fun x hx => h.noTups x (by rw [List.mem_singleton] at hx; simp [hx])
  exact ⟨y0, yr, e1, dp_kp kp1 ex1 (tupOnly_encL _) dy0, h.kp.trans (kp_upd (by simp)), hn_kp kp1 ex1 (by simp [Ne.symm n3]) h.hn, ⟨yr, upd_same, dpAll_kp kp1 ex1 (tupAll_lays _) dyr⟩, ⟨zs, by rw [upd_ne n2]; exact e2, dpAll_kp kp1 ex1 (tupAll_map tupOnly_encS _) d2⟩⟩
def mvW : Mv → Str
  | .give _ => "give"
  | .want _ => "want"
def mvN : Mv → Int
  | .give s => s
  | .want z => z
theorem dp_encM2 {H : Hp} {v : V} {m : Mv} (h : Dp K H v (encM m)) : ∃ p, v = .ref p ∧ SqT K H p [.str (mvW m), .int (mvN m)] := by
  obtain ⟨p, rfl, ⟨s, rfl, hs⟩ | ⟨z, rfl, hs⟩⟩ := dp_encM h
  · exact ⟨p, rfl, hs⟩
  · exact ⟨p, rfl, hs⟩
theorem dp_mkM2 {H : Hp} {p : Addr} {m : Mv} (h : SqT K H p [.str (mvW m), .int (mvN m)]) : Dp K H (.ref p) (encM m) := by
  cases m <;> exact dp_mkM h
theorem take_succ_mem {α : Type} {l : List α} {k : Nat} {x y : α} (h : l[k]? = some y) : x ∈ l.take (k + 1) ↔ x ∈ l.take k ∨ x = y := by
  rw [List.take_add_one, h]
  simp
theorem not_mem_take {α : Type} {l : List α} {k : Nat} {y : α} (nd : l.Nodup) (h : l[k]? = some y) : y ∉ l.take k := by
  have h1 : (l.take (k + 1)).Nodup := nd.sublist (List.take_sublist _ _)
  rw [List.take_add_one, h] at h1
  exact fun hm => (List.nodup_append.mp h1).2.2 y hm y (by simp) rfl
def Step (G : Game) (L0 : Lay) (mv : Mv) (R : List SRow) (o : Lay) (R' : List SRow) : Prop := (∃ s, mv = .give s ∧ o = dropS L0 s ∧ R' = R) ∨ ∃ z st, mv = .want z ∧ st ∈ freeS G.c L0 z ∧ o = insB (st, z) L0 ∧ R' = R ++ [(L0, z, st)]
theorem SM.step {G : Game} {rs : List RRow} {F : List Lay} {L0 : Lay} {Lr : List Lay} {R0 R R' : List SRow} {k : Nat} {A A' : List Lay} {mv : Mv} {o : Lay} (h : SM G rs F L0 Lr R0 k A R) (mnd : (movesAt G L0).Nodup) (hR0 : ∀ r ∈ R0, r.1 ≠ L0) (hM : (movesAt G L0)[k]? = some mv)
    (ho : o ∈ F ++ A') (sub : ∀ x ∈ F ++ A, x ∈ F ++ A') (nd' : (F ++ A').Nodup) (re' : ∀ L ∈ F ++ A', Reach G L ∧ L ∉ rs.map (·.1)) (hc : Step G L0 mv R o R') : SM G rs F L0 Lr R0 (k + 1) A' R' := by
  have sR : ∀ r ∈ R, r ∈ R' := by
    rcases hc with ⟨s, _, _, rfl⟩ | ⟨z, st, _, _, _, rfl⟩
    · exact fun r h => h
    · exact fun r h => List.mem_append_left _ h
  refine ⟨nd', re', fun m hm => ?_, fun r hr => sR r (h.sub r hr), fun r hr => ?_, ?_, ?_⟩
  · rcases (take_succ_mem hM).mp hm with h1 | rfl
    · exact (h.done m h1).mono sub sR
    · rcases hc with ⟨s, rfl, rfl, rfl⟩ | ⟨z, st, rfl, hst, rfl, rfl⟩
      · exact ⟨(fun s' e => by injection e with e; rw [← e]; exact ho), (fun z e => nomatch e)⟩
      · refine ⟨(fun s e => nomatch e), fun z' e => ?_⟩
        injection e with e
        subst e
        exact ⟨st, List.mem_append_right _ List.mem_cons_self, hst, ho⟩
  · have old : r ∈ R → r ∈ R0 ∨ (r.1 = L0 ∧ Mv.want r.2.1 ∈ (movesAt G L0).take (k + 1) ∧ r.2.2 ∈ freeS G.c L0 r.2.1) := fun hr => by
      rcases h.row r hr with h1 | ⟨h1, h2, h3⟩
      · exact .inl h1
      · exact .inr ⟨h1, (take_succ_mem hM).mpr (.inl h2), h3⟩
    rcases hc with ⟨s, rfl, rfl, rfl⟩ | ⟨z, st, rfl, hst, rfl, rfl⟩
    · exact old hr
    · rcases List.mem_append.mp hr with h1 | h1
      · exact old h1
      · rw [List.mem_singleton] at h1
        subst h1
        exact .inr ⟨rfl, (take_succ_mem hM).mpr (.inr rfl), hst⟩
  · rcases hc with ⟨s, rfl, rfl, rfl⟩ | ⟨z, st, rfl, hst, rfl, rfl⟩
    · exact h.rnd
    · rw [List.map_append]
      refine List.nodup_append.mpr ⟨h.rnd, by simp, fun a ha b hb e => ?_⟩
      rw [List.map_singleton, List.mem_singleton] at hb
      subst e
      subst hb
      obtain ⟨r, hr, e⟩ := List.mem_map.mp ha
      injection e with e1 e2
      rcases h.row r hr with h1 | ⟨h1, h2, _⟩
      · exact hR0 r h1 e1
      · rw [e2] at h2
        exact not_mem_take mnd hM h2
  · have := h.len
    rcases hc with ⟨s, rfl, rfl, rfl⟩ | ⟨z, st, rfl, hst, rfl, rfl⟩
    · omega
    · rw [List.length_append, List.length_singleton]
      omega
theorem SM.fin {G : Game} {rs : List RRow} {F : List Lay} {L0 : Lay} {Lr : List Lay} {R0 R : List SRow} {k : Nat} {A : List Lay} (h : SM G rs F L0 Lr R0 k A R) (sw : SW G rs F (L0 :: Lr) R0) (hk : (movesAt G L0).take k = movesAt G L0) : SW G rs (F ++ A) (Lr ++ A) R := by
  have lnd := List.nodup_cons.mp sw.lnd
  obtain ⟨nF, nA, dis⟩ := List.nodup_append.mp h.nd
  have l0F : L0 ∈ F := sw.ln L0 List.mem_cons_self
  refine ⟨h.nd, h.re, List.mem_append_left _ sw.nil, fun L hL => ?_, ?_, fun L hL hno m hm => ?_, fun r hr => ?_, h.rnd, ?_⟩
  · rcases List.mem_append.mp hL with h1 | h1
    · exact List.mem_append_left _ (sw.ln L (List.mem_cons_of_mem _ h1))
    · exact List.mem_append_right _ h1
  · exact List.nodup_append.mpr ⟨lnd.2, nA, fun a ha b hb => dis a (sw.ln a (List.mem_cons_of_mem _ ha)) b hb⟩
  · rcases List.mem_append.mp hL with h1 | h1
    · by_cases e : L = L0
      · subst e
        exact h.done m (by rw [hk]; exact hm)
      · refine (sw.done L h1 (fun h2 => ?_) m hm).mono (fun x hx => List.mem_append_left _ hx) h.sub
        rcases List.mem_cons.mp h2 with h3 | h3
        · exact e h3
        · exact hno (List.mem_append_left _ h3)
    · exact absurd (List.mem_append_right _ h1) hno
  · rcases h.row r hr with h1 | ⟨h1, h2, h3⟩
    · obtain ⟨⟨q1, q2⟩, q3⟩ := sw.row r h1
      refine ⟨⟨List.mem_append_left _ q1, fun hm => ?_⟩, q3⟩
      rcases List.mem_append.mp hm with h4 | h4
      · exact q2 (List.mem_cons_of_mem _ h4)
      · exact dis _ q1 _ h4 rfl
    · rw [hk] at h2
      have h5 : r.2.1 ∈ wants G L0 := by
        rcases mem_moves.mp h2 with ⟨b, _, e⟩ | ⟨z, hz, e⟩
        · cases e
        · injection e with e
          rw [e]
          exact hz
      rw [h1]
      refine ⟨⟨List.mem_append_left _ l0F, fun hm => ?_⟩, h5, h3⟩
      rcases List.mem_append.mp hm with h4 | h4
      · exact lnd.1 h4
      · exact dis _ l0F _ h4 rfl
  · have := sw.le
    rw [List.length_cons] at this
    rw [List.length_append, List.length_append]
    omega
theorem ok_servedRows (F : FnP K "served_rows" sServedRows f fd) (T : Bl mg)
    (G1 : FnOk P w K mg base CX0 1 g1 gd1 ["game", "layout"] (spMoves K)) (k1 : PySem.W.keepIn K (.ref g1) = true) (b1 : Binds K gd1 ["game", "layout"] []) (m1 : mg "moves_at" = some (.ref g1))
    (G2 : FnOk P w K mg base CX0 2 g2 gd2 ["game", "layout", "move"] (spLed K)) (k2 : PySem.W.keepIn K (.ref g2) = true) (b2 : Binds K gd2 ["game", "layout", "move"] []) (m2 : mg "led_to" = some (.ref g2))
    (G3 : FnOk P w K mg base CX0 2 g3 gd3 ["game", "ranks", "layout", "size"] (spSafe w K)) (k3 : PySem.W.keepIn K (.ref g3) = true) (b3 : Binds K gd3 ["game", "ranks", "layout", "size"] []) (m3 : mg "safe_start" = some (.ref g3))
    (G4 : FnOk P w K mg base CX0 1 g4 gd4 ["layout", "start", "size"] (spPutAt K)) (k4 : PySem.W.keepIn K (.ref g4) = true) (b4 : Binds K gd4 ["layout", "start", "size"] []) (m4 : mg "put_at" = some (.ref g4)) :
    FnOk P w K mg base CX0 3 f fd ["game", "ranks"] (spServedRows w K) := by
  refine F.ok scServedRows (fun vs H Q E h => ?_) (fun cdv A outer s H vs Q E hr h => ?_)
  · obtain ⟨g, rd, G, kvs, rs, rfl, _⟩ := h
    rfl
  · obtain ⟨g, rd, G, kvs, rs, rfl, hg, ok, small, hn, rk, shutG, hnil, hq⟩ := h
    have r1 : Room 1 (A.deeper (envOfC _ _ s.heap.objs.size f cdv)) := hr.mono (by omega)
    refine ⟨_, PSs.nox (pss_cons (ps_par3 (i := 2) (j := 3) (l := 4) rfl scServedRows.nd rfl rfl rfl (by decide) (by decide) (by decide) rfl rfl rfl (pa_cons (pe_lst pa_nil) (pa_cons (pe_disp1N hr.units (pe_tup pa_nil) pe_bl) (pa_cons (pe_lst (pa_cons (pe_tup pa_nil) pa_nil)) pa_nil))) (by rfl))
      (pss_cons (ps_while PassesOwn.never (pt_cmpR (op_neD hr.units) (pv 4) (pe_lst pa_nil) (nomark _))
        (pss_cons (ps_set (i := 5) scServedRows.nd rfl (Or.inl rfl) (pe_bm PySem.F.plainAttrs_list PySem.F.slot_list_pop PySem.F.type_list_pop mt_popAt (pv 4) (pa_cons pe_int pa_nil)))
        (pss_one (ps_for PassesOwn.never rfl (pi_list (pe_call G1 r1 (by rfl) m1 k1 b1 .nil pass0 (pa_cons (pv 0) (pa_cons (pv 5) pa_nil)))) (pg_tup (t := gCons (gName 6) (gCons (gName 7) gNil)) (n := 2) rfl (pgs_cons (pg_name (i := 6) scServedRows.nd rfl (Or.inl rfl)) (pgs_cons (pg_name (i := 7) scServedRows.nd rfl (Or.inl rfl)) pgs_nil)))
            (C8.pss_cut (ps_if (pt_cmpR op_eq (pv 6) pe_str (nomark _))
                (pss_one (ps_set (i := 8) scServedRows.nd rfl (Or.inl rfl) (pe_ix ix_list (pe_call G2 hr (by rfl) m2 k2 b2 .nil pass0 (pa_cons (pv 0) (pa_cons (pv 5) (pa_cons (pe_tup (pa_cons (pv 6) (pa_cons (pv 7) pa_nil))) pa_nil)))) pe_int (fun _ _ => rfl))))
                (pss_cons (ps_set (i := 9) scServedRows.nd rfl (Or.inl rfl) (pe_call G3 hr (by rfl) m3 k3 b3 .nil pass0 (pa_cons (pv 0) (pa_cons (pv 1) (pa_cons (pv 5) (pa_cons (pv 7) pa_nil))))))
                (pss_cons (ps_expr (pe_bm PySem.F.plainAttrs_list PySem.F.slot_list_append PySem.F.type_list_append mt_append (pv 2) (pa_cons (pe_tup (pa_cons (pv 5) (pa_cons (pv 7) (pa_cons (pv 9) pa_nil)))) pa_nil)))
                (pss_one (ps_set (i := 8) scServedRows.nd rfl (Or.inl rfl) (pe_call G4 r1 (by rfl) m4 k4 b4 .nil pass0 (pa_cons (pv 5) (pa_cons (pv 9) (pa_cons (pv 7) pa_nil)))))))))
            (pss_one (ps_if (pt_cmp (pc_nnotin hr.units (pv 8) (pv 3)) (by with_unfolding_all rfl))
                (pss_cons (ps_nput hr.units (pv 3) (pv 8) pe_bl rfl) (pss_one (ps_expr (pe_bm PySem.F.plainAttrs_list PySem.F.slot_list_append PySem.F.type_list_append mt_append (pv 4) (pa_cons (pv 8) pa_nil))))) pss_nil)))))))
      (pss_one (ps_ret (pv 2)))))  , ?_⟩
    refine ⟨by rw [sizeLine_eq]; show 0 ≤ 16777216; omega, fun rw nrw => ?_⟩
    have s0 := same_upd (o := .lst []) nrw
    intro fd nfd
    refine ⟨by rw [sizeLine_eq]; show 0 ≤ 16777216; omega, fun e0 ne0 => ⟨keyL [], ?_, ?_, fun H1 b1 hn1 => ?_⟩⟩
    · rw [upd_ne (ne_of_none upd_same ne0)]
      exact upd_same
    · exact keyD_L (.tup (sqT_of upd_same) .nil)
    have sA : Same (upd H rw (.lst [])) (upd (upd (upd H rw (.lst [])) fd (dN w fd [])) e0 (.tup [])) := (same_upd nfd).trans (same_upd ne0)
    have sB : Same (upd H rw (.lst [])) H1 := fun b o e => b1 _ _ (ne_of_none e nfd) (sA _ _ e)
    refine ⟨by rw [sizeLine_eq]; show 0 ≤ 16777216; omega, fun e1 ne1 => ⟨by rw [sizeLine_eq]; show 1 ≤ 16777216; omega, fun ll nll => ⟨_, _, _, rfl, ?_⟩⟩⟩
    have s2 := same_upd (o := .tup []) ne1
    have s3 := same_upd (o := .lst [.ref e1]) nll
    have nfdH : H fd = none := s0.free nfd
    have nllH : H ll = none := s0.free (sB.free (s2.free nll))
    have rfd : rw ≠ fd := ne_of_none (upd_same (H := H) (a := rw) (o := .lst [])) nfd
    have rll : rw ≠ ll := ne_of_none (s2 _ _ (sB _ _ (upd_same (H := H) (a := rw) (o := .lst [])))) nll
    have lfd : ll ≠ fd := by
      obtain ⟨ys, e, _⟩ := hn1
      exact fun z => ne_of_none (s2 _ _ e) nll z.symm
    have exN : ∀ x ∈ [rw, fd, ll], H x = none := by
      intro x hx
      rw [List.mem_cons, List.mem_cons, List.mem_singleton] at hx
      rcases hx with rfl | rfl | rfl
      · exact nrw
      · exact nfdH
      · exact nllH
    refine ⟨SInv w K G H g rd rw fd ll rs, ⟨_, [[]], [[]], [], _, _, _, _, _, rfl, ((s0.trans sB).trans s2).trans s3, ⟨Kp.refl, (hn1.same s2).same s3, ⟨[.ref e1], upd_same, .cons (.tup (sqT_of (s3 _ _ upd_same)) .nil) .nil⟩, ⟨[], s3 _ _ (s2 _ _ (sB _ _ upd_same)), .nil⟩⟩, ⟨by simp, ?_, List.mem_singleton.mpr rfl, fun L hL => hL, by simp, fun L hL hn => absurd hL hn, (fun r hr => nomatch hr), List.nodup_nil, Nat.le_refl _⟩, Nat.zero_le _, rfl⟩, ?_⟩
    · intro L hL
      rw [List.mem_singleton] at hL
      subst hL
      exact ⟨.nil, hnil⟩
    rintro m σ H2 ⟨F, Ln, R, x5, x6, x7, x8, x9, rfl, sH, sc, sw, hRl, rfl⟩
    obtain ⟨ys, hll, dl⟩ := sc.ll
    refine ⟨_, rfl, by rw [sizeLine_eq]; show 0 ≤ 16777216; omega, fun l1 nl1 => ?_⟩
    have s4 := same_upd (o := .lst []) nl1
    refine ⟨.list (Ln.map encL), .list [], .lst (sqL_of (s4 _ _ hll)) (dpAll_same s4 dl), .lst (sqL_of upd_same) .nil, shaped_lays Ln, by decide +kernel, _, rfl, ?_⟩
    have hF6 : F.length ≤ 6000 := small F sw.nd fun L hL => (sw.re L hL).1.lay ok
    have sc4 := sc.same s4
    have sH4 := sH.trans s4
    generalize upd H2 l1 (.lst []) = H4 at *
    cases Ln with
    | nil =>
      obtain ⟨zs, hzs, dz⟩ := sc4.rw
      refine ⟨_, rfl, hq _ rw zs R F sH4 hzs nrw dz (by rw [List.length_nil] at hRl; omega) ⟨sw.nil, sw.re, fun L hL => sw.done L hL (fun h => nomatch h), fun r hr => ?_, sw.rnd⟩⟩
      obtain ⟨⟨h1, _⟩, h2⟩ := sw.row r hr
      exact ⟨h1, h2⟩
    | cons L0 Lr =>
      refine iteT ⟨fun σ' H' => ∃ m', m' < 6000 - F.length + (L0 :: Lr).length ∧ SInv w K G H g rd rw fd ll rs m' σ' H', fun σ' H' h => h, ?_⟩
      obtain ⟨y0, yr, hll4, dy0, sc5⟩ := sc4.pop rll lfd
      refine ⟨_, rfl, .inl ⟨rfl, _, sqL_of hll4⟩, ll, y0 :: yr, 0, 0, y0, rfl, rfl, hll4, by omega, by omega, by simp [seqIndex?], rfl, ?_⟩
      have sH5 : Same H (upd H4 ll (.lst ((y0 :: yr).eraseIdx 0))) := fun b o e => by
        rw [upd_ne (ne_of_none e nllH)]
        exact sH4 _ _ e
      have dy5 : Dp K (upd H4 ll (.lst ((y0 :: yr).eraseIdx 0))) y0 (encL L0) := dy0
      have sc5' : SCt w K H2 (upd H4 ll (.lst ((y0 :: yr).eraseIdx 0))) rw fd ll F Lr R := sc5
      generalize upd H4 ll (.lst ((y0 :: yr).eraseIdx 0)) = H5 at sH5 dy5 sc5' ⊢
      have hL0 : L0 ∈ F := sw.ln L0 List.mem_cons_self
      obtain ⟨hre0, hk0⟩ := sw.re L0 hL0
      have lay := hre0.lay ok
      have lm := lay.m
      have cm := ok.m
      have mnd := moves_nodup ok lay
      have mlen := len_moves ok lay
      have hR0 : ∀ r ∈ R, r.1 ≠ L0 := fun r hr e => (sw.row r hr).1.2 (by rw [e]; exact List.mem_cons_self)
      refine ⟨_, rfl, _, rfl, g, y0, G, L0, rfl, dp_same sH5 hg, ok, dy5, by omega, fun H6 a1 ms s6 hms na1 dms => ?_⟩
      refine ⟨a1, rfl, ⟨_, sqL_of hms⟩, ?_⟩
      have sc6 : SCt w K H6 H6 rw fd ll F Lr R := by
        have h := sc5'.same s6
        exact ⟨Kp.refl, h.hn, h.ll, h.rw⟩
      have sH6 := sH5.trans s6
      have dy6 := dp_same s6 dy5
      have a1n : a1 ∉ [rw, fd, ll] := by
        intro hx
        rw [List.mem_cons, List.mem_cons, List.mem_singleton] at hx
        rcases hx with rfl | rfl | rfl
        · obtain ⟨_, e, _⟩ := sc5'.rw
          rw [e] at na1
          cases na1
        · obtain ⟨_, e, _⟩ := sc5'.hn
          rw [e] at na1
          cases na1
        · obtain ⟨_, e, _⟩ := sc5'.ll
          rw [e] at na1
          cases na1
      have hml := dpAll_len dms
      rw [List.length_map] at hml
      have toS : ∀ {H' : Hp}, Kp [rw, fd, ll] H6 H' → Same H H' := fun k b o e => k b o (fun hb => by rw [exN b hb] at e; cases e) (sH6 b o e)
      refine for_list (K := K) (xs := ms) (fun k σ H' => ∃ A R' x6 x7 x8 x9, σ = [some g, some (.ref rd), some (.ref rw), some (.ref fd), some (.ref ll), some y0, x6, x7, x8, x9] ∧ SCt w K H6 H' rw fd ll (F ++ A) (Lr ++ A) R' ∧ SM G rs F L0 Lr R k A R') ?_ (fun k σ H' hk p => ?_) (fun k y σ H7 hy p => ?_) (fun σ H' p => ?_)
      · refine ⟨[], R, _, _, _, _, rfl, by rw [List.append_nil, List.append_nil]; exact sc6, ?_⟩
        refine ⟨by rw [List.append_nil]; exact sw.nd, by rw [List.append_nil]; exact sw.re, fun m hm => by simp at hm, fun r hr => hr, fun r hr => .inl hr, sw.rnd, Nat.le_refl _⟩
      · obtain ⟨A, R', _, _, _, _, _, sc7, _⟩ := p
        exact sqL_of (sc7.kp _ _ a1n hms)
      · obtain ⟨A, R1, z6, z7, z8, z9, rfl, sc7, sm⟩ := p
        obtain ⟨d, hd, hyd⟩ := dpAll_get dms hy
        rw [List.getElem?_map] at hd
        cases hM : (movesAt G L0)[k]? with
        | none => rw [hM] at hd; cases hd
        | some mv =>
        rw [hM] at hd
        cases hd
        have hmv : mv ∈ movesAt G L0 := List.mem_of_getElem? hM
        have hy7 : Dp K H7 y (encM mv) := dp_kp sc7.kp sc6.noTups (tupOnly_encM mv) hyd
        have dy7 : Dp K H7 y0 (encL L0) := dp_kp sc7.kp sc6.noTups (tupOnly_encL L0) dy6
        have sH7 := toS sc7.kp
        have hlen7 := small (F ++ A) sm.nd fun L hL => (sm.re L hL).1.lay ok
        obtain ⟨mp, rfl, hsq⟩ := dp_encM2 hy7
        refine ⟨mp, _, rfl, hsq, rfl, _, _, rfl, _, _, rfl, rfl, ?_⟩
        refine ⟨fun σ' H8 => ∃ (o : Lay) (R' : List SRow) (v : V) (x6 x7 x9 : Option V), σ' = [some g, some (.ref rd), some (.ref rw), some (.ref fd), some (.ref ll), some y0, x6, x7, some v, x9] ∧ SCt w K H6 H8 rw fd ll (F ++ A) (Lr ++ A) R' ∧ Dp K H8 v (encL o) ∧ Reach G o ∧ o ∉ rs.map (·.1) ∧ Step G L0 mv R1 o R', ?_, ?_⟩
        · cases mv with
          | give s0 =>
            refine ⟨_, rfl, rfl, _, rfl, iteT ?_⟩
            refine ⟨_, rfl, _, rfl, _, rfl, _, rfl, by rw [sizeLine_eq]; show 2 ≤ 16777216; omega, fun tp ntp => ?_⟩
            have s8 := same_upd (o := .tup [.str (mvW (.give s0)), .int (mvN (.give s0))]) ntp
            refine ⟨g, y0, .ref tp, G, L0, .give s0, rfl, dp_same (sH7.trans s8) hg, ok, dp_same s8 dy7, lay, dp_mkM2 (sqT_of upd_same), hmv, fun H9 a2 os s9 hos na2 dos => ?_⟩
            cases dos with
            | @cons o1 _ _ _ do1 dor =>
            cases dor
            have hled : dropS L0 s0 ∈ ledTo G L0 (.give s0) := List.mem_singleton.mpr rfl
            refine ⟨a2, _, 0, o1, rfl, rfl, sqL_of hos, rfl, dropS L0 s0, R1, o1, _, _, _, rfl, (sc7.same s8).same s9, do1, .step hre0 hmv hled, ?_, .inl ⟨s0, rfl, rfl, rfl⟩⟩
            obtain ⟨o, ho, hno⟩ := shutG L0 hre0 hk0 _ hmv
            rw [List.mem_singleton.mp ho] at hno
            exact hno
          | want z =>
            refine ⟨_, rfl, rfl, _, rfl, iteF ?_⟩
            have hzw : z ∈ wants G L0 := by
              rcases mem_moves.mp hmv with ⟨b, _, e⟩ | ⟨z', hz', e⟩
              · cases e
              · cases e
                exact hz'
            have hzs := (mem_wants.mp hzw).2.1
            have hex : ∃ st ∈ freeS G.c L0 z, insB (st, z) L0 ∉ rs.map (·.1) := by
              obtain ⟨o, ho, hno⟩ := shutG L0 hre0 hk0 _ hmv
              obtain ⟨st, hst, rfl⟩ := List.mem_map.mp ho
              exact ⟨st, hst, hno⟩
            refine ⟨_, rfl, _, rfl, _, rfl, _, rfl, g, rd, y0, z, G, kvs, _, L0, rfl, dp_same sH7 hg, ok, hn.same sH7, rk.keys, dy7, lay, hzs, hex, fun H9 st s9 hst hno => ?_⟩
            have sc9 := sc7.same s9
            obtain ⟨zs, hzs9, dz9⟩ := sc9.rw
            refine ⟨_, rfl, .inl ⟨rfl, _, sqL_of hzs9⟩, _, rfl, _, rfl, _, rfl, by rw [sizeLine_eq]; show 3 ≤ 16777216; omega, fun tp ntp => ?_⟩
            have s10 := same_upd (o := .tup [y0, .int z, .int st]) ntp
            have dy10 := dp_same (s9.trans s10) dy7
            have drow : Dp K (upd H9 tp (.tup [y0, .int z, .int st])) (.ref tp) (encS (L0, z, st)) := .tup (sqT_of upd_same) (.cons dy10 (.cons (.int z) (.cons (.int st) .nil)))
            have hzl := dpAll_len dz9
            rw [List.length_map] at hzl
            have hl1 := sm.len
            have hl2 : k ≤ 7 := by
              have : k < (movesAt G L0).length := (List.getElem?_eq_some_iff.mp hM).1
              omega
            have hl3 := sw.le
            rw [List.length_cons] at hRl hl3
            refine ⟨rw, zs, .ref tp, rfl, rfl, s10 _ _ hzs9, by rw [sizeLine_eq]; omega, ?_⟩
            have sc11 := (sc9.same s10).row rfd rll (s10 _ _ hzs9) drow
            have kp11 : Kp [rw, fd, ll] (upd H9 tp (.tup [y0, .int z, .int st])) (upd (upd H9 tp (.tup [y0, .int z, .int st])) rw (.lst (zs ++ [.ref tp]))) := kp_upd (by simp)
            have dy11 := dp_kp kp11 (sc9.same s10).noTups (tupOnly_encL L0) dy10
            refine ⟨_, rfl, _, rfl, _, rfl, y0, st, z, L0, rfl, dy11, by omega, lay.up ok, (free_facts ok lay hzs hst).1, fun H12 v s12 hv => ?_⟩
            have hled : insB (st, z) L0 ∈ ledTo G L0 (.want z) := List.mem_map.mpr ⟨st, hst, rfl⟩
            exact ⟨insB (st, z) L0, R1 ++ [(L0, z, st)], v, _, _, _, rfl, sc11.same s12, hv, .step hre0 hmv hled, hno, .inr ⟨z, st, rfl, hst, rfl, rfl⟩⟩
        · rintro σ' H8 ⟨o, R', v, x6, x7, x9, rfl, sc8, hv, hreo, hko, hstep⟩
          refine ⟨_, rfl, _, rfl, fd, KL (F ++ A), keyL o, rfl, sc8.hn.rd, keyD_L hv, _, rfl, ?_⟩
          rw [isSome_lay (keys_KL (F ++ A))]
          by_cases hin : o ∈ F ++ A
          · rw [decide_eq_true hin]
            exact iteF ⟨A, R', _, _, _, _, rfl, sc8, sm.step mnd hR0 hM hin (fun x hx => hx) sm.nd sm.re hstep⟩
          · rw [decide_eq_false hin]
            refine iteT ?_
            refine ⟨_, rfl, _, rfl, fd, KL (F ++ A), keyL o, rfl, sc8.hn, by unfold KL; rw [List.length_map, sizeLine_eq]; omega, keyD_L hv, fun H9 b9 hn9 => ?_⟩
            rw [put_KL hin] at hn9
            have sc9 := sc8.put rfd lfd b9 hn9
            have hv9 : Dp K H9 v (encL o) := dp_kp (but_kp (ex := [rw, fd, ll]) b9 (by simp)) sc8.noTups (tupOnly_encL o) hv
            obtain ⟨ys9, hys9, dys9⟩ := sc9.ll
            have hyl := dpAll_len dys9
            rw [List.length_map, List.length_append] at hyl
            have hl3 := sw.le
            rw [List.length_cons] at hl3
            rw [List.length_append] at hlen7
            refine ⟨_, rfl, .inl ⟨rfl, _, sqL_of hys9⟩, _, rfl, ll, ys9, v, rfl, rfl, hys9, by rw [sizeLine_eq]; omega, ?_⟩
            have sc10 := sc9.line rll lfd hys9 hv9
            rw [List.append_assoc, List.append_assoc] at sc10
            refine ⟨A ++ [o], R', _, _, _, _, rfl, sc10, sm.step mnd hR0 hM (List.mem_append_right _ (List.mem_append_right _ List.mem_cons_self)) (fun x hx => ?_) ?_ (fun L hL => ?_) hstep⟩
            · rw [← List.append_assoc]
              exact List.mem_append_left _ hx
            · rw [← List.append_assoc]
              exact List.nodup_append.mpr ⟨sm.nd, by simp, fun a ha b hb => by rw [List.mem_singleton] at hb; subst hb; exact fun e => hin (e ▸ ha)⟩
            · rw [← List.append_assoc] at hL
              rcases List.mem_append.mp hL with h | h
              · exact sm.re L h
              · rw [List.mem_singleton] at h
                subst h
                exact ⟨hreo, hko⟩
      · obtain ⟨A, R', z6, z7, z8, z9, rfl, sc7, sm⟩ := p
        have hlen7 := small (F ++ A) sm.nd fun L hL => (sm.re L hL).1.lay ok
        have hk : (movesAt G L0).take ms.length = movesAt G L0 := by rw [hml, List.take_length]
        have sc8 : SCt w K H' H' rw fd ll (F ++ A) (Lr ++ A) R' := ⟨Kp.refl, sc7.hn, sc7.ll, sc7.rw⟩
        refine ⟨_, ?_, F ++ A, Lr ++ A, R', _, _, _, _, _, rfl, toS sc7.kp, sc8, sm.fin sw hk, ?_, rfl⟩
        · rw [List.length_append] at hlen7 ⊢
          rw [List.length_append, List.length_cons]
          omega
        · have h1 := sm.len
          have h2 := sw.le
          rw [List.length_cons] at hRl h2
          rw [List.length_append, List.length_append]
          omega
end
end K23
set_option maxHeartbeats 1000000
namespace K23
open PySem PySem.Spec PyProof.Rows L2 KSup NdefX StX KNest
/-! ### the unlike sizes, ascending -/
def canon (ns : List Int) : List Int := ([1, 2, 3] : List Int).filter fun z => decide (z ∈ ns)
theorem canon_up (ns : List Int) : (canon ns).Pairwise (· < ·) := by
  have h : ([1, 2, 3] : List Int).Pairwise (· < ·) := by decide
  exact h.sublist List.filter_sublist
theorem mem_canon {ns : List Int} (h : ∀ n ∈ ns, 1 ≤ n ∧ n ≤ 3) {z : Int} : z ∈ canon ns ↔ z ∈ ns := by
  unfold canon
  rw [List.mem_filter, decide_eq_true_iff]
  refine ⟨fun q => q.2, fun q => ⟨?_, q⟩⟩
  obtain ⟨h1, h2⟩ := h z q
  have : z = 1 ∨ z = 2 ∨ z = 3 := by omega
  rcases this with rfl | rfl | rfl <;> simp
theorem canon_of {ns zs : List Int} (h : ∀ n ∈ ns, 1 ≤ n ∧ n ≤ 3) (up : zs.Pairwise (· < ·)) (m : ∀ k, k ∈ zs ↔ k ∈ ns) : zs = canon ns := by
  refine List.Perm.eq_of_pairwise (le := fun a b : Int => a < b) (fun a b _ _ h1 h2 => absurd h1 (Int.lt_asymm h2)) up (canon_up ns) ?_
  refine (List.perm_ext_iff_of_nodup (up.imp fun {a b} q => Int.ne_of_lt q) ((canon_up ns).imp fun {a b} q => Int.ne_of_lt q)).mpr fun k => ?_
  rw [m k, mem_canon h]
theorem canon_congr {ns ms : List Int} (h : ∀ n, n ∈ ns ↔ n ∈ ms) : canon ns = canon ms := by
  unfold canon
  exact List.filter_congr fun z _ => by simp [h z]
def mkG (c : Int) (ns : List Int) (m v : Int) : Game := ⟨c, canon ns, m, v⟩
structure Fr (ns : List Int) (m v : Int) : Prop where
  l1 : 1 ≤ ns.length
  l2 : ns.length ≤ 3
  z : ∀ n ∈ ns, 1 ≤ n ∧ n ≤ 3
  m : 1 ≤ m ∧ m ≤ 4
  v : 1 ≤ v ∧ v ≤ 12
theorem Fr.ok {ns : List Int} {m v c : Int} (h : Fr ns m v) (hc : 1 ≤ c ∧ c ≤ 12) : OkG (mkG c ns m v) := ⟨hc, fun z hz => h.z z ((mem_canon h.z).mp hz), canon_up ns, h.m, h.v⟩
section
variable {P : Program} {w : World} {K : PySem.W.Frag} {mg : Str → Option Value} {base : Heap} {f g g1 g2 g3 : Addr} {fd gd gd1 gd2 gd3 : FuncData}
def spNeedFrame (K : PySem.W.Frag) : Sp := fun vs H Q _ => ∃ (a : Addr) (ns : List Int) (m v : Int), vs = [.ref a, .int m, .int v] ∧ SqL K H a (ns.map V.int) ∧ Fr ns m v ∧
  ∀ (H' : Hp) (p : Addr), Same H H' → H' p = some (.tup ((canon ns).map V.int)) → Q (.ref p) H'
theorem ok_needFrame (F : FnP K "need_frame" sNeedFrame f fd) (T : Bl mg) (co : Co mg) (G : FnOk P w K mg base CX0 1 g gd ["value"] (spIsListed K)) (kg : PySem.W.keepIn K (.ref g) = true) (bg : Binds K gd ["value"] []) (gm : mg "is_listed" = some (.ref g))
    (G2 : FnOk P w K mg base CX0 2 g2 gd2 ["value", "least", "most"] (spIsWithin K)) (kg2 : PySem.W.keepIn K (.ref g2) = true) (bg2 : Binds K gd2 ["value", "least", "most"] []) (gm2 : mg "is_within" = some (.ref g2)) :
    FnOk P w K mg base CX0 3 f fd ["sizes", "many", "live"] (spNeedFrame K) := by
  obtain ⟨tk, hmk⟩ := co.kinds
  obtain ⟨ts, hms⟩ := co.size
  obtain ⟨tr, hmr⟩ := co.regs
  obtain ⟨tc, hmc⟩ := co.cells
  refine F.ok scNeedFrame (fun vs H Q E h => ?_) (fun cdv A outer s H vs Q E hr h => ?_)
  · obtain ⟨a, ns, m, v, rfl, _⟩ := h
    rfl
  · obtain ⟨a, ns, m, v, rfl, hs, fr, hq⟩ := h
    have hl1 := fr.l1
    have hl2 := fr.l2
    have hns := fr.z
    have r1 : Room 1 (A.deeper (envOfC _ _ s.heap.objs.size f cdv)) := hr.mono (by omega)
    refine ⟨_, PSs.nox (pss_cons (ps_if (PW.pt (pw_or (pt_not (pt_val (pe_call G r1 (by rfl) gm kg bg .nil pass0 (pa_cons (pv 0) pa_nil))))
        (pw_or1 (pt_not (pt_chain op_le op_le pe_int (pe_callB call_len_seq (by rfl) T.len PySem.boot_len (pa_cons (pv 0) pa_nil)) (pe_glob (v := .int 3) (by rfl) hmk ⟨tk, rfl⟩)))))) pss_never pss_nil)
      (pss_cons (ps_if (pt_not (pt_val (pe_callB (cr_all rfl) (by rfl) T.all (by decide +kernel) (pa_cons (pe_lc (own := [("size", 3)]) (g := gName 3) (tt := tYes) rfl scNeedFrame.nd (pi_list (pv 0)) (blkOk_by (N := ["sizes", "many", "live", "size"]) (sc := defScope sNeedFrame) (by decide +kernel))
          (fun _ _ _ _ _ => pg_name (i := 3) scNeedFrame.nd rfl (Or.inl rfl)) (fun _ _ _ _ _ => pts_nil) (fun _ _ _ _ _ => pe_call G2 hr (by rfl) gm2 kg2 bg2 .nil pass0 (pa_cons (pv 3) (pa_cons pe_int (pa_cons (pe_glob (v := .int 3) (by rfl) hms ⟨ts, rfl⟩) pa_nil))))) pa_nil)))) pss_never pss_nil)
      (pss_cons (ps_if (pt_not (pt_val (pe_call G2 hr (by rfl) gm2 kg2 bg2 .nil pass0 (pa_cons (pv 1) (pa_cons pe_int (pa_cons (pe_glob (v := .int 4) (by rfl) hmr ⟨tr, rfl⟩) pa_nil)))))) pss_never pss_nil)
      (pss_cons (ps_if (pt_not (pt_val (pe_call G2 hr (by rfl) gm2 kg2 bg2 .nil pass0 (pa_cons (pv 2) (pa_cons pe_int (pa_cons (pe_glob (v := .int 12) (by rfl) hmc ⟨tc, rfl⟩) pa_nil)))))) pss_never pss_nil)
      (pss_one (ps_ret (pe_callTy call_tuple_of (by rfl) T.tuple (by decide +kernel) (pa_cons (pe_callB (cr_sortedSet rfl) (by rfl) T.sorted (by decide +kernel) (pa_cons (pe_scg (O0 := fun w D => SetO w D (fun _ => false) 0) (Ad := adI) frI adI_ok (own := [("size", 3)]) (g := gName 3) (tt := tYes) rfl scNeedFrame.nd (pi_list (pv 0))
          (blkOk_by (N := ["sizes", "many", "live", "size"]) (sc := defScope sNeedFrame) (by decide +kernel)) (fun _ _ _ _ _ => pg_name (i := 3) scNeedFrame.nd rfl (Or.inl rfl)) (fun _ _ _ _ _ => pts_nil) (fun _ _ _ _ _ => pv 3)) pa_nil)) pa_nil)))))))), ?_⟩
    have hdp : DpAll K H (ns.map V.int) (ns.map PyData.int) := dpAll_intsV ns
    refine ⟨_, rfl, _, _, rfl, .lst hs hdp, fun H1 s1 => ⟨_, rfl, ?_⟩⟩
    show (if (!isSeq (.list (ns.map PyData.int))) = true then _ else _)
    refine iteF ?_
    refine ⟨_, rfl, _, _, rfl, .inl (s1.seq hs), ?_⟩
    refine ⟨_, _, rfl, rfl, _, rfl, ?_⟩
    rw [if_pos (decide_eq_true (by rw [List.length_map]; omega))]
    refine ⟨_, _, rfl, rfl, _, rfl, ?_⟩
    rw [List.length_map]
    have e2 : decide ((ns.length : Int) ≤ 3) = true := decide_eq_true (by omega)
    rw [e2]
    refine iteF ?_
    -- all of them within
    refine ⟨_, rfl, a, rfl, ⟨_, s1.seq hs⟩, fun D nD => ?_⟩
    have hdp1 := dpAll_same s1 hdp
    refine lcB_L (K := K) (bs := ns) (enc := PyData.int) (keep := fun _ => true) (F := fun n => .bool (inI (.int n) 1 3)) (by omega) (s1.seq hs) nD hdp1 (fun d hd _ => rfl) (fun x d H3 s3 hx hm R S hR hS => ?_) (fun H2 ys s2 eD hys => ?_)
    · refine ⟨wipe_one _ 3 _, ?_⟩
      dsimp only [tYes]
      rw [if_pos rfl]
      exact ⟨_, rfl, _, _, _, _, rfl, hx, hR _ _ (Same.refl _) rfl (.bl _)⟩
    rw [filter_ttB] at hys
    have hb := bools_ofB hys
    subst hb
    refine ⟨D, _, rfl, .inl (.inl eD), ?_⟩
    have e3 : ((ns.map fun n => inI (.int n) 1 3).all id) = true := by
      rw [List.all_eq_true]
      intro b hb
      obtain ⟨n, hn, rfl⟩ := List.mem_map.mp hb
      obtain ⟨h1, h2⟩ := hns n hn
      show (decide (1 ≤ n) && decide (n ≤ 3)) = true
      rw [decide_eq_true h1, decide_eq_true h2]
      rfl
    rw [e3]
    refine ⟨_, rfl, iteF ?_⟩
    have em : inI (.int m) 1 4 = true := by
      show (decide (1 ≤ m) && decide (m ≤ 4)) = true
      rw [decide_eq_true fr.m.1, decide_eq_true fr.m.2]
      rfl
    have ev : inI (.int v) 1 12 = true := by
      show (decide (1 ≤ v) && decide (v ≤ 12)) = true
      rw [decide_eq_true fr.v.1, decide_eq_true fr.v.2]
      rfl
    refine ⟨_, rfl, _, _, _, _, rfl, .int m, _, rfl, ?_⟩
    rw [em]
    refine iteF ⟨_, rfl, _, _, _, _, rfl, .int v, _, rfl, ?_⟩
    rw [ev]
    refine iteF ?_
    -- the set, sorted
    have s12 := s1.trans s2
    refine ⟨_, rfl, a, rfl, ⟨_, s12.seq hs⟩, fun D2 nD2 => ?_⟩
    have hlen : (ns.map V.int).length = ns.length := List.length_map _
    refine sci_lst (w := w) (K := K) (xs := ns.map V.int) (fun i H3 => Same H2 H3 ∧ ∃ S n, H3 D2 = some (SetO w D2 S n) ∧ n ≤ i ∧ ∀ k : Int, S k = true ↔ k ∈ ns.take i) ?_ (fun i H3 hi p => ?_) (fun i x H3 hx p => ?_) (fun H3 p => ?_)
    · exact ⟨same_upd nD2, _, 0, upd_same, Nat.le_refl _, fun k => by simp⟩
    · exact p.1.seq (s12.seq hs)
    · obtain ⟨s3, S, n, e4, hn, hS⟩ := p
      rw [List.getElem?_map] at hx
      cases hc : ns[i]? with
      | none => rw [hc] at hx; cases hx
      | some c =>
        rw [hc] at hx
        cases hx
        have hi : i < ns.length := (List.getElem?_eq_some_iff.mp hc).1
        refine ⟨wipe_one _ 3 _, ?_⟩
        dsimp only [tYes]
        rw [if_pos rfl]
        refine ⟨_, rfl, _, ⟨c, S, n, rfl, e4, by show n + 1 < 4096; omega, rfl⟩, fun b o e => ?_, _, _, upd_same, by split <;> omega, fun k => ?_⟩
        · rw [upd_ne (ne_of_none e nD2)]
          exact s3 _ _ e
        · rw [Bool.or_eq_true, hS k, decide_eq_true_iff, List.take_add_one, hc]
          simp
    · obtain ⟨s3, S, n, e4, hn, hS⟩ := p
      rw [hlen] at hn hS
      rw [List.take_length] at hS
      refine ⟨D2, S, n, rfl, e4, by omega, fun ns' p pw mem _ np => ?_⟩
      have e5 := canon_of hns pw (fun k => (mem k).trans (hS k))
      subst e5
      have s4 := same_upd (o := .lst ((canon ns).map V.int)) np
      exact ⟨p, _, rfl, .inl ⟨sqL_of upd_same, fun q nq => hq _ q ((s12.trans s3).trans (s4.trans (same_upd nq))) upd_same⟩⟩
def spNeedGame (K : PySem.W.Frag) : Sp := fun vs H Q _ => ∃ (c : Int) (a : Addr) (ns : List Int) (m v : Int), vs = [.int c, .ref a, .int m, .int v] ∧ SqL K H a (ns.map V.int) ∧ Fr ns m v ∧ (1 ≤ c ∧ c ≤ 12) ∧ RetD K H (encG (mkG c ns m v)) Q
theorem dp_mkG {H : Hp} {p q : Addr} {G : Game} (h1 : SqT K H p [.int G.c, .ref q, .int G.m, .int G.v]) (h2 : SqT K H q (G.zs.map V.int)) : Dp K H (.ref p) (encG G) :=
  .tup h1 (.cons (.int _) (.cons (.tup h2 (dpAll_intsV _)) (.cons (.int _) (.cons (.int _) .nil))))
theorem ok_needGame (F : FnP K "need_game" sNeedGame f fd) (T : Bl mg) (co : Co mg)
    (G1 : FnOk P w K mg base CX0 3 g1 gd1 ["sizes", "many", "live"] (spNeedFrame K)) (k1 : PySem.W.keepIn K (.ref g1) = true) (b1 : Binds K gd1 ["sizes", "many", "live"] []) (m1 : mg "need_frame" = some (.ref g1))
    (G2 : FnOk P w K mg base CX0 2 g2 gd2 ["value", "least", "most"] (spIsWithin K)) (kg2 : PySem.W.keepIn K (.ref g2) = true) (bg2 : Binds K gd2 ["value", "least", "most"] []) (gm2 : mg "is_within" = some (.ref g2)) :
    FnOk P w K mg base CX0 4 f fd ["cells", "sizes", "many", "live"] (spNeedGame K) := by
  obtain ⟨tc, hmc⟩ := co.cells
  refine F.ok scNeedGame (fun vs H Q E h => ?_) (fun cdv A outer s H vs Q E hr h => ?_)
  · obtain ⟨c, a, ns, m, v, rfl, _⟩ := h
    rfl
  · obtain ⟨c, a, ns, m, v, rfl, hs, fr, hc, hq⟩ := h
    have r2 : Room 2 (A.deeper (envOfC _ _ s.heap.objs.size f cdv)) := hr.mono (by omega)
    refine ⟨_, PSs.nox (pss_cons (ps_if (pt_not (pt_val (pe_call G2 r2 (by rfl) gm2 kg2 bg2 .nil pass0 (pa_cons (pv 0) (pa_cons pe_int (pa_cons (pe_glob (v := .int 12) (by rfl) hmc ⟨tc, rfl⟩) pa_nil)))))) pss_never pss_nil)
      (pss_one (ps_ret (pe_tup (pa_cons (pv 0) (pa_cons (pe_call G1 hr (by rfl) m1 k1 b1 .nil pass0 (pa_cons (pv 1) (pa_cons (pv 2) (pa_cons (pv 3) pa_nil)))) (pa_cons (pv 2) (pa_cons (pv 3) pa_nil)))))))), ?_⟩
    have ec : inI (.int c) 1 12 = true := by
      show (decide (1 ≤ c) && decide (c ≤ 12)) = true
      rw [decide_eq_true hc.1, decide_eq_true hc.2]
      rfl
    refine ⟨_, rfl, _, _, _, _, rfl, .int c, _, rfl, ?_⟩
    rw [ec]
    refine iteF ?_
    refine ⟨_, rfl, _, rfl, _, rfl, _, rfl, a, ns, m, v, rfl, hs, fr, fun H1 p s1 hp => ?_⟩
    refine ⟨_, rfl, _, rfl, by rw [sizeLine_eq]; show 4 ≤ 16777216; omega, fun q nq => ?_⟩
    have s2 := same_upd (o := .tup [.int c, .ref p, .int m, .int v]) nq
    exact hq _ _ (s1.trans s2) (dp_mkG (G := mkG c ns m v) (sqT_of upd_same) (sqT_of (s2 _ _ hp)))
/-! ### least_seats -/
def spLeastSeats (w : World) (K : PySem.W.Frag) : Sp := fun vs H Q _ => ∃ (a : Addr) (ns : List Int) (m v c0 : Int), vs = [.ref a, .int m, .int v] ∧ SqL K H a (ns.map V.int) ∧ Fr ns m v ∧ (1 ≤ c0 ∧ c0 ≤ 12) ∧ (∀ c, 1 ≤ c → c ≤ c0 → Small (mkG c ns m v) ∧ Apart w (mkG c ns m v)) ∧
  (∀ c, 1 ≤ c → c < c0 → Win (mkG c ns m v) []) ∧ ¬ Win (mkG c0 ns m v) [] ∧ ∀ H', Same H H' → Q (.int c0) H'
theorem ok_leastSeats (F : FnP K "least_seats" sLeastSeats f fd) (T : Bl mg) (co : Co mg)
    (G1 : FnOk P w K mg base CX0 3 g1 gd1 ["sizes", "many", "live"] (spNeedFrame K)) (k1 : PySem.W.keepIn K (.ref g1) = true) (b1 : Binds K gd1 ["sizes", "many", "live"] []) (m1 : mg "need_frame" = some (.ref g1))
    (G2 : FnOk P w K mg base CX0 4 g2 gd2 ["game"] (spRanks w K)) (k2 : PySem.W.keepIn K (.ref g2) = true) (b2 : Binds K gd2 ["game"] []) (m2 : mg "ranks_of" = some (.ref g2)) :
    FnOk P w K mg base CX0 5 f fd ["sizes", "many", "live"] (spLeastSeats w K) := by
  obtain ⟨tc, hmc⟩ := co.cells
  refine F.ok scLeastSeats (fun vs H Q E h => ?_) (fun cdv A outer s H vs Q E hr h => ?_)
  · obtain ⟨a, ns, m, v, c0, rfl, _⟩ := h
    rfl
  · obtain ⟨a, ns, m, v, c0, rfl, hs, fr, hc, hsm, hwin, hno, hq⟩ := h
    have r3 : Room 3 (A.deeper (envOfC _ _ s.heap.objs.size f cdv)) := hr.mono (by omega)
    refine ⟨_, PSs.nox (pss_cons (ps_set (i := 3) scLeastSeats.nd rfl (Or.inl rfl) (pe_call G1 r3 (by rfl) m1 k1 b1 .nil pass0 (pa_cons (pv 0) (pa_cons (pv 1) (pa_cons (pv 2) pa_nil)))))
      (pss_cons (ps_for PassesOwn.never rfl (pi_range2 (by rfl) T.range (pa_cons pe_int (pa_cons (pe_op op_add (pe_glob (v := .int 12) (by rfl) hmc ⟨tc, rfl⟩) pe_int) pa_nil))) (pg_name (i := 4) scLeastSeats.nd rfl (Or.inl rfl))
        (pss_one (ps_if (pt_cmp (pc_nnotin hr.units (pe_tup pa_nil) (pe_call G2 hr (by rfl) m2 k2 b2 .nil pass0 (pa_cons (pe_tup (pa_cons (pv 4) (pa_cons (pv 3) (pa_cons (pv 1) (pa_cons (pv 2) pa_nil))))) pa_nil))) (by with_unfolding_all rfl)) (pss_one (ps_ret (pv 4))) pss_nil)))
      pss_never)), ?_⟩
    refine ⟨_, rfl, _, rfl, _, rfl, a, ns, m, v, rfl, hs, fr, fun H1 p s1 hp => ?_⟩
    refine ⟨_, _, rfl, rfl, _, _, rfl, by omega, ?_⟩
    refine for_range (lo := 1) (n := 12) (fun i σ H' => ∃ x4, σ = [some (.ref a), some (.int m), some (.int v), some (.ref p), x4] ∧ Same H1 H' ∧ (i : Int) < c0) ?_ (fun i σ H' hi q => ?_) (fun σ H' q => ?_)
    · exact ⟨_, rfl, Same.refl _, by omega⟩
    · obtain ⟨x4, rfl, s2, hlt⟩ := q
      have ok := fr.ok (c := 1 + (i : Int)) ⟨by omega, by omega⟩
      obtain ⟨hsmall, hap⟩ := hsm (1 + (i : Int)) (by omega) (by omega)
      refine ⟨by rw [sizeLine_eq]; show 0 ≤ 16777216; omega, fun e0 ne0 => ?_⟩
      have s3 := same_upd (o := .tup []) ne0
      refine ⟨_, rfl, _, rfl, _, rfl, _, rfl, by rw [sizeLine_eq]; show 4 ≤ 16777216; omega, fun gp ngp => ?_⟩
      have s4 := same_upd (o := .tup [.int (1 + (i : Int)), .ref p, .int m, .int v]) ngp
      have s234 := (s2.trans s3).trans s4
      refine ⟨.ref gp, mkG (1 + (i : Int)) ns m v, rfl, dp_mkG (G := mkG (1 + (i : Int)) ns m v) (sqT_of upd_same) (sqT_of (s234 _ _ hp)), ok, hsmall, hap, fun H5 rd kvs rs s5 hn rk nrd rok sh => ?_⟩
      refine ⟨rd, kvs, keyL [], rfl, hn.rd, keyD_L (.tup (sqT_of (s5 _ _ (s4 _ _ upd_same))) .nil), _, rfl, ?_⟩
      rw [isSome_lay rk.keys]
      have hiff := ranked_iff rok sh
      by_cases e : 1 + (i : Int) = c0
      · have hf : decide ([] ∈ rs.map (·.1)) = false := decide_eq_false fun hk => hno (by rw [← e]; exact hiff.mp hk)
        rw [hf]
        refine iteT ⟨_, rfl, ?_⟩
        rw [e]
        exact hq _ ((s1.trans s234).trans s5)
      · have ht : decide ([] ∈ rs.map (·.1)) = true := decide_eq_true (hiff.mpr (hwin _ (by omega) (by omega)))
        rw [ht]
        exact iteF ⟨_, rfl, s234.trans s5 |> fun x => x, by omega⟩
    · obtain ⟨x4, rfl, s2, hlt⟩ := q
      omega
end
end K23
set_option maxHeartbeats 1000000
namespace K23
open PySem PySem.Spec PyProof.Rows L2 KSup NdefX StX KNest
structure PapR (K : PySem.W.Frag) (C : Addr) : Prop where
  cl : Cls K C
  w : NoAttr K C "word"
  p : NoAttr K C "parts"
  r : NoAttr K C "rows"
theorem nsB : NScope ["self", "rows", "__class__"] ["self", "rows"] ["__class__"] (defScope sBInit) := nscope_by (by decide +kernel)
theorem nsU : NScope ["self", "rows", "__class__"] ["self", "rows"] ["__class__"] (defScope sUInit) := nscope_by (by decide +kernel)
/-- a paper of rows -/
def IsR (K : PySem.W.Frag) (H : Hp) (C a : Addr) (u : Str) (d : PyData) : Prop := ∃ dx v r, H a = some (.ins C dx [("word", .str u), ("parts", v), ("rows", r)]) ∧ Dp K H r d
theorem IsR.same {K : PySem.W.Frag} {H H' : Hp} {C a : Addr} {u : Str} {d : PyData} (s : Same H H') (h : IsR K H C a u d) : IsR K H' C a u d := by
  obtain ⟨dx, v, r, h1, h2⟩ := h
  exact ⟨dx, v, r, s _ _ h1, dp_same s h2⟩
theorem same_make {x dx C : Addr} {H H' : Hp} (nx : H x = none) (nd : H dx = none) (b : But x (upd (upd H dx (.own x)) x (.ins C dx [])) H') : Same H H' := fun c o e => by
  have h1 := ne_of_none e nx
  refine b c o h1 ?_
  rw [upd_ne h1, upd_ne (ne_of_none e nd)]
  exact e
theorem same_fresh {x dx : Addr} {o u : HO} {H : Hp} (nx : H x = none) (nd : H dx = none) : Same H (upd (upd H dx u) x o) := fun c v e => by
  rw [upd_ne (ne_of_none e nx), upd_ne (ne_of_none e nd)]
  exact e
section
variable {P : Program} {w : World} {K : PySem.W.Frag} {mg : Str → Option Value} {base : Heap} {f f2 g C : Addr} {fd gd : FuncData} {F : NF}
def spRInit (K : PySem.W.Frag) (C : Addr) (u : Str) (n : Nat) : Sp := fun vs H Q _ => ∃ x dx r d, vs = [.ref x, r] ∧ H x = some (.ins C dx []) ∧ Dp K H r d ∧ fits n (.tuple [d]) ∧
  ∀ H' v r', But x H H' → H' x = some (.ins C dx [("word", .str u), ("parts", v), ("rows", r')]) → Dp K H' r' (tupD d) → Q .non H'
theorem ok_binit (S : SupD P K "__init__" "Served.__init__" (defArgs sBInit) (defBody sBInit) (defScope sBInit) C f f2 F) (pc : PapR K C) (sup : mg "super" = none) (n k : Nat) (G : FnR P w K mg base CX0 k f2 (spPInit K n)) : FnR P w K mg base CX0 (k + 1) f (spRInit K C "served" n) := by
  obtain ⟨cda, cc, hF⟩ := id S.hF
  subst hF
  refine fnR_sup S nsB (fun _ _ _ _ _ _ us hl => match us, hl with | [_, _], _ => rfl) (fun vs H Q E h => ?_) (fun A outer s H vs Q E hr h s1 I => ?_)
  · obtain ⟨x, dx, r, d, rfl, _⟩ := h
    rfl
  · obtain ⟨x, dx, r, d, rfl, hx, hd, hf, hq⟩ := h
    refine wpAt_body (t := sFld K (tVar 0) (tOp (rIxT K) (tFld K (tVar 0) "parts") (tC (.int 0))) "rows")
      (sup_stmt (X := ncx CX0 P w K mg base _ _ f A outer s H E) (C := C) (k := k) (t := tCons (tC (.str "served")) (tCons (tVar 1) tNil)) (x := x) (dx := dx) (fs := []) (L := s.heap.objs.size) S rfl rfl rfl rfl (by rfl) sup I rfl hx G hr pass0
        (pa_cons pe_str (pa_cons (pv 1) pa_nil)) rfl rfl rfl rfl rfl ?_)
      (pss_one (ps_fld (pv 0) (pe_ix ix_tup (pe_fld (pv 0) rfl) pe_int (fun _ _ => rfl)) rfl))
    intro q q0
    have s1 : Same H (upd H q (.met f2 x)) := same_upd q0
    refine ⟨_, rfl, upd_same, x, C, dx, "served", [r], [d], rfl, s1 _ _ hx, pc.cl, pc.w, pc.p, by rw [sizeLine_eq]; show 1 ≤ 16777216; omega, .cons (dp_same s1 hd) .nil, hf, fun H' v b1 e1 d1 => ?_⟩
    rw [tupD, tupDs, tupDs] at d1
    cases d1 with
    | tup st at_ =>
    rename_i p xs
    cases at_ with
    | cons h1 at_ =>
    cases at_
    rename_i r'
    refine ⟨_, rfl, x, C, dx, _, _, rfl, e1, pc.cl, pc.p, rfl, p, _, 0, r', rfl, rfl, st, rfl, ?_⟩
    refine ⟨_, rfl, x, C, dx, _, rfl, e1, pc.cl, pc.r, by show 2 < 1000; omega, ?_⟩
    have b2 : But x H' (upd H' x (.ins C dx (putF "rows" r' [("word", .str "served"), ("parts", .ref p)]))) := but_upd
    exact hq _ (.ref p) r' (((sameBut s1).trans b1).trans b2) upd_same (dp_but (noSeq_ins e1) b2 h1)
theorem ok_uinit (S : SupD P K "__init__" "Forced.__init__" (defArgs sUInit) (defBody sUInit) (defScope sUInit) C f f2 F) (pc : PapR K C) (sup : mg "super" = none) (n k : Nat) (G : FnR P w K mg base CX0 k f2 (spPInit K n)) : FnR P w K mg base CX0 (k + 1) f (spRInit K C "forced" n) := by
  obtain ⟨cda, cc, hF⟩ := id S.hF
  subst hF
  refine fnR_sup S nsU (fun _ _ _ _ _ _ us hl => match us, hl with | [_, _], _ => rfl) (fun vs H Q E h => ?_) (fun A outer s H vs Q E hr h s1 I => ?_)
  · obtain ⟨x, dx, r, d, rfl, _⟩ := h
    rfl
  · obtain ⟨x, dx, r, d, rfl, hx, hd, hf, hq⟩ := h
    refine wpAt_body (t := sFld K (tVar 0) (tOp (rIxT K) (tFld K (tVar 0) "parts") (tC (.int 0))) "rows")
      (sup_stmt (X := ncx CX0 P w K mg base _ _ f A outer s H E) (C := C) (k := k) (t := tCons (tC (.str "forced")) (tCons (tVar 1) tNil)) (x := x) (dx := dx) (fs := []) (L := s.heap.objs.size) S rfl rfl rfl rfl (by rfl) sup I rfl hx G hr pass0
        (pa_cons pe_str (pa_cons (pv 1) pa_nil)) rfl rfl rfl rfl rfl ?_)
      (pss_one (ps_fld (pv 0) (pe_ix ix_tup (pe_fld (pv 0) rfl) pe_int (fun _ _ => rfl)) rfl))
    intro q q0
    have s1 : Same H (upd H q (.met f2 x)) := same_upd q0
    refine ⟨_, rfl, upd_same, x, C, dx, "forced", [r], [d], rfl, s1 _ _ hx, pc.cl, pc.w, pc.p, by rw [sizeLine_eq]; show 1 ≤ 16777216; omega, .cons (dp_same s1 hd) .nil, hf, fun H' v b1 e1 d1 => ?_⟩
    rw [tupD, tupDs, tupDs] at d1
    cases d1 with
    | tup st at_ =>
    rename_i p xs
    cases at_ with
    | cons h1 at_ =>
    cases at_
    rename_i r'
    refine ⟨_, rfl, x, C, dx, _, _, rfl, e1, pc.cl, pc.p, rfl, p, _, 0, r', rfl, rfl, st, rfl, ?_⟩
    refine ⟨_, rfl, x, C, dx, _, rfl, e1, pc.cl, pc.r, by show 2 < 1000; omega, ?_⟩
    have b2 : But x H' (upd H' x (.ins C dx (putF "rows" r' [("word", .str "forced"), ("parts", .ref p)]))) := but_upd
    exact hq _ (.ref p) r' (((sameBut s1).trans b1).trans b2) upd_same (dp_but (noSeq_ins e1) b2 h1)
/-! ### fit -/
mutual
theorem tupD_id : ∀ d : PyData, tupOnly d = true → tupD d = d
  | .none, _ => by simp [tupD]
  | .bool _, _ => by simp [tupD]
  | .int _, _ => by simp [tupD]
  | .str _, _ => by simp [tupD]
  | .list ds, h => by rw [tupOnly] at h; cases h
  | .tuple ds, h => by
    rw [tupD, tupDs_id ds (tupOnly_tuple h)]
  | .dict _, h => by simp [tupD]
theorem tupDs_id : ∀ ds : List PyData, tupAll ds = true → tupDs ds = ds
  | [], _ => by rw [tupDs]
  | d :: ds, h => by rw [tupDs, tupD_id d (tupAll_cons h).1, tupDs_id ds (tupAll_cons h).2]
end
theorem tupD_list {β : Type} {f : β → PyData} (h : ∀ b, tupOnly (f b) = true) (bs : List β) : tupD (.list (bs.map f)) = .tuple (bs.map f) := by
  rw [tupD, tupDs_id _ (tupAll_map h bs)]
theorem fits_int (n : Nat) (i : Int) : fits n (.int i) := by cases n <;> simp [fits]
theorem fits_str (n : Nat) (i : Str) : fits n (.str i) := by cases n <;> simp [fits]
theorem fits_encB (n : Nat) (b : Blk) : fits (n + 1) (encB b) := by
  unfold encB
  rw [fits]
  refine ⟨by simp, fun d hd => ?_⟩
  simp at hd
  rcases hd with rfl | rfl <;> exact fits_int _ _
theorem fits_encL (n : Nat) {L : Lay} (h : L.length ≤ 1000) : fits (n + 2) (encL L) := by
  unfold encL
  rw [fits]
  refine ⟨by rw [List.length_map]; omega, fun d hd => ?_⟩
  obtain ⟨b, _, rfl⟩ := List.mem_map.mp hd
  exact fits_encB n b
theorem fits_encM (n : Nat) (m : Mv) : fits (n + 1) (encM m) := by
  cases m <;> (unfold encM; rw [fits]; refine ⟨by simp, fun d hd => ?_⟩; simp at hd; rcases hd with rfl | rfl; exact fits_str _ _; exact fits_int _ _)
theorem fits_encS (n : Nat) {r : SRow} (h : r.1.length ≤ 1000) : fits (n + 3) (encS r) := by
  unfold encS
  rw [fits]
  refine ⟨by simp, fun d hd => ?_⟩
  simp at hd
  rcases hd with rfl | rfl | rfl
  · exact fits_encL n h
  · exact fits_int _ _
  · exact fits_int _ _
theorem fits_encF (n : Nat) {r : RRow} (h : r.1.length ≤ 1000) : fits (n + 3) (encF r) := by
  unfold encF
  rw [fits]
  refine ⟨by simp, fun d hd => ?_⟩
  simp at hd
  rcases hd with rfl | rfl | rfl
  · exact fits_encL n h
  · exact fits_int _ _
  · exact fits_encM _ _
theorem fits_rows {β : Type} {f : β → PyData} {n : Nat} {bs : List β} (hl : bs.length ≤ 1000000) (h : ∀ b ∈ bs, fits n (f b)) : fits (n + 2) (.tuple [.list (bs.map f)]) := by
  rw [fits]
  refine ⟨by simp, fun d hd => ?_⟩
  rw [List.mem_singleton] at hd
  subst hd
  rw [fits]
  refine ⟨by rw [List.length_map]; exact hl, fun d hd => ?_⟩
  obtain ⟨b, hb, rfl⟩ := List.mem_map.mp hd
  exact h b hb
theorem make_R {H : Hp} {n : Nat} {u : Str} {r : V} {d : PyData} {Q : VK} {E : XK} (hr : Dp K H r d) (hf : fits n (.tuple [d])) (h : ∀ H' x, Same H H' → IsR K H' C x u (tupD d) → Q (.ref x) H') :
    ∀ x dx, H x = none → H dx = none → dx ≠ x → spRInit K C u n (V.ref x :: [r]) (upd (upd H dx (.own x)) x (.ins C dx [])) (fun v H2 => v = .non ∧ Q (.ref x) H2) E := fun x dx nx nd _ => by
  have s1 := same_fresh (o := .ins C dx []) (u := .own x) nx nd
  exact ⟨x, dx, r, d, rfl, upd_same, dp_same s1 hr, hf, fun H' v r' bt e d1 => ⟨rfl, h H' x (same_make nx nd bt) ⟨dx, v, r', e, d1⟩⟩⟩
/-! ### seats -/
variable {CS CF fS fF g1 g2 g3 : Addr} {gd1 gd2 gd3 : FuncData}
def IsSv (w : World) (K : PySem.W.Frag) (H : Hp) (CS x : Addr) (G : Game) : Prop := ∃ rs rows Vs, IsR K H CS x "served" (.tuple (rows.map encS)) ∧ SvOk G rs rows Vs ∧ rows.length ≤ 100000
def IsFo (w : World) (K : PySem.W.Frag) (H : Hp) (CF x : Addr) (G : Game) : Prop := ∃ rs rows, IsR K H CF x "forced" (.tuple (rows.map encF)) ∧ RanksOk G rs ∧ FrOk G rs rows
def RetSeats (w : World) (K : PySem.W.Frag) (CS CF : Addr) (G : Game) (H : Hp) (Q : VK) : Prop := ∀ H' x, Same H H' → ((Win G [] ∧ IsFo w K H' CF x G) ∨ (¬ Win G [] ∧ IsSv w K H' CS x G)) → Q (.ref x) H'
def spSeatsIn (w : World) (K : PySem.W.Frag) (CS CF : Addr) : Sp := fun vs H Q _ => ∃ g G, vs = [g] ∧ Dp K H g (encG G) ∧ OkG G ∧ Small G ∧ Apart w G ∧ RetSeats w K CS CF G H Q
theorem ok_seatsIn (F : FnP K "seats_in" sSeatsIn f fd)
    (G1 : FnOk P w K mg base CX0 4 g1 gd1 ["game"] (spRanks w K)) (k1 : PySem.W.keepIn K (.ref g1) = true) (b1 : Binds K gd1 ["game"] []) (m1 : mg "ranks_of" = some (.ref g1))
    (G2 : FnOk P w K mg base CX0 3 g2 gd2 ["game", "ranks"] (spForcedRows w K)) (k2 : PySem.W.keepIn K (.ref g2) = true) (b2 : Binds K gd2 ["game", "ranks"] []) (m2 : mg "forced_rows" = some (.ref g2))
    (G3 : FnOk P w K mg base CX0 3 g3 gd3 ["game", "ranks"] (spServedRows w K)) (k3 : PySem.W.keepIn K (.ref g3) = true) (b3 : Binds K gd3 ["game", "ranks"] []) (m3 : mg "served_rows" = some (.ref g3))
    (MS : Mk K CS fS) (FS : FnR P w K mg base CX0 8 fS (spRInit K CS "served" 5)) (mS : mg "Served" = some (.ref CS)) (MF : Mk K CF fF) (FF : FnR P w K mg base CX0 8 fF (spRInit K CF "forced" 5)) (mF : mg "Forced" = some (.ref CF)) :
    FnOk P w K mg base CX0 10 f fd ["game"] (spSeatsIn w K CS CF) := by
  refine F.ok scSeatsIn (fun vs H Q E h => ?_) (fun cdv A outer s H vs Q E hr h => ?_)
  · obtain ⟨g, G, rfl, _⟩ := h
    rfl
  · obtain ⟨g, G, rfl, hg, ok, small, apart, hq⟩ := h
    refine ⟨_, PSs.nox (pss_cons (ps_set (i := 1) scSeatsIn.nd rfl (Or.inl rfl) (pe_call G1 (hr.mono (by omega)) (by rfl) m1 k1 b1 .nil pass0 (pa_cons (pv 0) pa_nil)))
      (pss_one (ps_ret (pe_ifExp (pt_cmp (pc_nin hr.units (pe_tup pa_nil) (pv 1)) (by with_unfolding_all rfl))
        (pe_makeR MF FF hr (by rfl) mF pass0 (pa_cons (pe_call G2 (hr.mono (by omega)) (by rfl) m2 k2 b2 .nil pass0 (pa_cons (pv 0) (pa_cons (pv 1) pa_nil))) pa_nil))
        (pe_makeR MS FS hr (by rfl) mS pass0 (pa_cons (pe_call G3 (hr.mono (by omega)) (by rfl) m3 k3 b3 .nil pass0 (pa_cons (pv 0) (pa_cons (pv 1) pa_nil))) pa_nil)))))), ?_⟩
    have layLen : ∀ {L : Lay}, Reach G L → L.length ≤ 1000 := fun hL => by
      have h1 := (hL.lay ok).m
      have h2 := ok.m
      omega
    refine ⟨_, rfl, g, G, rfl, hg, ok, small, apart, fun H1 rd kvs rs s1 hn rk nrd rok sh => ?_⟩
    refine ⟨by rw [sizeLine_eq]; show 0 ≤ 16777216; omega, fun e0 ne0 => ?_⟩
    have s2 := same_upd (o := .tup []) ne0
    refine ⟨_, rfl, rd, kvs, keyL [], rfl, (hn.same s2).rd, keyD_L (.tup (sqT_of upd_same) .nil), _, rfl, ?_⟩
    rw [isSome_lay rk.keys]
    have hiff := ranked_iff rok sh
    by_cases hk : [] ∈ rs.map (·.1)
    · rw [decide_eq_true hk]
      refine iteT ?_
      refine ⟨_, rfl, _, rfl, g, rd, G, kvs, rs, rfl, dp_same (s1.trans s2) hg, ok, small, hn.same s2, rk.same s2, rok, hk, fun H3 a xs rows s3 ha na dxs fro => ?_⟩
      have hlen : rows.length ≤ 6000 := by
        have := small _ fro.nd fun L hL => by
          obtain ⟨r, hr, rfl⟩ := List.mem_map.mp hL
          exact (rok.re r (fro.sub r hr)).lay ok
        rw [List.length_map] at this
        exact this
      refine make_R (d := .list (rows.map encF)) (.lst (sqL_of ha) dxs) (fits_rows (by omega) fun r hr => fits_encF 0 (layLen (rok.re r (fro.sub r hr)))) fun H4 x s4 hx => ?_
      rw [tupD_list tupOnly_encF] at hx
      exact hq _ x (((s1.trans s2).trans s3).trans s4) (.inl ⟨hiff.mp hk, rs, rows, hx, rok, fro⟩)
    · rw [decide_eq_false hk]
      refine iteF ?_
      refine ⟨_, rfl, _, rfl, g, rd, G, kvs, rs, rfl, dp_same (s1.trans s2) hg, ok, small, hn.same s2, rk.same s2, sh, hk, fun H3 a xs rows Vs s3 ha na dxs hlen svo => ?_⟩
      refine make_R (d := .list (rows.map encS)) (.lst (sqL_of ha) dxs) (fits_rows (by omega) fun r hr => fits_encS 0 (layLen (svo.re _ (svo.row r hr).1).1)) fun H4 x s4 hx => ?_
      rw [tupD_list tupOnly_encS] at hx
      exact hq _ x (((s1.trans s2).trans s3).trans s4) (.inr ⟨fun hw => hk (hiff.mpr hw), rs, rows, Vs, hx, svo, hlen⟩)
def spSeats (w : World) (K : PySem.W.Frag) (CS CF : Addr) : Sp := fun vs H Q _ => ∃ (c : Int) (a : Addr) (ns : List Int) (m v : Int), vs = [.int c, .ref a, .int m, .int v] ∧ SqL K H a (ns.map V.int) ∧ Fr ns m v ∧ (1 ≤ c ∧ c ≤ 12) ∧ Small (mkG c ns m v) ∧ Apart w (mkG c ns m v) ∧ RetSeats w K CS CF (mkG c ns m v) H Q
theorem RetSeats.pre {CS CF : Addr} {G : Game} {H H1 : Hp} {Q : VK} (h : RetSeats w K CS CF G H Q) (s : Same H H1) : RetSeats w K CS CF G H1 Q := fun H' x s' q => h H' x (s.trans s') q
theorem ok_seats {dvs : List V} (F : FnP K "seats" sSeats f fd)
    (G1 : FnOk P w K mg base CX0 4 g1 gd1 ["cells", "sizes", "many", "live"] (spNeedGame K)) (k1 : PySem.W.keepIn K (.ref g1) = true) (b1 : Binds K gd1 ["cells", "sizes", "many", "live"] []) (m1 : mg "need_game" = some (.ref g1))
    (G2 : FnOk P w K mg base CX0 10 g2 gd2 ["game"] (spSeatsIn w K CS CF)) (k2 : PySem.W.keepIn K (.ref g2) = true) (b2 : Binds K gd2 ["game"] []) (m2 : mg "seats_in" = some (.ref g2)) :
    FnOk P w K mg base CX0 11 f fd ["cells", "sizes", "many", "live"] (spSeats w K CS CF) := by
  refine F.ok scSeats (fun vs H Q E h => ?_) (fun cdv A outer s H vs Q E hr h => ?_)
  · obtain ⟨c, a, ns, m, v, rfl, _⟩ := h
    rfl
  · obtain ⟨c, a, ns, m, v, rfl, hs, fr, hc, small, apart, hq⟩ := h
    refine ⟨_, PSs.nox (pss_one (ps_ret (pe_call G2 hr (by rfl) m2 k2 b2 .nil pass0 (pa_cons (pe_call G1 (hr.mono (by omega)) (by rfl) m1 k1 b1 .nil pass0 (pa_cons (pv 0) (pa_cons (pv 1) (pa_cons (pv 2) (pa_cons (pv 3) pa_nil))))) pa_nil)))), ?_⟩
    refine ⟨_, rfl, _, rfl, _, rfl, _, rfl, c, a, ns, m, v, rfl, hs, fr, hc, fun H1 g s1 hg => ?_⟩
    exact ⟨g, mkG c ns m v, rfl, hg, fr.ok hc, small, apart, hq.pre s1⟩
end
end K23
set_option maxHeartbeats 1000000
namespace K23
open PySem PySem.Spec PyProof.Rows L2 KSup NdefX StX KNest
theorem inV_int (z : Int) : ∀ zs : List Int, inV (.int z) (zs.map V.int) = decide (z ∈ zs)
  | [] => by simp [inV]
  | y :: zs => by
    have ih := inV_int z zs
    unfold inV at *
    rw [List.map_cons, List.any_cons, ih]
    have h1 : eqV (V.int y) (V.int z) = decide (y = z) := by
      show (y == z) = _
      by_cases h : y = z <;> simp [h]
    rw [h1]
    by_cases h : y = z
    · simp [h]
    · have h2 : ¬ z = y := fun e => h e.symm
      simp [h, h2]
theorem flat_ints (zs : List Int) : (zs.map V.int).all flatV = true := by
  rw [List.all_eq_true]
  intro v hv
  obtain ⟨z, _, rfl⟩ := List.mem_map.mp hv
  rfl
/-! ### is_layout -/
def goB (zs : List Int) : Int → Lay → Option Int
  | t, [] => some t
  | t, b :: r => if b.1 < t ∨ b.2 ∉ zs then none else goB zs (b.1 + b.2) r
def isLayB (G : Game) (L : Lay) : Bool := decide ((L.length : Int) ≤ G.m) && (match goB G.zs 0 L with
  | none => false
  | some t => decide (t ≤ G.c) && decide (total L ≤ G.v))
theorem goB_iff {c : Int} {zs : List Int} : ∀ {L : Lay} {t : Int}, (∃ t', goB zs t L = some t' ∧ t' ≤ c) ↔ LayGo c t L ∧ ∀ b ∈ L, b.2 ∈ zs
  | [], t => by
    constructor
    · rintro ⟨t', h1, h2⟩
      cases h1
      exact ⟨h2, fun b hb => nomatch hb⟩
    · exact fun h => ⟨t, rfl, h.1⟩
  | b :: r, t => by
    have ih := goB_iff (c := c) (zs := zs) (L := r) (t := b.1 + b.2)
    rw [goB]
    by_cases h : b.1 < t ∨ b.2 ∉ zs
    · rw [if_pos h]
      constructor
      · rintro ⟨t', h1, _⟩
        cases h1
      · rintro ⟨⟨h1, _⟩, h2⟩
        rcases h with h | h
        · exact absurd h1 (by omega)
        · exact absurd (h2 b List.mem_cons_self) h
    · rw [if_neg h, ih]
      have h' : t ≤ b.1 ∧ b.2 ∈ zs := by
        by_cases h1 : b.1 < t
        · exact absurd (.inl h1) h
        · by_cases h2 : b.2 ∈ zs
          · exact ⟨by omega, h2⟩
          · exact absurd (.inr h2) h
      constructor
      · rintro ⟨h1, h2⟩
        refine ⟨⟨h'.1, h1⟩, fun x hx => ?_⟩
        rcases List.mem_cons.mp hx with rfl | hx
        · exact h'.2
        · exact h2 x hx
      · rintro ⟨⟨_, h1⟩, h2⟩
        exact ⟨h1, fun x hx => h2 x (List.mem_cons_of_mem _ hx)⟩
theorem isLayB_iff {G : Game} {L : Lay} : isLayB G L = true ↔ IsLay G L := by
  unfold isLayB
  rw [Bool.and_eq_true, decide_eq_true_iff]
  constructor
  · rintro ⟨h1, h2⟩
    cases hg : goB G.zs 0 L with
    | none => rw [hg] at h2; cases h2
    | some t =>
      rw [hg] at h2
      simp only [Bool.and_eq_true, decide_eq_true_eq] at h2
      obtain ⟨q1, q2⟩ := goB_iff.mp ⟨t, hg, h2.1⟩
      exact ⟨q1, q2, h1, h2.2⟩
  · intro h
    refine ⟨h.m, ?_⟩
    obtain ⟨t, h1, h2⟩ := goB_iff.mpr ⟨h.go, h.zs⟩
    rw [h1]
    simp only [Bool.and_eq_true, decide_eq_true_eq]
    exact ⟨h2, h.v⟩
section
variable {P : Program} {w : World} {K : PySem.W.Frag} {mg : Str → Option Value} {base : Heap} {f g1 g2 g3 g4 : Addr} {fd gd1 gd2 gd3 gd4 : FuncData}
def spIsLayout (K : PySem.W.Frag) : Sp := fun vs H Q _ => ∃ g l G L, vs = [g, l] ∧ Dp K H g (encG G) ∧ Dp K H l (encL L) ∧ L.length ≤ 1000 ∧ ∀ H', Same H H' → Q (.bl (isLayB G L)) H'
theorem plain_B (b : Blk) : isPlain (encB b) 2 = true := rfl
theorem all_true {β : Type} (bs : List β) : ((bs.map fun _ => true).all id) = true := by
  rw [List.all_eq_true]
  intro b hb
  obtain ⟨_, _, rfl⟩ := List.mem_map.mp hb
  rfl
theorem ok_isLayout (F : FnP K "is_layout" sIsLayout f fd) (T : Bl mg)
    (G2 : FnOk P w K mg base CX0 2 g2 gd2 ["value", "many"] (spIsPlain K)) (k2 : PySem.W.keepIn K (.ref g2) = true) (b2 : Binds K gd2 ["value", "many"] []) (m2 : mg "is_plain_tuple" = some (.ref g2))
    (G4 : FnOk P w K mg base CX0 1 g4 gd4 ["value"] (spIsInt K)) (k4 : PySem.W.keepIn K (.ref g4) = true) (b4 : Binds K gd4 ["value"] []) (m4 : mg "is_integer" = some (.ref g4)) :
    FnOk P w K mg base CX0 3 f fd ["game", "value"] (spIsLayout K) := by
  refine F.ok scIsLayout (fun vs H Q E h => ?_) (fun cdv A outer s H vs Q E hr h => ?_)
  · obtain ⟨g, l, G, L, rfl, _⟩ := h
    rfl
  · obtain ⟨g, l, G, L, rfl, hg, hl, hn, hq⟩ := h
    have r1 : Room 1 (A.deeper (envOfC _ _ s.heap.objs.size f cdv)) := hr.mono (by omega)
    refine ⟨_, PSs.nox (pss_cons (ps_if (PW.pt (pw_or (pt_not (pt_val (pe_callB call_isi (by rfl) T.isi (by decide +kernel) (pa_cons (pv 1) (pa_cons (pe_bltn (v := .ty "tuple") (by rfl) T.tuple (by decide +kernel) rfl) pa_nil)))))
        (pw_or (pt_not (pt_val (pe_callB (cr_all rfl) (by rfl) T.all (by decide +kernel) (pa_cons (pe_lc (own := [("row", 5)]) (g := gName 5) (tt := tYes) rfl scIsLayout.nd (pi_tup (pv 1)) (blkOk_by (N := ["game", "value", "at", "start", "size", "row"]) (sc := defScope sIsLayout) (by decide +kernel))
          (fun _ _ _ _ _ => pg_name (i := 5) scIsLayout.nd rfl (Or.inl rfl)) (fun _ _ _ _ _ => pts_nil) (fun _ _ _ _ _ => pe_call G2 hr (by rfl) m2 k2 b2 .nil pass0 (pa_cons (pv 5) (pa_cons pe_int pa_nil)))) pa_nil))))
        (pw_or1 (pt_cmpR op_gt (pe_callB call_len_seq (by rfl) T.len PySem.boot_len (pa_cons (pv 1) pa_nil)) (pe_ix ix_tup (pv 0) pe_int (fun _ _ => rfl)) (nomark _)))))) (pss_one (ps_ret pe_bl)) pss_nil)
      (pss_cons (ps_set (i := 2) scIsLayout.nd rfl (Or.inl rfl) pe_int)
      (pss_cons (ps_for PassesOwn.never rfl (pi_tup (pv 1)) (pg_tup (t := gCons (gName 3) (gCons (gName 4) gNil)) (n := 2) rfl (pgs_cons (pg_name (i := 3) scIsLayout.nd rfl (Or.inl rfl)) (pgs_cons (pg_name (i := 4) scIsLayout.nd rfl (Or.inl rfl)) pgs_nil)))
        (pss_cons (ps_if (PW.pt (pw_or (pt_not (pt_val (pe_call G4 r1 (by rfl) m4 k4 b4 .nil pass0 (pa_cons (pv 3) pa_nil)))) (pw_or (pt_not (pt_val (pe_call G4 r1 (by rfl) m4 k4 b4 .nil pass0 (pa_cons (pv 4) pa_nil))))
            (pw_or (pt_cmpR op_lt (pv 3) (pv 2) (nomark _)) (pw_or1 (pt_cmpR op_notIn_seq (pv 4) (pe_ix ix_tup (pv 0) pe_int (fun _ _ => rfl)) (by with_unfolding_all rfl))))))) (pss_one (ps_ret pe_bl)) pss_nil)
        (pss_one (ps_set (i := 2) scIsLayout.nd rfl (Or.inl rfl) (pe_op op_add (pv 3) (pv 4))))))
      (pss_one (ps_ret (pe_and (pe_cmpR op_le (pv 2) (pe_ix ix_tup (pv 0) pe_int (fun _ _ => rfl)) (nomark _)) (pe_one (pe_cmpR op_le (pe_callB (cr_sum rfl) (by rfl) T.sum (by decide +kernel) (pa_cons (pe_lc (own := [("start", 3), ("size", 4)]) (g := gTup K 2 (gCons (gName 3) (gCons (gName 4) gNil))) (tt := tYes) rfl scIsLayout.nd (pi_tup (pv 1))
          (blkOk_by (N := ["game", "value", "at", "start", "size", "row"]) (sc := defScope sIsLayout) (by decide +kernel))
          (fun _ _ _ _ _ => pg_tup rfl (pgs_cons (pg_name (i := 3) scIsLayout.nd rfl (Or.inl rfl)) (pgs_cons (pg_name (i := 4) scIsLayout.nd rfl (Or.inl rfl)) pgs_nil))) (fun _ _ _ _ _ => pts_nil) (fun _ _ _ _ _ => pv 4)) pa_nil)) (pe_ix ix_tup (pv 0) pe_int (fun _ _ => rfl)) (nomark _))))))))), ?_⟩
    obtain ⟨p, xs, rfl, sq, da⟩ := dp_encL hl
    obtain ⟨gp, gq, rfl, sg, sz⟩ := dp_encG hg
    have hlen := dpAll_len da
    rw [List.length_map] at hlen
    -- is it a tuple of pairs
    refine ⟨_, rfl, _, _, _, _, true, rfl, .ty _, tyX_tup sq, k_tuple_tuple, true, rfl, iteF ?_⟩
    refine ⟨_, rfl, p, rfl, ⟨_, sq⟩, fun D nD => ?_⟩
    refine lcB_T (K := K) (bs := L) (enc := encB) (keep := fun _ => true) (F := fun _ => .bool true) (by omega) sq nD da (fun b _ _ => rfl) (fun x b H3 s3 hx hmem R S hR hS => ?_) (fun H2 ys s2 eD hys => ?_)
    · refine ⟨wipe_one _ 5 _, ?_⟩
      dsimp only [tYes]
      rw [if_pos rfl]
      refine ⟨_, rfl, x, _, 2, rfl, hx, fun H4 s4 => ?_⟩
      rw [plain_B]
      exact hR _ _ s4 rfl (.bl _)
    rw [filter_ttB] at hys
    have hb := bools_ofB (f := fun _ : Blk => true) hys
    subst hb
    refine ⟨D, _, rfl, sqL_of eD, ?_⟩
    rw [all_true]
    refine ⟨_, rfl, iteF ?_⟩
    refine ⟨_, rfl, _, xs, rfl, .inr (sqT_same s2 sq), _, rfl, gp, _, 2, .int G.m, rfl, rfl, sqT_same s2 sg, rfl, _, _, rfl, rfl, _, rfl, ?_⟩
    rw [hlen]
    by_cases hm : (L.length : Int) ≤ G.m
    case neg =>
      have e : decide ((L.length : Int) > G.m) = true := decide_eq_true (by omega)
      rw [e]
      refine iteT ?_
      have e2 : isLayB G L = false := by
        unfold isLayB
        rw [decide_eq_false hm, Bool.false_and]
      rw [← e2]
      exact hq _ s2
    have e : decide ((L.length : Int) > G.m) = false := decide_eq_false (by omega)
    rw [e]
    refine iteF ?_
    -- one behind another
    refine ⟨_, rfl, p, rfl, ⟨_, sqT_same s2 sq⟩, ?_⟩
    refine for_tup (K := K) (xs := xs) (fun i σ H' => ∃ t x3 x4 x5, σ = [some (.ref gp), some (.ref p), some (.int t), x3, x4, x5] ∧ Same H H' ∧ goB G.zs 0 L = goB G.zs t (L.drop i)) ?_ (fun i σ H' hi q => ?_) (fun i x σ H' hx q => ?_) (fun σ H' q => ?_)
    · exact ⟨0, _, _, _, rfl, s2, rfl⟩
    · obtain ⟨_, _, _, _, _, s3, _⟩ := q
      exact sqT_same s3 sq
    · obtain ⟨t, x3, x4, x5, rfl, s3, hgo⟩ := q
      obtain ⟨d, hd, hxd⟩ := dpAll_get da hx
      rw [List.getElem?_map] at hd
      cases hb : L[i]? with
      | none => rw [hb] at hd; cases hd
      | some b =>
      rw [hb] at hd
      cases hd
      have hi : i < L.length := (List.getElem?_eq_some_iff.mp hb).1
      rw [List.drop_eq_getElem_cons hi, (List.getElem?_eq_some_iff.mp hb).2, goB] at hgo
      obtain ⟨r, rfl, sr⟩ := dp_encB (dp_same s3 hxd)
      refine ⟨r, _, rfl, sr, rfl, _, _, rfl, _, _, rfl, rfl, ?_⟩
      refine ⟨_, rfl, _, _, rfl, .int b.1, _, rfl, iteF ⟨_, rfl, _, _, rfl, .int b.2, _, rfl, iteF ?_⟩⟩
      refine ⟨_, rfl, _, rfl, _, _, rfl, rfl, _, rfl, ?_⟩
      have no : isLayB G L = false → Q (.bl false) H' := fun e => by
        rw [← e]
        exact hq _ s3
      by_cases h1 : b.1 < t
      · rw [decide_eq_true h1]
        rw [if_pos (.inl h1)] at hgo
        exact iteT (no (by unfold isLayB; rw [hgo, Bool.and_false]))
      · rw [decide_eq_false h1]
        refine iteF ?_
        refine ⟨_, rfl, _, rfl, gp, _, 1, .ref gq, rfl, rfl, sqT_same s3 sg, rfl, gq, _, rfl, .inr (sqT_same s3 sz), rfl, flat_ints _, _, rfl, ?_⟩
        rw [if_pos rfl, inV_int]
        by_cases h2 : b.2 ∈ G.zs
        · rw [decide_eq_true h2]
          refine iteF ?_
          rw [if_neg (by rintro (h | h); exact h1 h; exact h h2)] at hgo
          exact ⟨_, rfl, _, rfl, _, _, rfl, rfl, b.1 + b.2, _, _, _, rfl, s3, hgo⟩
        · rw [decide_eq_false h2]
          rw [if_pos (.inr h2)] at hgo
          exact iteT (no (by unfold isLayB; rw [hgo, Bool.and_false]))
    · obtain ⟨t, x3, x4, x5, rfl, s3, hgo⟩ := q
      rw [hlen, List.drop_length, goB] at hgo
      have e3 : isLayB G L = (decide (t ≤ G.c) && decide (total L ≤ G.v)) := by
        unfold isLayB
        rw [decide_eq_true hm, hgo, Bool.true_and]
      refine ⟨_, rfl, _, rfl, gp, _, 0, .int G.c, rfl, rfl, sqT_same s3 sg, rfl, _, _, rfl, rfl, _, rfl, ?_⟩
      cases ht : decide (t ≤ G.c) with
      | false =>
        rw [ht, Bool.false_and] at e3
        refine iteF ?_
        rw [← e3]
        exact hq _ s3
      | true =>
        rw [ht, Bool.true_and] at e3
        refine iteT ?_
        refine ⟨_, rfl, p, rfl, ⟨_, sqT_same s3 sq⟩, fun D2 nD2 => ?_⟩
        refine lcB_T (K := K) (bs := L) (enc := encB) (keep := fun _ => true) (F := fun b => .int b.2) (by omega) (sqT_same s3 sq) nD2 (dpAll_same s3 da) (fun b _ _ => rfl) (fun x b H4 s4 hx hmem R S hR hS => ?_) (fun H4 zs2 s4 eD2 hzs => ?_)
        · obtain ⟨q, rfl, sq2⟩ := dp_encB hx
          refine ⟨q, _, rfl, sq2, rfl, _, _, rfl, _, _, rfl, rfl, wipe_two _ 3 4 _ _, ?_⟩
          dsimp only [tYes]
          rw [if_pos rfl]
          exact ⟨_, rfl, hR _ _ (Same.refl _) rfl (.int _)⟩
        rw [filter_ttB] at hzs
        have ez : zs2 = (L.map (·.2)).map V.int := ints_of (by rw [List.map_map]; exact hzs)
        subst ez
        refine ⟨D2, _, rfl, sqL_of eD2, _, rfl, gp, _, 3, .int G.v, rfl, rfl, sqT_same (s3.trans s4) sg, rfl, _, _, rfl, rfl, ?_⟩
        have h6 := hq _ (s3.trans s4)
        rw [e3] at h6
        exact h6
end
end K23
set_option maxHeartbeats 1000000
namespace K23
open PySem PySem.Spec PyProof.Rows L2 KSup NdefX StX KNest
/-! ### a table of seats -/
def keyLS (L : Lay) (z : Int) : NestedKey := .tup [keyL L, .num z]
theorem data_keyLS (L : Lay) (z : Int) : (keyLS L z).data = .tuple [encL L, .int z] := by simp [keyLS, NestedKey.data, NestedKey.datas, data_keyL]
theorem depth_keyLS (L : Lay) (z : Int) : (keyLS L z).depth ≤ 8 := by
  have h : (keyL L).depth ≤ 2 := by
    have := depthAll_keyB L
    unfold keyL
    rw [NestedKey.depth]
    omega
  unfold keyLS
  simp only [NestedKey.depth, NestedKey.depthAll]
  omega
theorem keyLS_inj {L M : Lay} {z y : Int} (h : keyLS L z = keyLS M y) : (L, z) = (M, y) := by
  unfold keyLS at h
  injection h with h
  injection h with h1 h
  injection h with h2 h
  injection h2 with h2
  rw [keyL_inj h1, h2]
def tkv (rows : List SRow) : List (NK × V) := rows.map fun r => (keyLS r.1 r.2.1, .int r.2.2)
theorem isSome_tkv {rows : List SRow} (L : Lay) (z : Int) : (valV (tkv rows) (keyLS L z)).isSome = decide ((L, z) ∈ rows.map fun r => (r.1, r.2.1)) := by
  rw [isSome_key]
  refine decide_eq_decide.mpr ?_
  unfold tkv
  rw [List.map_map, List.mem_map, List.mem_map]
  constructor
  · rintro ⟨r, hr, e⟩
    exact ⟨r, hr, keyLS_inj e⟩
  · rintro ⟨r, hr, e⟩
    injection e with e1 e2
    exact ⟨r, hr, by show keyLS r.1 r.2.1 = _; rw [e1, e2]⟩
theorem get_tkv : ∀ {rows : List SRow} {r : SRow}, (rows.map fun r => (r.1, r.2.1)).Nodup → r ∈ rows → valV (tkv rows) (keyLS r.1 r.2.1) = some (.int r.2.2)
  | [], _, _, h => nomatch h
  | q :: rows, r, nd, h => by
    rw [List.map_cons, List.nodup_cons] at nd
    rcases List.mem_cons.mp h with rfl | h
    · exact valV_pos (p := (keyLS r.1 r.2.1, .int r.2.2)) rfl
    · have ne : ¬ (keyLS q.1 q.2.1, V.int q.2.2).1 = keyLS r.1 r.2.1 := fun e => nd.1 (List.mem_map.mpr ⟨r, h, (keyLS_inj e).symm⟩)
      show valV ((keyLS q.1 q.2.1, V.int q.2.2) :: tkv rows) _ = _
      rw [valV_neg ne]
      exact get_tkv nd.2 h
structure RowOk (G : Game) (r : SRow) : Prop where
  lay : IsLay G r.1
  z : r.2.1 ∈ G.zs
  s : 0 ≤ r.2.2 ∧ r.2.2 ≤ G.c - r.2.1
  f : r.2.2 ∈ freeS G.c r.1 r.2.1
structure TabOk (G : Game) (rows : List SRow) : Prop where
  row : ∀ r ∈ rows, RowOk G r
  nd : (rows.map fun r => (r.1, r.2.1)).Nodup
theorem dp_encS {K : PySem.W.Frag} {H : Hp} {v : V} {r : SRow} (h : Dp K H v (encS r)) : ∃ p l, v = .ref p ∧ SqT K H p [l, .int r.2.1, .int r.2.2] ∧ Dp K H l (encL r.1) := by
  unfold encS at h
  cases h with
  | tup sq aa =>
  cases aa with
  | cons h1 aa =>
  cases aa with
  | cons h2 aa =>
  cases aa with
  | cons h3 aa =>
  cases aa
  cases h2
  cases h3
  exact ⟨_, _, rfl, sq, h1⟩
theorem keyD_LS {K : PySem.W.Frag} {H : Hp} {p : Addr} {l : V} {L : Lay} {z : Int} (h : SqT K H p [l, .int z]) (d : Dp K H l (encL L)) : KeyD K H (.ref p) (keyLS L z) :=
  ⟨p, rfl, by rw [data_keyLS]; exact .tup h (.cons d (.cons (.int z) .nil)), depth_keyLS L z⟩
section
variable {P : Program} {w : World} {K : PySem.W.Frag} {mg : Str → Option Value} {base : Heap} {f g1 g2 g3 g4 g5 g6 : Addr} {fd gd1 gd2 gd3 gd4 gd5 gd6 : FuncData}
def spTable (w : World) (K : PySem.W.Frag) : Sp := fun vs H Q _ => ∃ (g rv : V) (G : Game) (rows : List SRow), vs = [g, rv] ∧ Dp K H g (encG G) ∧ OkG G ∧ Dp K H rv (.tuple (rows.map encS)) ∧ rows.length ≤ 100000 ∧ (∀ r ∈ rows, r.1.length ≤ 1000) ∧
  (∀ H', Same H H' → ¬ TabOk G rows → Q .non H') ∧ ∀ H' d, Same H H' → HN w K H' d (tkv rows) → H d = none → TabOk G rows → Q (.ref d) H'
theorem ok_table (F : FnP K "table_of_seats" sTable f fd) (T : Bl mg)
    (G1 : FnOk P w K mg base CX0 1 g1 gd1 ["value"] (spIsListed K)) (k1 : PySem.W.keepIn K (.ref g1) = true) (b1 : Binds K gd1 ["value"] []) (m1 : mg "is_listed" = some (.ref g1))
    (G2 : FnOk P w K mg base CX0 2 g2 gd2 ["value", "many"] (spIsPlain K)) (k2 : PySem.W.keepIn K (.ref g2) = true) (b2 : Binds K gd2 ["value", "many"] []) (m2 : mg "is_plain_tuple" = some (.ref g2))
    (G3 : FnOk P w K mg base CX0 3 g3 gd3 ["game", "value"] (spIsLayout K)) (k3 : PySem.W.keepIn K (.ref g3) = true) (b3 : Binds K gd3 ["game", "value"] []) (m3 : mg "is_layout" = some (.ref g3))
    (G4 : FnOk P w K mg base CX0 1 g4 gd4 ["value"] (spIsInt K)) (k4 : PySem.W.keepIn K (.ref g4) = true) (b4 : Binds K gd4 ["value"] []) (m4 : mg "is_integer" = some (.ref g4))
    (G5 : FnOk P w K mg base CX0 2 g5 gd5 ["value", "least", "most"] (spIsWithin K)) (k5 : PySem.W.keepIn K (.ref g5) = true) (b5 : Binds K gd5 ["value", "least", "most"] []) (m5 : mg "is_within" = some (.ref g5))
    (G6 : FnOk P w K mg base CX0 1 g6 gd6 ["game", "layout", "size"] (spFree K)) (k6 : PySem.W.keepIn K (.ref g6) = true) (b6 : Binds K gd6 ["game", "layout", "size"] []) (m6 : mg "free_starts" = some (.ref g6)) :
    FnOk P w K mg base CX0 4 f fd ["game", "value"] (spTable w K) := by
  refine F.ok scTable (fun vs H Q E h => ?_) (fun cdv A outer s H vs Q E hr h => ?_)
  · obtain ⟨g, rv, G, rows, rfl, _⟩ := h
    rfl
  · obtain ⟨g, rv, G, rows, rfl, hg, ok, hrv, hlen, hlay, hqn, hqs⟩ := h
    have r1 : Room 1 (A.deeper (envOfC _ _ s.heap.objs.size f cdv)) := hr.mono (by omega)
    have r2 : Room 2 (A.deeper (envOfC _ _ s.heap.objs.size f cdv)) := hr.mono (by omega)
    refine ⟨_, PSs.nox (pss_cons (ps_if (PW.pt (pw_or (pt_not (pt_val (pe_call G1 r1 (by rfl) m1 k1 b1 .nil pass0 (pa_cons (pv 1) pa_nil))))
        (pw_or1 (pt_not (pt_val (pe_callB (cr_all rfl) (by rfl) T.all (by decide +kernel) (pa_cons (pe_lc (own := [("row", 6)]) (g := gName 6) (tt := tYes) rfl scTable.nd (pi_tup (pv 1)) (blkOk_by (N := ["game", "value", "found", "layout", "size", "start", "row"]) (sc := defScope sTable) (by decide +kernel))
          (fun _ _ _ _ _ => pg_name (i := 6) scTable.nd rfl (Or.inl rfl)) (fun _ _ _ _ _ => pts_nil) (fun _ _ _ _ _ => pe_call G2 r2 (by rfl) m2 k2 b2 .nil pass0 (pa_cons (pv 6) (pa_cons pe_int pa_nil)))) pa_nil))))))) (pss_one (ps_ret pe_non)) pss_nil)
      (pss_cons (ps_set (i := 2) scTable.nd rfl (Or.inl rfl) pe_nnew)
      (pss_cons (ps_for PassesOwn.never rfl (pi_tup (pv 1)) (pg_tup (t := gCons (gName 3) (gCons (gName 4) (gCons (gName 5) gNil))) (n := 3) rfl (pgs_cons (pg_name (i := 3) scTable.nd rfl (Or.inl rfl)) (pgs_cons (pg_name (i := 4) scTable.nd rfl (Or.inl rfl)) (pgs_cons (pg_name (i := 5) scTable.nd rfl (Or.inl rfl)) pgs_nil))))
        (pss_cons (ps_if (PW.pt (pw_or (pt_not (pt_val (pe_call G3 hr (by rfl) m3 k3 b3 .nil pass0 (pa_cons (pv 0) (pa_cons (pv 3) pa_nil))))) (pw_or (pt_not (pt_val (pe_call G4 r1 (by rfl) m4 k4 b4 .nil pass0 (pa_cons (pv 4) pa_nil))))
            (pw_or1 (pt_cmpR op_notIn_seq (pv 4) (pe_ix ix_tup (pv 0) pe_int (fun _ _ => rfl)) (by with_unfolding_all rfl)))))) (pss_one (ps_ret pe_non)) pss_nil)
        (pss_cons (ps_if (PW.pt (pw_or (pt_cmp (pc_nin hr.units (pe_tup (pa_cons (pv 3) (pa_cons (pv 4) pa_nil))) (pv 2)) (by with_unfolding_all rfl)) (pw_or1 (pt_not (pt_val (pe_call G5 r2 (by rfl) m5 k5 b5 .nil pass0 (pa_cons (pv 5) (pa_cons pe_int (pa_cons (pe_op op_sub (pe_ix ix_tup (pv 0) pe_int (fun _ _ => rfl)) (pv 4)) pa_nil))))))))) (pss_one (ps_ret pe_non)) pss_nil)
        (pss_cons (ps_if (pt_cmpR op_notIn_seq (pv 5) (pe_call G6 r1 (by rfl) m6 k6 b6 .nil pass0 (pa_cons (pv 0) (pa_cons (pv 3) (pa_cons (pv 4) pa_nil)))) (by with_unfolding_all rfl)) (pss_one (ps_ret pe_non)) pss_nil)
        (pss_one (ps_nput hr.units (pv 2) (pe_tup (pa_cons (pv 3) (pa_cons (pv 4) pa_nil))) (pv 5) rfl))))))
      (pss_one (ps_ret (pv 2))))))  , ?_⟩
    obtain ⟨gp, gq, rfl, sg, sz⟩ := dp_encG hg
    cases hrv with
    | @tup a xs _ sq da =>
    have hxl := dpAll_len da
    rw [List.length_map] at hxl
    refine ⟨_, rfl, .ref a, _, rfl, .tup sq da, fun H1 s1 => ⟨_, rfl, ?_⟩⟩
    show (if (!isSeq (.tuple (rows.map encS))) = true then _ else _)
    refine iteF ?_
    refine ⟨_, rfl, a, rfl, ⟨_, sqT_same s1 sq⟩, fun D nD => ?_⟩
    refine lcB_T (K := K) (bs := rows) (enc := encS) (keep := fun _ => true) (F := fun _ => .bool true) (by omega) (sqT_same s1 sq) nD (dpAll_same s1 da) (fun b _ _ => rfl) (fun x b H3 s3 hx hmem R S hR hS => ?_) (fun H2 ys s2 eD hys => ?_)
    · refine ⟨wipe_one _ 6 _, ?_⟩
      dsimp only [tYes]
      rw [if_pos rfl]
      refine ⟨_, rfl, x, _, 3, rfl, hx, fun H4 s4 => ?_⟩
      have e : isPlain (encS b) 3 = true := rfl
      rw [e]
      exact hR _ _ s4 rfl (.bl _)
    rw [filter_ttB] at hys
    have hb := bools_ofB (f := fun _ : SRow => true) hys
    subst hb
    refine ⟨D, _, rfl, sqL_of eD, ?_⟩
    rw [all_true]
    refine ⟨_, rfl, iteF ?_⟩
    have s12 := s1.trans s2
    -- found
    intro d nd
    have s3 := same_upd (o := dN w d []) nd
    have ndH : H d = none := s12.free nd
    refine ⟨_, rfl, a, rfl, ⟨_, sqT_same (s12.trans s3) sq⟩, ?_⟩
    refine for_tup (K := K) (xs := xs) (fun i σ H' => ∃ x3 x4 x5 x6, σ = [some (.ref gp), some (.ref a), some (.ref d), x3, x4, x5, x6] ∧ Same H H' ∧ HN w K H' d (tkv (rows.take i)) ∧ TabOk G (rows.take i)) ?_ (fun i σ H' hi q => ?_) (fun i x σ H' hx q => ?_) (fun σ H' q => ?_)
    · exact ⟨_, _, _, _, rfl, s12.trans s3, ⟨[], upd_same, (fun x hx => nomatch hx), rfl⟩, (fun r hr => by simp at hr), by simp⟩
    · obtain ⟨_, _, _, _, _, s4, _⟩ := q
      exact sqT_same s4 sq
    · obtain ⟨x3, x4, x5, x6, rfl, s4, hn, tab⟩ := q
      obtain ⟨dd, hd, hxd⟩ := dpAll_get da hx
      rw [List.getElem?_map] at hd
      cases hrr : rows[i]? with
      | none => rw [hrr] at hd; cases hd
      | some r =>
      rw [hrr] at hd
      cases hd
      have hmem : r ∈ rows := List.mem_of_getElem? hrr
      have tk : rows.take (i + 1) = rows.take i ++ [r] := by rw [List.take_add_one, hrr]; rfl
      obtain ⟨p, l, rfl, sp, dl⟩ := dp_encS (dp_same s4 hxd)
      refine ⟨p, _, rfl, sp, rfl, _, _, rfl, _, _, rfl, _, _, rfl, rfl, ?_⟩
      refine ⟨_, rfl, _, rfl, .ref gp, l, G, r.1, rfl, dp_same s4 hg, dl, hlay r hmem, fun H5 s5 => ⟨_, rfl, ?_⟩⟩
      have s45 := s4.trans s5
      cases hl : isLayB G r.1 with
      | false =>
        exact iteT (hqn _ s45 fun t => by have := isLayB_iff.mpr (t.row r hmem).lay; rw [hl] at this; cases this)
      | true =>
      have lay := isLayB_iff.mp hl
      refine iteF ⟨_, rfl, _, _, rfl, .int r.2.1, _, rfl, iteF ?_⟩
      refine ⟨_, rfl, _, rfl, gp, _, 1, .ref gq, rfl, rfl, sqT_same s45 sg, rfl, gq, _, rfl, .inr (sqT_same s45 sz), rfl, flat_ints _, _, rfl, ?_⟩
      rw [if_pos rfl, inV_int]
      by_cases hz : r.2.1 ∈ G.zs
      case neg =>
        rw [decide_eq_false hz]
        exact iteT (hqn _ s45 fun t => hz (t.row r hmem).z)
      rw [decide_eq_true hz]
      refine iteF ?_
      have hz3 := ok.zs _ hz
      -- (layout, size) in found
      refine ⟨_, rfl, _, rfl, by rw [sizeLine_eq]; show 2 ≤ 16777216; omega, fun k1 nk1 => ?_⟩
      have s6 := same_upd (o := .tup [l, .int r.2.1]) nk1
      have s46 := s45.trans s6
      refine ⟨_, rfl, d, tkv (rows.take i), keyLS r.1 r.2.1, rfl, ((hn.same s5).same s6).rd, keyD_LS (sqT_of upd_same) (dp_same (s5.trans s6) dl), _, rfl, ?_⟩
      rw [isSome_tkv]
      by_cases hin : (r.1, r.2.1) ∈ (rows.take i).map fun r => (r.1, r.2.1)
      · rw [decide_eq_true hin]
        refine iteT (hqn _ s46 fun t => ?_)
        have h1 : ((rows.take (i + 1)).map fun r => (r.1, r.2.1)).Nodup := t.nd.sublist ((List.take_sublist _ _).map _)
        rw [tk, List.map_append] at h1
        exact (List.nodup_append.mp h1).2.2 _ hin _ (List.mem_singleton.mpr rfl) rfl
      rw [decide_eq_false hin]
      refine iteF ?_
      refine ⟨_, rfl, _, rfl, gp, _, 0, .int G.c, rfl, rfl, sqT_same s46 sg, rfl, _, rfl, _, _, rfl, rfl, _, _, _, _, rfl, .int r.2.2, _, rfl, ?_⟩
      cases hw : inI (.int r.2.2) 0 (G.c - r.2.1) with
      | false =>
        refine iteT (hqn _ s46 fun t => ?_)
        obtain ⟨h1, h2⟩ := (t.row r hmem).s
        have : (decide (0 ≤ r.2.2) && decide (r.2.2 ≤ G.c - r.2.1)) = false := hw
        rw [decide_eq_true h1, decide_eq_true h2] at this
        cases this
      | true =>
      have hs : 0 ≤ r.2.2 ∧ r.2.2 ≤ G.c - r.2.1 := by
        have h : (decide (0 ≤ r.2.2) && decide (r.2.2 ≤ G.c - r.2.1)) = true := hw
        simpa using h
      refine iteF ?_
      -- start not in free_starts
      refine ⟨_, rfl, _, rfl, _, rfl, _, rfl, .ref gp, l, r.2.1, G, r.1, rfl, dp_same s46 hg, ok, dp_same (s5.trans s6) dl, lay, hz3, fun H7 a7 fs s7 hfs na7 dfs => ?_⟩
      have ef := ints_of dfs
      subst ef
      refine ⟨a7, _, rfl, .inl (sqL_of hfs), rfl, flat_ints _, _, rfl, ?_⟩
      rw [if_pos rfl, inV_int]
      have s47 := s46.trans s7
      by_cases hf : r.2.2 ∈ freeS G.c r.1 r.2.1
      case neg =>
        rw [decide_eq_false hf]
        exact iteT (hqn _ s47 fun t => hf (t.row r hmem).f)
      rw [decide_eq_true hf]
      refine iteF ?_
      refine ⟨_, rfl, _, rfl, _, rfl, _, rfl, by rw [sizeLine_eq]; show 2 ≤ 16777216; omega, fun k2 nk2 => ?_⟩
      have s8 := same_upd (o := .tup [l, .int r.2.1]) nk2
      have hn8 := (((hn.same s5).same s6).same s7).same s8
      have hlt : (tkv (rows.take i)).length ≤ rows.length := by unfold tkv; rw [List.length_map]; exact List.length_take_le' _ _
      refine ⟨d, tkv (rows.take i), keyLS r.1 r.2.1, rfl, hn8, by rw [sizeLine_eq]; omega, keyD_LS (sqT_of upd_same) (dp_same (((s5.trans s6).trans s7).trans s8) dl), fun H9 b9 hn9 => ?_⟩
      have hfr : (valV (tkv (rows.take i)) (keyLS r.1 r.2.1)).isSome = false := by rw [isSome_tkv]; exact decide_eq_false hin
      rw [putK_fresh _ hfr] at hn9
      refine ⟨_, _, _, _, rfl, fun b o e => b9 _ _ (ne_of_none e ndH) ((s47.trans s8) _ _ e), ?_, ?_, ?_⟩
      · rw [tk]
        have e : tkv (rows.take i ++ [r]) = tkv (rows.take i) ++ [(keyLS r.1 r.2.1, .int r.2.2)] := by unfold tkv; rw [List.map_append]; rfl
        rw [e]
        exact hn9
      · intro q hq'
        rw [tk] at hq'
        rcases List.mem_append.mp hq' with h | h
        · exact tab.row q h
        · rw [List.mem_singleton] at h
          subst h
          exact ⟨lay, hz, hs, hf⟩
      · rw [tk, List.map_append]
        exact List.nodup_append.mpr ⟨tab.nd, by simp, fun x hx y hy e => by rw [List.map_singleton, List.mem_singleton] at hy; subst hy; subst e; exact hin hx⟩
    · obtain ⟨x3, x4, x5, x6, rfl, s4, hn, tab⟩ := q
      rw [hxl, List.take_length] at hn tab
      exact ⟨_, rfl, hqs _ d s4 hn ndH tab⟩
end
end K23
set_option maxHeartbeats 1000000
namespace K23
open PySem PySem.Spec PyProof.Rows L2 KSup NdefX StX KNest
/-- what a program comes to when blocks are put by the rows -/
inductive ReachT (G : Game) (rows : List SRow) : Lay → Prop
  | nil : ReachT G rows []
  | give {L : Lay} {b : Blk} : ReachT G rows L → b ∈ L → ReachT G rows (dropS L b.1)
  | put {L : Lay} {z s : Int} : ReachT G rows L → z ∈ wants G L → (L, z, s) ∈ rows → ReachT G rows (insB (s, z) L)
structure ServedOk (G : Game) (rows : List SRow) : Prop where
  tab : TabOk G rows
  all : ∀ L, ReachT G rows L → ∀ z ∈ wants G L, ∃ s, (L, z, s) ∈ rows
theorem ReachT.lay {G : Game} {rows : List SRow} {L : Lay} (ok : OkG G) (t : TabOk G rows) (h : ReachT G rows L) : IsLay G L := by
  induction h with
  | nil => exact isLay_nil ok
  | give _ _ ih => exact ih.give ok
  | put _ hw hr ih => exact ih.put ok hw (t.row _ hr).f
def DoneT (G : Game) (rows : List SRow) (Fs : List Lay) (L : Lay) (m : Mv) : Prop := (∀ s, m = .give s → dropS L s ∈ Fs) ∧ ∀ z, m = .want z → ∃ st, (L, z, st) ∈ rows ∧ insB (st, z) L ∈ Fs
theorem DoneT.mono {G : Game} {rows : List SRow} {Fs Fs' : List Lay} {L : Lay} {m : Mv} (h : DoneT G rows Fs L m) (a : ∀ x ∈ Fs, x ∈ Fs') : DoneT G rows Fs' L m :=
  ⟨fun s e => a _ (h.1 s e), fun z e => let ⟨st, h1, h3⟩ := h.2 z e; ⟨st, h1, a _ h3⟩⟩
section
variable {P : Program} {w : World} {K : PySem.W.Frag} {mg : Str → Option Value} {base : Heap} {f g1 g2 g3 g4 g5 g6 : Addr} {fd gd1 gd2 gd3 gd4 gd5 gd6 : FuncData}
structure FL (w : World) (K : PySem.W.Frag) (H6 H' : Hp) (fd ll : Addr) (F Ln : List Lay) : Prop where
  kp : Kp [fd, ll] H6 H'
  hn : HN w K H' fd (KL F)
  ll : ∃ ys, H' ll = some (.lst ys) ∧ DpAll K H' ys (Ln.map encL)
section
variable {H6 H' : Hp} {fd ll : Addr} {F Ln : List Lay}
theorem FL.noTups (h : FL w K H6 H' fd ll F Ln) : ∀ x ∈ [fd, ll], NoTup x H' := by
  intro x hx
  rw [List.mem_cons, List.mem_singleton] at hx
  rcases hx with rfl | rfl
  · exact hn_noTup h.hn
  · obtain ⟨_, e, _⟩ := h.ll
    exact noTup_lst e
theorem FL.same {H2 : Hp} (h : FL w K H6 H' fd ll F Ln) (s : Same H' H2) : FL w K H6 H2 fd ll F Ln := by
  obtain ⟨ys, e1, d1⟩ := h.ll
  exact ⟨h.kp.trans (same_kp s), h.hn.same s, ⟨ys, s _ _ e1, dpAll_same s d1⟩⟩
theorem FL.put {H8 : Hp} {o : Lay} (h : FL w K H6 H' fd ll F Ln) (n3 : ll ≠ fd) (b : But fd H' H8) (hn : HN w K H8 fd (KL (F ++ [o]))) : FL w K H6 H8 fd ll (F ++ [o]) Ln := by
  obtain ⟨ys, e1, d1⟩ := h.ll
  have kp1 : Kp [fd] H' H8 := but_kp b (by simp)
  have ex1 : ∀ x ∈ [fd], NoTup x H' := fun x hx => h.noTups x (by rw [List.mem_singleton] at hx; simp [hx])
  exact ⟨h.kp.trans (but_kp b (by simp)), hn, ⟨ys, b _ _ n3 e1, dpAll_kp kp1 ex1 (tupAll_lays _) d1⟩⟩
theorem FL.line {ys : List V} {z : V} {o : Lay} (h : FL w K H6 H' fd ll F Ln) (n3 : ll ≠ fd) (e : H' ll = some (.lst ys)) (hz : Dp K H' z (encL o)) : FL w K H6 (upd H' ll (.lst (ys ++ [z]))) fd ll F (Ln ++ [o]) := by
  obtain ⟨ys', e1, d1⟩ := h.ll
  rw [e] at e1
  cases e1
  have kp1 : Kp [ll] H' (upd H' ll (.lst (ys ++ [z]))) := kp_upd (by simp)
  have ex1 : ∀ x ∈ [ll], NoTup x H' := fun x hx => h.noTups x (by rw [List.mem_singleton] at hx; simp [hx])
  refine ⟨h.kp.trans (kp_upd (by simp)), hn_kp kp1 ex1 (by simp [Ne.symm n3]) h.hn, ⟨_, upd_same, ?_⟩⟩
  rw [List.map_append]
  exact dpAll_kp kp1 ex1 (by rw [← List.map_append]; exact tupAll_lays _) (dpAll_snoc d1 hz)
/-- the last of the line -/
theorem FL.pop {Lr : List Lay} {L0 : Lay} (h : FL w K H6 H' fd ll F (Lr ++ [L0])) (n3 : ll ≠ fd) :
    ∃ y0 yr, H' ll = some (.lst (yr ++ [y0])) ∧ Dp K (upd H' ll (.lst yr)) y0 (encL L0) ∧ FL w K H6 (upd H' ll (.lst yr)) fd ll F Lr := by
  obtain ⟨ys, e1, d1⟩ := h.ll
  have sp : ∀ (Lr : List Lay) (ys : List V), DpAll K H' ys ((Lr ++ [L0]).map encL) → ∃ y0 yr, ys = yr ++ [y0] ∧ Dp K H' y0 (encL L0) ∧ DpAll K H' yr (Lr.map encL) := by
    intro Lr
    induction Lr with
    | nil =>
      intro ys d
      cases d with
      | cons a b =>
        cases b
        exact ⟨_, [], rfl, a, .nil⟩
    | cons L Lr ih =>
      intro ys d
      cases d with
      | @cons y _ _ _ a b =>
        obtain ⟨y0, yr, rfl, d0, dr⟩ := ih _ b
        exact ⟨y0, y :: yr, rfl, d0, .cons a dr⟩
  obtain ⟨y0, yr, rfl, d0, dr⟩ := sp Lr ys d1
  have kp1 : Kp [ll] H' (upd H' ll (.lst yr)) := kp_upd (by simp)
  have ex1 : ∀ x ∈ [ll], NoTup x H' := fun x hx => h.noTups x (by rw [List.mem_singleton] at hx; simp [hx])
  exact ⟨y0, yr, e1, dp_kp kp1 ex1 (tupOnly_encL _) d0, h.kp.trans (kp_upd (by simp)), hn_kp kp1 ex1 (by simp [Ne.symm n3]) h.hn, ⟨yr, upd_same, dpAll_kp kp1 ex1 (tupAll_lays _) dr⟩⟩
end
structure TW (G : Game) (rows : List SRow) (F Ln : List Lay) : Prop where
  nd : F.Nodup
  re : ∀ L ∈ F, ReachT G rows L
  nil : [] ∈ F
  ln : ∀ L ∈ Ln, L ∈ F
  done : ∀ L ∈ F, L ∉ Ln → ∀ m ∈ movesAt G L, DoneT G rows F L m
  le : Ln.length ≤ F.length
def TInv (w : World) (K : PySem.W.Frag) (G : Game) (H : Hp) (g rv : V) (td fd ll : Addr) (rows : List SRow) (m : Nat) (σ : L2.St) (H' : Hp) : Prop := ∃ (F Ln : List Lay) (x5 x6 x7 x8 : Option V), σ = [some g, some rv, some (.ref td), some (.ref fd), some (.ref ll), x5, x6, x7, x8] ∧
  Same H H' ∧ FL w K H' H' fd ll F Ln ∧ TW G rows F Ln ∧ m = 6000 - F.length + Ln.length
/-- in the middle of a layout's moves -/
structure TM (G : Game) (rows : List SRow) (F0 : List Lay) (L0 : Lay) (k : Nat) (A : List Lay) : Prop where
  nd : (F0 ++ A).Nodup
  re : ∀ L ∈ F0 ++ A, ReachT G rows L
  done : ∀ m ∈ (movesAt G L0).take k, DoneT G rows (F0 ++ A) L0 m
theorem TM.fin {G : Game} {rows : List SRow} {F : List Lay} {L0 : Lay} {Lr : List Lay} {k : Nat} {A : List Lay} (h : TM G rows F L0 k A) (tw : TW G rows F (Lr ++ [L0])) (hk : (movesAt G L0).take k = movesAt G L0) : TW G rows (F ++ A) (Lr ++ A) := by
  refine ⟨h.nd, h.re, List.mem_append_left _ tw.nil, fun L hL => ?_, fun L hL hno m hm => ?_, ?_⟩
  · rcases List.mem_append.mp hL with h1 | h1
    · exact List.mem_append_left _ (tw.ln L (List.mem_append_left _ h1))
    · exact List.mem_append_right _ h1
  · rcases List.mem_append.mp hL with h1 | h1
    · by_cases e : L = L0
      · subst e
        exact h.done m (by rw [hk]; exact hm)
      · refine (tw.done L h1 (fun h2 => ?_) m hm).mono (fun x hx => List.mem_append_left _ hx)
        rcases List.mem_append.mp h2 with h3 | h3
        · exact hno (List.mem_append_left _ h3)
        · exact e (List.mem_singleton.mp h3)
    · exact absurd (List.mem_append_right _ h1) hno
  · have := tw.le
    rw [List.length_append, List.length_singleton] at this
    rw [List.length_append, List.length_append]
    omega
def spIsServed (w : World) (K : PySem.W.Frag) : Sp := fun vs H Q _ => ∃ (g rv : V) (G : Game) (rows : List SRow), vs = [g, rv] ∧ Dp K H g (encG G) ∧ OkG G ∧ Small G ∧ Dp K H rv (.tuple (rows.map encS)) ∧ rows.length ≤ 100000 ∧ (∀ r ∈ rows, r.1.length ≤ 1000) ∧
  ∀ H' b, Same H H' → (b = true ↔ ServedOk G rows) → Q (.bl b) H'
theorem ok_isServed (F : FnP K "is_served" sIsServed f fd) (T : Bl mg)
    (G1 : FnOk P w K mg base CX0 1 g1 gd1 ["game", "layout"] (spMoves K)) (k1 : PySem.W.keepIn K (.ref g1) = true) (b1 : Binds K gd1 ["game", "layout"] []) (m1 : mg "moves_at" = some (.ref g1))
    (G2 : FnOk P w K mg base CX0 2 g2 gd2 ["game", "layout", "move"] (spLed K)) (k2 : PySem.W.keepIn K (.ref g2) = true) (b2 : Binds K gd2 ["game", "layout", "move"] []) (m2 : mg "led_to" = some (.ref g2))
    (G3 : FnOk P w K mg base CX0 4 g3 gd3 ["game", "value"] (spTable w K)) (k3 : PySem.W.keepIn K (.ref g3) = true) (b3 : Binds K gd3 ["game", "value"] []) (m3 : mg "table_of_seats" = some (.ref g3))
    (G4 : FnOk P w K mg base CX0 1 g4 gd4 ["layout", "start", "size"] (spPutAt K)) (k4 : PySem.W.keepIn K (.ref g4) = true) (b4 : Binds K gd4 ["layout", "start", "size"] []) (m4 : mg "put_at" = some (.ref g4)) :
    FnOk P w K mg base CX0 5 f fd ["game", "rows"] (spIsServed w K) := by
  refine F.ok scIsServed (fun vs H Q E h => ?_) (fun cdv A outer s H vs Q E hr h => ?_)
  · obtain ⟨g, rv, G, rows, rfl, _⟩ := h
    rfl
  · obtain ⟨g, rv, G, rows, rfl, hg, ok, small, hrv, hrl, hlay, hq⟩ := h
    have r1 : Room 1 (A.deeper (envOfC _ _ s.heap.objs.size f cdv)) := hr.mono (by omega)
    have r2 : Room 2 (A.deeper (envOfC _ _ s.heap.objs.size f cdv)) := hr.mono (by omega)
    refine ⟨_, PSs.nox (pss_cons (ps_set (i := 2) scIsServed.nd rfl (Or.inl rfl) (pe_call G3 hr (by rfl) m3 k3 b3 .nil pass0 (pa_cons (pv 0) (pa_cons (pv 1) pa_nil))))
      (pss_cons (ps_if (pt_cmpR op_isN (pv 2) pe_non (nomark _)) (pss_one (ps_ret pe_bl)) pss_nil)
      (pss_cons (ps_par (i := 3) (j := 4) rfl scIsServed.nd rfl rfl (by decide) rfl rfl (pa_cons (pe_disp1N hr.units (pe_tup pa_nil) pe_bl) (pa_cons (pe_lst (pa_cons (pe_tup pa_nil) pa_nil)) pa_nil)) (by rfl))
      (pss_cons (ps_while PassesOwn.never (pt_cmpR (op_neD hr.units) (pv 4) (pe_lst pa_nil) (nomark _))
        (pss_cons (ps_set (i := 5) scIsServed.nd rfl (Or.inl rfl) (pe_bm0 PySem.F.plainAttrs_list PySem.F.slot_list_pop PySem.F.type_list_pop mt_pop (pv 4)))
        (pss_one (ps_for PassesOwn.never rfl (pi_list (pe_call G1 r1 (by rfl) m1 k1 b1 .nil pass0 (pa_cons (pv 0) (pa_cons (pv 5) pa_nil)))) (pg_tup (t := gCons (gName 6) (gCons (gName 7) gNil)) (n := 2) rfl (pgs_cons (pg_name (i := 6) scIsServed.nd rfl (Or.inl rfl)) (pgs_cons (pg_name (i := 7) scIsServed.nd rfl (Or.inl rfl)) pgs_nil)))
          (C8.pss_cut (ps_if (PW.pt (pw_and (pt_cmpR op_eq (pv 6) pe_str (nomark _)) (pw_and1 (pt_cmp (pc_nnotin hr.units (pe_tup (pa_cons (pv 5) (pa_cons (pv 7) pa_nil))) (pv 2)) (by with_unfolding_all rfl))))) (pss_one (ps_ret pe_bl)) pss_nil)
          (C8.pss_cut (ps_if (pt_cmpR op_eq (pv 6) pe_str (nomark _))
              (pss_one (ps_set (i := 8) scIsServed.nd rfl (Or.inl rfl) (pe_call G4 r1 (by rfl) m4 k4 b4 .nil pass0 (pa_cons (pv 5) (pa_cons (pe_nget hr.units (pv 2) (pe_tup (pa_cons (pv 5) (pa_cons (pv 7) pa_nil))) (fun _ _ => rfl)) (pa_cons (pv 7) pa_nil))))))
              (pss_one (ps_set (i := 8) scIsServed.nd rfl (Or.inl rfl) (pe_ix ix_list (pe_call G2 r2 (by rfl) m2 k2 b2 .nil pass0 (pa_cons (pv 0) (pa_cons (pv 5) (pa_cons (pe_tup (pa_cons (pv 6) (pa_cons (pv 7) pa_nil))) pa_nil)))) pe_int (fun _ _ => rfl)))))
          (pss_one (ps_if (pt_cmp (pc_nnotin hr.units (pv 8) (pv 3)) (by with_unfolding_all rfl))
                (pss_cons (ps_nput hr.units (pv 3) (pv 8) pe_bl rfl) (pss_one (ps_expr (pe_bm PySem.F.plainAttrs_list PySem.F.slot_list_append PySem.F.type_list_append mt_append (pv 4) (pa_cons (pv 8) pa_nil))))) pss_nil))))))))
      (pss_one (ps_ret pe_bl))))))  , ?_⟩
    refine ⟨_, rfl, _, rfl, g, rv, G, rows, rfl, hg, ok, hrv, hrl, hlay, fun H0 s0 hno => ?_, fun H0 td s0 ht ntd tab => ?_⟩
    · refine ⟨_, rfl, rfl, _, rfl, iteT (hq _ false s0 ⟨fun h => (nomatch h), fun h => absurd h.tab hno⟩)⟩
    refine ⟨_, rfl, rfl, _, rfl, iteF ?_⟩
    intro fd nfd
    refine ⟨by rw [sizeLine_eq]; show 0 ≤ 16777216; omega, fun e0 ne0 => ⟨keyL [], ?_, ?_, fun H1 b1 hn1 => ?_⟩⟩
    · rw [upd_ne (ne_of_none upd_same ne0)]
      exact upd_same
    · exact keyD_L (.tup (sqT_of upd_same) .nil)
    have sA : Same H0 (upd (upd H0 fd (dN w fd [])) e0 (.tup [])) := (same_upd nfd).trans (same_upd ne0)
    have sB : Same H0 H1 := fun b o e => b1 _ _ (ne_of_none e nfd) (sA _ _ e)
    refine ⟨by rw [sizeLine_eq]; show 0 ≤ 16777216; omega, fun e1 ne1 => ⟨by rw [sizeLine_eq]; show 1 ≤ 16777216; omega, fun ll nll => ⟨_, _, rfl, ?_⟩⟩⟩
    have s2 := same_upd (o := .tup []) ne1
    have s3 := same_upd (o := .lst [.ref e1]) nll
    have nfdH : H fd = none := s0.free nfd
    have nll0 : H0 ll = none := sB.free (s2.free nll)
    have nllH : H ll = none := s0.free nll0
    have lfd : ll ≠ fd := by
      obtain ⟨ys, e, _⟩ := hn1
      exact fun z => ne_of_none (s2 _ _ e) nll z.symm
    have tdE : ∃ o, H0 td = some o := let ⟨y, e, _⟩ := ht; ⟨_, e⟩
    have tdfd : td ≠ fd := let ⟨o, e⟩ := tdE; ne_of_none e nfd
    have tdll : td ≠ ll := let ⟨o, e⟩ := tdE; ne_of_none e nll0
    have exN : ∀ x ∈ [fd, ll], H0 x = none := by
      intro x hx
      rw [List.mem_cons, List.mem_singleton] at hx
      rcases hx with rfl | rfl
      · exact nfd
      · exact nll0
    refine ⟨TInv w K G H0 g rv td fd ll rows, ⟨_, [[]], [[]], _, _, _, _, rfl, (sB.trans s2).trans s3, ⟨Kp.refl, (hn1.same s2).same s3, ⟨[.ref e1], upd_same, .cons (.tup (sqT_of (s3 _ _ upd_same)) .nil) .nil⟩⟩, ⟨by simp, ?_, List.mem_singleton.mpr rfl, fun L hL => hL, fun L hL hn => absurd hL hn, Nat.le_refl _⟩, rfl⟩, ?_⟩
    · intro L hL
      rw [List.mem_singleton] at hL
      subst hL
      exact .nil
    rintro m σ H2 ⟨F, Ln, x5, x6, x7, x8, rfl, sH, fl, tw, rfl⟩
    obtain ⟨ys, hll, dl⟩ := fl.ll
    refine ⟨_, rfl, by rw [sizeLine_eq]; show 0 ≤ 16777216; omega, fun l1 nl1 => ?_⟩
    have s4 := same_upd (o := .lst []) nl1
    refine ⟨.list (Ln.map encL), .list [], .lst (sqL_of (s4 _ _ hll)) (dpAll_same s4 dl), .lst (sqL_of upd_same) .nil, shaped_lays Ln, by decide +kernel, _, rfl, ?_⟩
    have layF : ∀ L ∈ F, IsLay G L := fun L hL => (tw.re L hL).lay ok tab
    have hF6 : F.length ≤ 6000 := small F tw.nd layF
    have fl4 := fl.same s4
    have sH4 := sH.trans s4
    generalize upd H2 l1 (.lst []) = H4 at *
    rcases List.eq_nil_or_concat Ln with rfl | ⟨Lr, L0, rfl⟩
    · refine hq _ true (s0.trans sH4) ⟨fun _ => ⟨tab, fun L hL z hz => ?_⟩, fun _ => rfl⟩
      have cl : ∀ L, ReachT G rows L → L ∈ F := by
        intro L hL
        induction hL with
        | nil => exact tw.nil
        | @give L b hL hb ih => exact (tw.done L ih (fun h => nomatch h) (.give b.1) (mem_moves.mpr (.inl ⟨b, hb, rfl⟩))).1 _ rfl
        | @put L z s hL hz hr ih =>
          obtain ⟨st, h1, h2⟩ := (tw.done L ih (fun h => nomatch h) (.want z) (mem_moves.mpr (.inr ⟨z, hz, rfl⟩))).2 _ rfl
          have e1 := get_tkv tab.nd h1
          have e2 := get_tkv tab.nd hr
          rw [show (L, z, st).1 = (L, z, s).1 from rfl, show (L, z, st).2.1 = (L, z, s).2.1 from rfl, e2] at e1
          injection e1 with e1
          injection e1 with e1
          have e1 : s = st := e1
          subst e1
          exact h2
      obtain ⟨st, h1, _⟩ := (tw.done L (cl L hL) (fun h => nomatch h) (.want z) (mem_moves.mpr (.inr ⟨z, hz, rfl⟩))).2 _ rfl
      exact ⟨st, h1⟩
    · rw [List.concat_eq_append] at *
      have hne : PyData.eqv (.list ((Lr ++ [L0]).map encL)) (.list []) = false := by
        cases Lr <;> rfl
      rw [hne]
      refine iteT ⟨fun σ' H' => ∃ m', m' < 6000 - F.length + (Lr ++ [L0]).length ∧ TInv w K G H0 g rv td fd ll rows m' σ' H', fun σ' H' h => h, ?_⟩
      obtain ⟨y0, yr, hll4, dy0, fl5⟩ := fl4.pop lfd
      refine ⟨_, rfl, .inl ⟨rfl, _, sqL_of hll4⟩, ll, yr ++ [y0], y0, rfl, rfl, hll4, by simp, ?_⟩
      have ed : (yr ++ [y0]).dropLast = yr := by simp
      rw [ed]
      have sH5 : Same H0 (upd H4 ll (.lst yr)) := fun b o e => by
        rw [upd_ne (ne_of_none e nll0)]
        exact sH4 _ _ e
      generalize upd H4 ll (.lst yr) = H5 at sH5 dy0 fl5 ⊢
      have hL0 : L0 ∈ F := tw.ln L0 (List.mem_append_right _ List.mem_cons_self)
      have hre0 := tw.re L0 hL0
      have lay := layF L0 hL0
      have lm := lay.m
      have cm := ok.m
      have mlen := len_moves ok lay
      have hg0 := dp_same s0 hg
      refine ⟨_, rfl, _, rfl, g, y0, G, L0, rfl, dp_same sH5 hg0, ok, dy0, by omega, fun H6 a1 ms s6 hms na1 dms => ?_⟩
      refine ⟨a1, rfl, ⟨_, sqL_of hms⟩, ?_⟩
      have fl6 : FL w K H6 H6 fd ll F Lr := by
        have h := fl5.same s6
        exact ⟨Kp.refl, h.hn, h.ll⟩
      have sH6 := sH5.trans s6
      have dy6 := dp_same s6 dy0
      have a1n : a1 ∉ [fd, ll] := by
        intro hx
        rw [List.mem_cons, List.mem_singleton] at hx
        rcases hx with rfl | rfl
        · obtain ⟨_, e, _⟩ := fl5.hn
          rw [e] at na1
          cases na1
        · obtain ⟨_, e, _⟩ := fl5.ll
          rw [e] at na1
          cases na1
      have hml := dpAll_len dms
      rw [List.length_map] at hml
      have toS : ∀ {H' : Hp}, Kp [fd, ll] H6 H' → Same H0 H' := fun k b o e => k b o (fun hb => by rw [exN b hb] at e; cases e) (sH6 b o e)
      refine for_list (K := K) (xs := ms) (fun k σ H' => ∃ A x6 x7 x8, σ = [some g, some rv, some (.ref td), some (.ref fd), some (.ref ll), some y0, x6, x7, x8] ∧ FL w K H6 H' fd ll (F ++ A) (Lr ++ A) ∧ TM G rows F L0 k A) ?_ (fun k σ H' hk p => ?_) (fun k y σ H7 hy p => ?_) (fun σ H' p => ?_)
      · exact ⟨[], _, _, _, rfl, by rw [List.append_nil, List.append_nil]; exact fl6, by rw [List.append_nil]; exact tw.nd, by rw [List.append_nil]; exact tw.re, fun m hm => by simp at hm⟩
      · obtain ⟨A, _, _, _, _, fl7, _⟩ := p
        exact sqL_of (fl7.kp _ _ a1n hms)
      · obtain ⟨A, z6, z7, z8, rfl, fl7, tm⟩ := p
        obtain ⟨d, hd, hyd⟩ := dpAll_get dms hy
        rw [List.getElem?_map] at hd
        cases hM : (movesAt G L0)[k]? with
        | none => rw [hM] at hd; cases hd
        | some mv =>
        rw [hM] at hd
        cases hd
        have hmv : mv ∈ movesAt G L0 := List.mem_of_getElem? hM
        have hy7 : Dp K H7 y (encM mv) := dp_kp fl7.kp fl6.noTups (tupOnly_encM mv) hyd
        have dy7 : Dp K H7 y0 (encL L0) := dp_kp fl7.kp fl6.noTups (tupOnly_encL L0) dy6
        have sH7 := toS fl7.kp
        have hlen7 := small (F ++ A) tm.nd fun L hL => (tm.re L hL).lay ok tab
        obtain ⟨mp, rfl, hsq⟩ := dp_encM2 hy7
        refine ⟨mp, _, rfl, hsq, rfl, _, _, rfl, _, _, rfl, rfl, ?_⟩
        refine ⟨fun σ' H8 => σ' = [some g, some rv, some (.ref td), some (.ref fd), some (.ref ll), some y0, some (.str (mvW mv)), some (.int (mvN mv)), z8] ∧ Same H7 H8 ∧ ∀ z, mv = .want z → ∃ st, (L0, z, st) ∈ rows, ?_, ?_⟩
        · cases mv with
          | give s0 => exact ⟨_, rfl, rfl, _, rfl, iteF (iteF ⟨rfl, Same.refl _, fun z e => nomatch e⟩)⟩
          | want z =>
            refine ⟨_, rfl, rfl, _, rfl, iteT ?_⟩
            refine ⟨_, rfl, _, rfl, by rw [sizeLine_eq]; show 2 ≤ 16777216; omega, fun kp nkp => ?_⟩
            have s8 := same_upd (o := .tup [y0, .int (mvN (.want z))]) nkp
            refine ⟨_, rfl, td, tkv rows, keyLS L0 z, rfl, (ht.same (sH7.trans s8)).rd, keyD_LS (sqT_of upd_same) (dp_same s8 dy7), _, rfl, ?_⟩
            rw [isSome_tkv]
            by_cases hin : (L0, z) ∈ rows.map fun r => (r.1, r.2.1)
            · rw [decide_eq_true hin]
              refine iteF ⟨rfl, s8, fun z' e => ?_⟩
              injection e with e
              subst e
              obtain ⟨r, hr, e⟩ := List.mem_map.mp hin
              injection e with e1 e2
              exact ⟨r.2.2, by rw [← e1, ← e2]; exact hr⟩
            · rw [decide_eq_false hin]
              refine iteT ?_
              refine hq _ false ((s0.trans sH7).trans s8) ⟨fun h => (nomatch h), fun h => ?_⟩
              have hzw : z ∈ wants G L0 := by
                rcases mem_moves.mp hmv with ⟨b, _, e⟩ | ⟨z', hz', e⟩
                · cases e
                · cases e
                  exact hz'
              obtain ⟨st, hst⟩ := h.all L0 hre0 z hzw
              exact absurd (List.mem_map.mpr ⟨_, hst, rfl⟩) hin
        rintro σ' H8 ⟨rfl, s78, hwant⟩
        have fl8 := fl7.same s78
        have dy8 := dp_same s78 dy7
        have sH8 := sH7.trans s78
        refine ⟨fun σ' H9 => ∃ (o : Lay) (v : V) (x6 x7 : Option V), σ' = [some g, some rv, some (.ref td), some (.ref fd), some (.ref ll), some y0, x6, x7, some v] ∧ FL w K H6 H9 fd ll (F ++ A) (Lr ++ A) ∧ Dp K H9 v (encL o) ∧ ReachT G rows o ∧ ∀ Fs, o ∈ Fs → DoneT G rows Fs L0 mv, ?_, ?_⟩
        · cases mv with
          | give s0 =>
            refine ⟨_, rfl, rfl, _, rfl, iteF ?_⟩
            refine ⟨_, rfl, _, rfl, _, rfl, _, rfl, by rw [sizeLine_eq]; show 2 ≤ 16777216; omega, fun tp ntp => ?_⟩
            have s9 := same_upd (o := .tup [.str (mvW (.give s0)), .int (mvN (.give s0))]) ntp
            refine ⟨g, y0, .ref tp, G, L0, .give s0, rfl, dp_same (sH8.trans s9) hg0, ok, dp_same s9 dy8, lay, dp_mkM2 (sqT_of upd_same), hmv, fun H10 a2 os s10 hos na2 dos => ?_⟩
            cases dos with
            | @cons o1 _ _ _ do1 dor =>
            cases dor
            have hbm : ∃ b ∈ L0, Mv.give s0 = .give b.1 := by
              rcases mem_moves.mp hmv with h | ⟨z, _, e⟩
              · exact h
              · cases e
            obtain ⟨b, hb, eb⟩ := hbm
            injection eb with eb
            subst eb
            exact ⟨a2, _, 0, o1, rfl, rfl, sqL_of hos, rfl, dropS L0 b.1, o1, _, _, rfl, (fl8.same s9).same s10, do1, .give hre0 hb, fun Fs ho => ⟨(fun s e => by injection e with e; rw [← e]; exact ho), (fun z e => nomatch e)⟩⟩
          | want z =>
            refine ⟨_, rfl, rfl, _, rfl, iteT ?_⟩
            obtain ⟨st, hst⟩ := hwant z rfl
            have hzw : z ∈ wants G L0 := by
              rcases mem_moves.mp hmv with ⟨b, _, e⟩ | ⟨z', hz', e⟩
              · cases e
              · cases e
                exact hz'
            have rok := tab.row _ hst
            refine ⟨_, rfl, _, rfl, _, rfl, _, rfl, by rw [sizeLine_eq]; show 2 ≤ 16777216; omega, fun kp nkp => ?_⟩
            have s9 := same_upd (o := .tup [y0, .int (mvN (.want z))]) nkp
            refine ⟨td, tkv rows, keyLS L0 z, .int st, rfl, (ht.same (sH8.trans s9)).rd, keyD_LS (sqT_of upd_same) (dp_same s9 dy8), get_tkv tab.nd hst, _, rfl, ?_⟩
            refine ⟨y0, st, z, L0, rfl, dp_same s9 dy8, by omega, lay.up ok, (free_facts ok lay rok.z rok.f).1, fun H12 v s12 hv => ?_⟩
            exact ⟨insB (st, z) L0, v, _, _, rfl, (fl8.same s9).same s12, hv, .put hre0 hzw hst, fun Fs ho => ⟨(fun s e => nomatch e), fun z' e => by injection e with e; subst e; exact ⟨st, hst, ho⟩⟩⟩
        rintro σ' H9 ⟨o, v, x6, x7, rfl, fl9, hv, hreo, hdone⟩
        refine ⟨_, rfl, _, rfl, fd, KL (F ++ A), keyL o, rfl, fl9.hn.rd, keyD_L hv, _, rfl, ?_⟩
        rw [isSome_lay (keys_KL (F ++ A))]
        by_cases hin : o ∈ F ++ A
        · rw [decide_eq_true hin]
          refine iteF ⟨A, _, _, _, rfl, fl9, tm.nd, tm.re, fun m hm => ?_⟩
          rcases (take_succ_mem hM).mp hm with h1 | rfl
          · exact tm.done m h1
          · exact hdone _ hin
        · rw [decide_eq_false hin]
          refine iteT ?_
          refine ⟨_, rfl, _, rfl, fd, KL (F ++ A), keyL o, rfl, fl9.hn, by unfold KL; rw [List.length_map, sizeLine_eq]; omega, keyD_L hv, fun H10 b10 hn10 => ?_⟩
          rw [put_KL hin] at hn10
          have fl10 := fl9.put lfd b10 hn10
          have hv10 : Dp K H10 v (encL o) := dp_kp (but_kp (ex := [fd, ll]) b10 (by simp)) fl9.noTups (tupOnly_encL o) hv
          obtain ⟨ys9, hys9, dys9⟩ := fl10.ll
          have hyl := dpAll_len dys9
          rw [List.length_map, List.length_append] at hyl
          have hl3 := tw.le
          rw [List.length_append] at hl3 hlen7
          refine ⟨_, rfl, .inl ⟨rfl, _, sqL_of hys9⟩, _, rfl, ll, ys9, v, rfl, rfl, hys9, by rw [sizeLine_eq]; omega, ?_⟩
          have fl11 := fl10.line lfd hys9 hv10
          rw [List.append_assoc, List.append_assoc] at fl11
          have mono : ∀ x ∈ F ++ A, x ∈ F ++ (A ++ [o]) := fun x hx => by
            rw [← List.append_assoc]
            exact List.mem_append_left _ hx
          refine ⟨A ++ [o], _, _, _, rfl, fl11, ?_, fun L hL => ?_, fun m hm => ?_⟩
          · rw [← List.append_assoc]
            exact List.nodup_append.mpr ⟨tm.nd, by simp, fun a ha b hb => by rw [List.mem_singleton] at hb; subst hb; exact fun e => hin (e ▸ ha)⟩
          · rw [← List.append_assoc] at hL
            rcases List.mem_append.mp hL with h | h
            · exact tm.re L h
            · rw [List.mem_singleton] at h
              subst h
              exact hreo
          · rcases (take_succ_mem hM).mp hm with h1 | rfl
            · exact (tm.done m h1).mono mono
            · exact hdone _ (List.mem_append_right _ (List.mem_append_right _ List.mem_cons_self))
      · obtain ⟨A, z6, z7, z8, rfl, fl7, tm⟩ := p
        have hlen7 := small (F ++ A) tm.nd fun L hL => (tm.re L hL).lay ok tab
        have hk : (movesAt G L0).take ms.length = movesAt G L0 := by rw [hml, List.take_length]
        have fl8 : FL w K H' H' fd ll (F ++ A) (Lr ++ A) := ⟨Kp.refl, fl7.hn, fl7.ll⟩
        refine ⟨_, ?_, F ++ A, Lr ++ A, _, _, _, _, rfl, toS fl7.kp, fl8, tm.fin tw hk, rfl⟩
        rw [List.length_append] at hlen7 ⊢
        rw [List.length_append, List.length_append, List.length_singleton]
        omega
end
end K23
set_option maxHeartbeats 1000000
namespace K23
open PySem PySem.Spec PyProof.Rows L2 KSup NdefX StX KNest
/-! ### moves alike -/
theorem leaf_str (a b : Str) : leafLike (.str a) (.str b) = decide (a = b) := by
  by_cases h : a = b
  · subst h
    simp [leafLike, isBoolD, PyData.eqv]
  · simp [leafLike, isBoolD, PyData.eqv, h]
theorem leaf_int (a b : Int) : leafLike (.int a) (.int b) = decide (a = b) := by
  by_cases h : a = b
  · subst h
    simp [leafLike, isBoolD, PyData.eqv]
  · simp [leafLike, isBoolD, PyData.eqv, h]
theorem like_M (m m' : Mv) : likeD (encM m) (encM m') = decide (m = m') := by
  have e1 : decide (("give" : Str) = ("want" : Str)) = false := by decide +kernel
  have e2 : decide (("want" : Str) = ("give" : Str)) = false := by decide +kernel
  cases m with
  | give a =>
    cases m' with
    | give b => simp [encM, likeD, likeDs, leaf_str, leaf_int]
    | want b => simp only [encM, likeD, likeDs, leaf_str, leaf_int, e1]; simp
  | want a =>
    cases m' with
    | give b => simp only [encM, likeD, likeDs, leaf_str, leaf_int, e2]; simp
    | want b => simp [encM, likeD, likeDs, leaf_str, leaf_int]
theorem pair_M (m m' : Mv) : pairT 1 (encM m) (encM m') := by
  have sg : SeqAt.shaped (.str "give") = true := by decide +kernel
  have sw : SeqAt.shaped (.str "want") = true := by decide +kernel
  have ih : ∀ s : Int, SeqAt.shaped (.int s) = true := fun s => by simp [SeqAt.shaped, PyData.canLay0, PyData.depth]
  cases m <;> cases m' <;> (unfold encM; rw [pairT]; refine ⟨by simp, by simp, fun p hp => ?_⟩; simp at hp; rcases hp with rfl | rfl; exact ⟨rfl, rfl, (by first | exact sg | exact sw), (by first | exact sg | exact sw)⟩; exact ⟨rfl, rfl, ih _, ih _⟩)
structure FRow (G : Game) (r : RRow) : Prop where
  lay : IsLay G r.1
  n : 0 ≤ r.2.1
  m : r.2.2 ∈ movesAt G r.1
structure FTab (G : Game) (rows : List RRow) : Prop where
  row : ∀ r ∈ rows, FRow G r
  nd : (rows.map (·.1)).Nodup
structure ForcedOk (G : Game) (rows : List RRow) : Prop where
  tab : FTab G rows
  nil : [] ∈ rows.map (·.1)
  all : ∀ r ∈ rows, ∀ o ∈ ledTo G r.1 r.2.2, ∃ q ∈ rows, q.1 = o ∧ q.2.1 < r.2.1
theorem dp_encF {K : PySem.W.Frag} {H : Hp} {v : V} {r : RRow} (h : Dp K H v (encF r)) : ∃ p l m, v = .ref p ∧ SqT K H p [l, .int r.2.1, m] ∧ Dp K H l (encL r.1) ∧ Dp K H m (encM r.2.2) := by
  unfold encF at h
  cases h with
  | tup sq aa =>
  cases aa with
  | cons h1 aa =>
  cases aa with
  | cons h2 aa =>
  cases aa with
  | cons h3 aa =>
  cases aa
  cases h2
  exact ⟨_, _, _, rfl, sq, h1, h3⟩
theorem uniq_row {rows : List RRow} (nd : (rows.map (·.1)).Nodup) {q r : RRow} (hq : q ∈ rows) (hr : r ∈ rows) (e : q.1 = r.1) : q = r := by
  induction rows with
  | nil => cases hq
  | cons x rows ih =>
    rw [List.map_cons, List.nodup_cons] at nd
    rcases List.mem_cons.mp hq with e1 | hq'
    · rcases List.mem_cons.mp hr with e2 | hr'
      · rw [e1, e2]
      · exact absurd (List.mem_map.mpr ⟨r, hr', by rw [← e, e1]⟩) nd.1
    · rcases List.mem_cons.mp hr with e2 | hr'
      · exact absurd (List.mem_map.mpr ⟨q, hq', by rw [e, e2]⟩) nd.1
      · exact ih nd.2 hq' hr'
theorem walk_itemsN {w : World} {d : Addr} {o : Obj} {xs : List NRow} : Walk (Itp w d o xs) xs.length (fun H => H d = some (.frz o (dN w d xs))) (fun i H x H' => ∃ T r, xs[i]? = some r ∧ x = .ref T ∧ H T = none ∧ H' = upd H T (.tup [.ref r.2.1, r.2.2])) :=
  ⟨fun _ _ hi q => ⟨q, hi⟩, fun _ q => ⟨q, Nat.le_refl _⟩, fun _ _ _ _ _ _ y => y⟩
/-- the rows of a locked table of ranks -/
theorem rows_RKV {K : PySem.W.Frag} {H : Hp} : ∀ {xs : List NRow} {rs : List RRow}, NKeys K H xs → RKV K H (xs.map prN) rs → xs.length = rs.length ∧ ∀ (i : Nat) (x : NRow), xs[i]? = some x → ∃ r, rs[i]? = some r ∧ Dp K H (.ref x.2.1) (encL r.1) ∧ Dp K H x.2.2 (encV r)
  | [], _, _, h => by
    cases h
    exact ⟨rfl, fun i r h => by simp at h⟩
  | x :: xs, _, n, h => by
    rw [List.map_cons] at h
    cases h with
    | @cons _ r _ rs h1 h2 =>
      obtain ⟨l, ih⟩ := rows_RKV (fun y hy => n y (List.mem_cons_of_mem _ hy)) h2
      refine ⟨by rw [List.length_cons, List.length_cons, l], fun i y hy => ?_⟩
      cases i with
      | zero =>
        simp only [List.getElem?_cons_zero, Option.some.injEq] at hy
        subst hy
        have h3 := (n x List.mem_cons_self).1
        have h4 : x.1 = keyL r.1 := h1.1
        rw [h4, data_keyL] at h3
        exact ⟨r, rfl, h3, h1.2⟩
      | succ i => exact ih i y (by simpa using hy)
section
variable {P : Program} {w : World} {K : PySem.W.Frag} {mg : Str → Option Value} {base : Heap} {f g1 g2 g3 g4 g5 g6 : Addr} {fd gd1 gd2 gd3 gd4 gd5 gd6 : FuncData}
def spRanksIn (w : World) (K : PySem.W.Frag) : Sp := fun vs H Q _ => ∃ (g rv : V) (G : Game) (rows : List RRow), vs = [g, rv] ∧ Dp K H g (encG G) ∧ OkG G ∧ Dp K H rv (.tuple (rows.map encF)) ∧ rows.length ≤ 100000 ∧ (∀ r ∈ rows, r.1.length ≤ 1000) ∧
  (∀ H', Same H H' → ¬ FTab G rows → Q .non H') ∧ ∀ H' d kvs, Same H H' → HN w K H' d kvs → RKV K H' kvs rows → H d = none → FTab G rows → Q (.ref d) H'
theorem ok_ranksIn (F : FnP K "ranks_in" sRanksIn f fd) (T : Bl mg) (anyN : mg "any" = none)
    (G1 : FnOk P w K mg base CX0 1 g1 gd1 ["value"] (spIsListed K)) (k1 : PySem.W.keepIn K (.ref g1) = true) (b1 : Binds K gd1 ["value"] []) (m1 : mg "is_listed" = some (.ref g1))
    (G2 : FnOk P w K mg base CX0 2 g2 gd2 ["value", "many"] (spIsPlain K)) (k2 : PySem.W.keepIn K (.ref g2) = true) (b2 : Binds K gd2 ["value", "many"] []) (m2 : mg "is_plain_tuple" = some (.ref g2))
    (G3 : FnOk P w K mg base CX0 3 g3 gd3 ["game", "value"] (spIsLayout K)) (k3 : PySem.W.keepIn K (.ref g3) = true) (b3 : Binds K gd3 ["game", "value"] []) (m3 : mg "is_layout" = some (.ref g3))
    (G4 : FnOk P w K mg base CX0 1 g4 gd4 ["value"] (spIsInt K)) (k4 : PySem.W.keepIn K (.ref g4) = true) (b4 : Binds K gd4 ["value"] []) (m4 : mg "is_integer" = some (.ref g4))
    (G5 : FnOk P w K mg base CX0 2 g5 gd5 ["one", "other"] (spLike K 1)) (k5 : PySem.W.keepIn K (.ref g5) = true) (b5 : Binds K gd5 ["one", "other"] []) (m5 : mg "are_like" = some (.ref g5))
    (G6 : FnOk P w K mg base CX0 1 g6 gd6 ["game", "layout"] (spMoves K)) (k6 : PySem.W.keepIn K (.ref g6) = true) (b6 : Binds K gd6 ["game", "layout"] []) (m6 : mg "moves_at" = some (.ref g6)) :
    FnOk P w K mg base CX0 4 f fd ["game", "value"] (spRanksIn w K) := by
  refine F.ok scRanksIn (fun vs H Q E h => ?_) (fun cdv A outer s H vs Q E hr h => ?_)
  · obtain ⟨g, rv, G, rows, rfl, _⟩ := h
    rfl
  · obtain ⟨g, rv, G, rows, rfl, hg, ok, hrv, hlen, hlay, hqn, hqs⟩ := h
    have r1 : Room 1 (A.deeper (envOfC _ _ s.heap.objs.size f cdv)) := hr.mono (by omega)
    have r2 : Room 2 (A.deeper (envOfC _ _ s.heap.objs.size f cdv)) := hr.mono (by omega)
    refine ⟨_, PSs.nox (pss_cons (ps_if (PW.pt (pw_or (pt_not (pt_val (pe_call G1 r1 (by rfl) m1 k1 b1 .nil pass0 (pa_cons (pv 1) pa_nil))))
        (pw_or1 (pt_not (pt_val (pe_callB (cr_all rfl) (by rfl) T.all (by decide +kernel) (pa_cons (pe_lc (own := [("row", 6)]) (g := gName 6) (tt := tYes) rfl scRanksIn.nd (pi_tup (pv 1)) (blkOk_by (N := ["game", "value", "found", "layout", "rank", "move", "row", "one"]) (sc := defScope sRanksIn) (by decide +kernel))
          (fun _ _ _ _ _ => pg_name (i := 6) scRanksIn.nd rfl (Or.inl rfl)) (fun _ _ _ _ _ => pts_nil) (fun _ _ _ _ _ => pe_call G2 r2 (by rfl) m2 k2 b2 .nil pass0 (pa_cons (pv 6) (pa_cons pe_int pa_nil)))) pa_nil))))))) (pss_one (ps_ret pe_non)) pss_nil)
      (pss_cons (ps_set (i := 2) scRanksIn.nd rfl (Or.inl rfl) pe_nnew)
      (pss_cons (ps_for PassesOwn.never rfl (pi_tup (pv 1)) (pg_tup (t := gCons (gName 3) (gCons (gName 4) (gCons (gName 5) gNil))) (n := 3) rfl (pgs_cons (pg_name (i := 3) scRanksIn.nd rfl (Or.inl rfl)) (pgs_cons (pg_name (i := 4) scRanksIn.nd rfl (Or.inl rfl)) (pgs_cons (pg_name (i := 5) scRanksIn.nd rfl (Or.inr rfl)) pgs_nil))))
        (pss_cons (ps_if (PW.pt (pw_or (pt_not (pt_val (pe_call G3 hr (by rfl) m3 k3 b3 .nil pass0 (pa_cons (pv 0) (pa_cons (pv 3) pa_nil))))) (pw_or (pt_cmp (pc_nin hr.units (pv 3) (pv 2)) (by with_unfolding_all rfl)) (pw_or (pt_not (pt_val (pe_call G4 r1 (by rfl) m4 k4 b4 .nil pass0 (pa_cons (pv 4) pa_nil))))
            (pw_or1 (pt_cmpR op_lt (pv 4) pe_int (nomark _))))))) (pss_one (ps_ret pe_non)) pss_nil)
        (pss_cons (ps_if (pt_not (pt_val (pe_callB (cr_any rfl) (by rfl) anyN (by decide +kernel) (pa_cons (pe_lc (own := [("one", 7)]) (g := gName 7) (tt := tYes) rfl scRanksIn.nd (pi_list (pe_call G6 r1 (by rfl) m6 k6 b6 .nil pass0 (pa_cons (pv 0) (pa_cons (pv 3) pa_nil)))) (blkOk_by (N := ["game", "value", "found", "layout", "rank", "move", "row", "one"]) (sc := defScope sRanksIn) (by decide +kernel))
          (fun _ _ _ _ _ => pg_name (i := 7) scRanksIn.nd rfl (Or.inl rfl)) (fun _ _ _ _ _ => pts_nil) (fun _ _ _ _ _ => pe_call G5 r2 (by rfl) m5 k5 b5 .nil pass0 (pa_cons (pv 5) (pa_cons (pv 7) pa_nil)))) pa_nil)))) (pss_one (ps_ret pe_non)) pss_nil)
        (pss_one (ps_nput hr.units (pv 2) (pv 3) (pe_tup (pa_cons (pv 4) (pa_cons (pv 5) pa_nil))) rfl)))))
      (pss_one (ps_ret (pv 2))))))  , ?_⟩
    cases hrv with
    | @tup a xs _ sq da =>
    have hxl := dpAll_len da
    rw [List.length_map] at hxl
    refine ⟨_, rfl, .ref a, _, rfl, .tup sq da, fun H1 s1 => ⟨_, rfl, ?_⟩⟩
    show (if (!isSeq (.tuple (rows.map encF))) = true then _ else _)
    refine iteF ?_
    refine ⟨_, rfl, a, rfl, ⟨_, sqT_same s1 sq⟩, fun D nD => ?_⟩
    refine lcB_T (K := K) (bs := rows) (enc := encF) (keep := fun _ => true) (F := fun _ => .bool true) (by omega) (sqT_same s1 sq) nD (dpAll_same s1 da) (fun b _ _ => rfl) (fun x b H3 s3 hx hmem R S hR hS => ?_) (fun H2 ys s2 eD hys => ?_)
    · refine ⟨wipe_one _ 6 _, ?_⟩
      dsimp only [tYes]
      rw [if_pos rfl]
      refine ⟨_, rfl, x, _, 3, rfl, hx, fun H4 s4 => ?_⟩
      have e : isPlain (encF b) 3 = true := rfl
      rw [e]
      exact hR _ _ s4 rfl (.bl _)
    rw [filter_ttB] at hys
    have hb := bools_ofB (f := fun _ : RRow => true) hys
    subst hb
    refine ⟨D, _, rfl, sqL_of eD, ?_⟩
    rw [all_true]
    refine ⟨_, rfl, iteF ?_⟩
    have s12 := s1.trans s2
    intro d nd
    have s3 := same_upd (o := dN w d []) nd
    have ndH : H d = none := s12.free nd
    refine ⟨_, rfl, a, rfl, ⟨_, sqT_same (s12.trans s3) sq⟩, ?_⟩
    refine for_tup (K := K) (xs := xs) (fun i σ H' => ∃ x3 x4 x5 x6 x7 kvs, σ = [some g, some (.ref a), some (.ref d), x3, x4, x5, x6, x7] ∧ Same H H' ∧ HN w K H' d kvs ∧ RKV K H' kvs (rows.take i) ∧ FTab G (rows.take i)) ?_ (fun i σ H' hi q => ?_) (fun i x σ H' hx q => ?_) (fun σ H' q => ?_)
    · exact ⟨_, _, _, _, _, [], rfl, s12.trans s3, ⟨[], upd_same, (fun x hx => nomatch hx), rfl⟩, .nil, (fun r hr => by simp at hr), by simp⟩
    · obtain ⟨_, _, _, _, _, _, _, s4, _⟩ := q
      exact sqT_same s4 sq
    · obtain ⟨x3, x4, x5, x6, x7, kvs, rfl, s4, hn, rk, tab⟩ := q
      obtain ⟨dd, hd, hxd⟩ := dpAll_get da hx
      rw [List.getElem?_map] at hd
      cases hrr : rows[i]? with
      | none => rw [hrr] at hd; cases hd
      | some r =>
      rw [hrr] at hd
      cases hd
      have hmem : r ∈ rows := List.mem_of_getElem? hrr
      have tk : rows.take (i + 1) = rows.take i ++ [r] := by rw [List.take_add_one, hrr]; rfl
      obtain ⟨p, l, mv, rfl, sp, dl, dm⟩ := dp_encF (dp_same s4 hxd)
      refine ⟨p, _, rfl, sp, rfl, _, _, rfl, _, _, rfl, _, _, rfl, rfl, ?_⟩
      refine ⟨_, rfl, _, rfl, g, l, G, r.1, rfl, dp_same s4 hg, dl, hlay r hmem, fun H5 s5 => ⟨_, rfl, ?_⟩⟩
      have s45 := s4.trans s5
      cases hl : isLayB G r.1 with
      | false =>
        exact iteT (hqn _ s45 fun t => by have := isLayB_iff.mpr (t.row r hmem).lay; rw [hl] at this; cases this)
      | true =>
      have lay := isLayB_iff.mp hl
      have lm := lay.m
      have cm := ok.m
      refine iteF ?_
      have dl5 := dp_same s5 dl
      refine ⟨_, rfl, _, rfl, d, kvs, keyL r.1, rfl, (hn.same s5).rd, keyD_L dl5, _, rfl, ?_⟩
      rw [isSome_lay rk.keys]
      by_cases hin : r.1 ∈ (rows.take i).map (·.1)
      · rw [decide_eq_true hin]
        refine iteT (hqn _ s45 fun t => ?_)
        have h1 : ((rows.take (i + 1)).map (·.1)).Nodup := t.nd.sublist ((List.take_sublist _ _).map _)
        rw [tk, List.map_append] at h1
        exact (List.nodup_append.mp h1).2.2 _ hin _ (List.mem_singleton.mpr rfl) rfl
      rw [decide_eq_false hin]
      refine iteF ⟨_, rfl, _, _, rfl, .int r.2.1, _, rfl, iteF ?_⟩
      refine ⟨_, rfl, _, _, rfl, rfl, _, rfl, ?_⟩
      by_cases hneg : r.2.1 < 0
      · rw [decide_eq_true hneg]
        exact iteT (hqn _ s45 fun t => by have := (t.row r hmem).n; omega)
      rw [decide_eq_false hneg]
      refine iteF ?_
      -- any of the moves
      refine ⟨_, rfl, _, rfl, g, l, G, r.1, rfl, dp_same s45 hg, ok, dl5, by omega, fun H6 a6 ms s6 hms na6 dms => ?_⟩
      refine ⟨a6, rfl, ⟨_, sqL_of hms⟩, fun D2 nD2 => ?_⟩
      have mlen := len_moves ok lay
      refine lcB_L (K := K) (bs := movesAt G r.1) (enc := encM) (keep := fun _ => true) (F := fun m => .bool (decide (r.2.2 = m))) (by omega) (sqL_of hms) nD2 dms (fun b _ _ => rfl) (fun y m H7 s7 hy hm R S hR hS => ?_) (fun H7 ys s7 eD2 hys => ?_)
      · refine ⟨wipe_one _ 7 _, ?_⟩
        dsimp only [tYes]
        rw [if_pos rfl]
        refine ⟨_, rfl, _, rfl, mv, y, encM r.2.2, encM m, rfl, dp_same ((s5.trans s6).trans s7) dm, hy, pair_M _ _, fun H8 s8 => ?_⟩
        rw [like_M]
        exact hR _ _ s8 rfl (.bl _)
      rw [filter_ttB] at hys
      have hb := bools_ofB hys
      subst hb
      refine ⟨D2, _, rfl, sqL_of eD2, _, rfl, ?_⟩
      have eany : (((movesAt G r.1).map fun m => decide (r.2.2 = m)).any id) = decide (r.2.2 ∈ movesAt G r.1) := by
        rw [Bool.eq_iff_iff, List.any_eq_true, decide_eq_true_iff]
        constructor
        · rintro ⟨b, hb, e⟩
          obtain ⟨m, hm, rfl⟩ := List.mem_map.mp hb
          rw [of_decide_eq_true e]
          exact hm
        · exact fun h => ⟨_, List.mem_map.mpr ⟨_, h, rfl⟩, decide_eq_true rfl⟩
      rw [eany]
      have s47 := (s45.trans s6).trans s7
      by_cases hmv : r.2.2 ∈ movesAt G r.1
      case neg =>
        rw [decide_eq_false hmv]
        exact iteT (hqn _ s47 fun t => hmv (t.row r hmem).m)
      rw [decide_eq_true hmv]
      refine iteF ?_
      refine ⟨_, rfl, _, rfl, by rw [sizeLine_eq]; show 2 ≤ 16777216; omega, fun q nq => ?_⟩
      have s8 := same_upd (o := .tup [.int r.2.1, mv]) nq
      have s57 := (s5.trans s6).trans s7
      have hn8 := (hn.same s57).same s8
      have hlk := rk.len
      have hlt : (rows.take i).length ≤ rows.length := List.length_take_le' _ _
      refine ⟨_, rfl, _, rfl, d, kvs, keyL r.1, rfl, hn8, by rw [sizeLine_eq]; omega, keyD_L (dp_same (s57.trans s8) dl), fun H9 b9 hn9 => ?_⟩
      have hfr : (valV kvs (keyL r.1)).isSome = false := by rw [isSome_lay rk.keys]; exact decide_eq_false hin
      rw [putK_fresh _ hfr] at hn9
      have kp9 : Kp [d] (upd H7 q (.tup [.int r.2.1, mv])) H9 := but_kp b9 (by simp)
      have ex9 : ∀ x ∈ [d], NoTup x (upd H7 q (.tup [.int r.2.1, mv])) := fun x hx => by
        rw [List.mem_singleton] at hx
        subst hx
        exact hn_noTup hn8
      have dval : Dp K (upd H7 q (.tup [.int r.2.1, mv])) (.ref q) (encV r) := .tup (sqT_of upd_same) (.cons (.int _) (.cons (dp_same (s57.trans s8) dm) .nil))
      refine ⟨_, _, _, _, _, _, rfl, fun b o e => b9 _ _ (ne_of_none e ndH) ((s47.trans s8) _ _ e), hn9, ?_, ?_, ?_⟩
      · rw [tk]
        exact (((rk.same s57).same s8).kp kp9 ex9).snoc rfl (dp_kp kp9 ex9 (tupOnly_encV r) dval)
      · intro q hq'
        rw [tk] at hq'
        rcases List.mem_append.mp hq' with h | h
        · exact tab.row q h
        · rw [List.mem_singleton] at h
          subst h
          exact ⟨lay, by omega, hmv⟩
      · rw [tk, List.map_append]
        exact List.nodup_append.mpr ⟨tab.nd, by simp, fun x hx y hy e => by rw [List.map_singleton, List.mem_singleton] at hy; subst hy; subst e; exact hin hx⟩
    · obtain ⟨x3, x4, x5, x6, x7, kvs, rfl, s4, hn, rk, tab⟩ := q
      rw [hxl, List.take_length] at rk tab
      exact ⟨_, rfl, hqs _ d kvs s4 hn rk ndH tab⟩
def spIsForced (w : World) (K : PySem.W.Frag) : Sp := fun vs H Q _ => ∃ (g rv : V) (G : Game) (rows : List RRow), vs = [g, rv] ∧ Dp K H g (encG G) ∧ OkG G ∧ Dp K H rv (.tuple (rows.map encF)) ∧ rows.length ≤ 100000 ∧ (∀ r ∈ rows, r.1.length ≤ 1000) ∧
  ∀ H' b, Same H H' → (b = true ↔ ForcedOk G rows) → Q (.bl b) H'
theorem ok_isForced (F : FnP K "is_forced" sIsForced f fd) (T : Bl mg)
    (G1 : FnOk P w K mg base CX0 4 g1 gd1 ["game", "value"] (spRanksIn w K)) (k1 : PySem.W.keepIn K (.ref g1) = true) (b1 : Binds K gd1 ["game", "value"] []) (m1 : mg "ranks_in" = some (.ref g1))
    (G2 : FnOk P w K mg base CX0 2 g2 gd2 ["game", "layout", "move"] (spLed K)) (k2 : PySem.W.keepIn K (.ref g2) = true) (b2 : Binds K gd2 ["game", "layout", "move"] []) (m2 : mg "led_to" = some (.ref g2)) :
    FnOk P w K mg base CX0 5 f fd ["game", "rows"] (spIsForced w K) := by
  refine F.ok scIsForced (fun vs H Q E h => ?_) (fun cdv A outer s H vs Q E hr h => ?_)
  · obtain ⟨g, rv, G, rows, rfl, _⟩ := h
    rfl
  · obtain ⟨g, rv, G, rows, rfl, hg, ok, hrv, hlen, hlay, hq⟩ := h
    have r2 : Room 2 (A.deeper (envOfC _ _ s.heap.objs.size f cdv)) := hr.mono (by omega)
    refine ⟨_, PSs.nox (pss_cons (ps_set (i := 2) scIsForced.nd rfl (Or.inl rfl) (pe_call G1 hr (by rfl) m1 k1 b1 .nil pass0 (pa_cons (pv 0) (pa_cons (pv 1) pa_nil))))
      (pss_cons (ps_if (PW.pt (pw_or (pt_cmpR op_isN (pv 2) pe_non (nomark _)) (pw_or1 (pt_cmp (pc_nnotin hr.units (pe_tup pa_nil) (pv 2)) (by with_unfolding_all rfl))))) (pss_one (ps_ret pe_bl)) pss_nil)
      (pss_cons (ps_lock (ps_for PassesOwn.never rfl (pi_itemsN (pv 2)) (pg_tup (t := gCons (gName 3) (gCons (gTup K 2 (gCons (gName 4) (gCons (gName 5) gNil))) gNil)) (n := 2) rfl (pgs_cons (pg_name (i := 3) scIsForced.nd rfl (Or.inl rfl)) (pgs_cons (pg_tup rfl (pgs_cons (pg_name (i := 4) scIsForced.nd rfl (Or.inl rfl)) (pgs_cons (pg_name (i := 5) scIsForced.nd rfl (Or.inl rfl)) pgs_nil))) pgs_nil)))
        (pss_one (ps_for PassesOwn.never rfl (pi_list (pe_call G2 r2 (by rfl) m2 k2 b2 .nil pass0 (pa_cons (pv 0) (pa_cons (pv 3) (pa_cons (pv 5) pa_nil))))) (pg_name (i := 6) scIsForced.nd rfl (Or.inl rfl))
          (pss_one (ps_if (PW.pt (pw_or (pt_cmp (pc_nnotin hr.units (pv 6) (pv 2)) (by with_unfolding_all rfl)) (pw_or1 (pt_cmpR op_ge (pe_ix ix_tup (pe_nget hr.units (pv 2) (pv 6) (fun _ _ => rfl)) pe_int (fun _ _ => rfl)) (pv 4) (nomark _))))) (pss_one (ps_ret pe_bl)) pss_nil))))))
      (pss_one (ps_ret pe_bl)))))  , ?_⟩
    have sp : ∀ {H' : Hp} {b : Bool}, Same H H' → (b = true ↔ ForcedOk G rows) → Q (.bl b) H' := fun s h => hq _ _ s h
    refine ⟨_, rfl, _, rfl, g, rv, G, rows, rfl, hg, ok, hrv, hlen, hlay, fun H1 s1 hno => ?_, fun H1 d kvs s1 hn rk nd tab => ?_⟩
    · exact ⟨_, rfl, rfl, _, rfl, iteT (iteT (sp s1 ⟨fun h => (nomatch h), fun h => absurd h.tab hno⟩))⟩
    refine ⟨_, rfl, rfl, _, rfl, iteF ?_⟩
    refine ⟨by rw [sizeLine_eq]; show 0 ≤ 16777216; omega, fun e0 ne0 => ?_⟩
    have s2 := same_upd (o := .tup []) ne0
    refine ⟨_, rfl, d, kvs, keyL [], rfl, (hn.same s2).rd, keyD_L (.tup (sqT_of upd_same) .nil), _, rfl, ?_⟩
    rw [isSome_lay rk.keys]
    by_cases hnil : [] ∈ rows.map (·.1)
    case neg =>
      rw [decide_eq_false hnil]
      exact iteT (sp (s1.trans s2) ⟨fun h => (nomatch h), fun h => absurd h.nil hnil⟩)
    rw [decide_eq_true hnil]
    refine iteF ?_
    have hn2 := hn.same s2
    have rk2 := rk.same s2
    have s12 := s1.trans s2
    generalize upd H1 e0 (.tup []) = H2 at *
    obtain ⟨xn, en, nk, mk⟩ := id hn2
    rw [← mk] at rk2
    obtain ⟨hxl, hxr⟩ := rows_RKV nk rk2
    rw [mk] at rk2
    refine ⟨d, dN w d xn, en, trivial, fun od => ?_⟩
    have kpl : Kp [d] H2 (upd H2 d (.frz od (dN w d xn))) := kp_upd (by simp)
    have exl : ∀ x ∈ [d], NoTup x H2 := fun x hx => by
      rw [List.mem_singleton] at hx
      subst hx
      exact hn_noTup hn2
    have hnl : RN w K (upd H2 d (.frz od (dN w d xn))) d kvs := ⟨xn, .inr ⟨od, upd_same⟩, fun y hy => ⟨dp_kp kpl exl (tupOnly_data _) (nk y hy).1, (nk y hy).2⟩, mk⟩
    have rkl := rk2.kp kpl exl
    have hdl : upd H2 d (.frz od (dN w d xn)) d = some (.frz od (dN w d xn)) := upd_same
    have dpl : ∀ {x : PyData} {v : V}, tupOnly x = true → Dp K H2 v x → Dp K (upd H2 d (.frz od (dN w d xn))) v x := fun t h => dp_kp kpl exl t h
    have back : ∀ {H' : Hp}, Same (upd H2 d (.frz od (dN w d xn))) H' → Same H (upd H' d (dN w d xn)) := fun s b o e => by
      have hb : b ≠ d := ne_of_none e nd
      rw [upd_ne hb]
      refine s _ _ ?_
      rw [upd_ne hb]
      exact s12 _ _ e
    generalize hHl : upd H2 d (.frz od (dN w d xn)) = Hl at *
    have hgl : Dp K Hl g (encG G) := dpl (by simp [encG, tupOnly, tupAll]; exact tupAll_map (fun _ => rfl) _) (dp_same s12 hg)
    refine ⟨_, rfl, d, od, xn, rfl, hdl, ?_⟩
    refine for_it walk_itemsN (fun i σ H' => ∃ x3 x4 x5 x6, σ = [some g, some rv, some (.ref d), x3, x4, x5, x6] ∧ Same Hl H' ∧ ∀ r ∈ rows.take i, ∀ o ∈ ledTo G r.1 r.2.2, ∃ q ∈ rows, q.1 = o ∧ q.2.1 < r.2.1) ?_ (fun i σ H' hi p => ?_) (fun i x σ H' H'' hi p y => ?_) (fun σ H' p => ?_)
    · exact ⟨_, _, _, _, rfl, Same.refl _, fun r hr => by simp at hr⟩
    · obtain ⟨_, _, _, _, _, s3, _⟩ := p
      exact s3 _ _ hdl
    · obtain ⟨x3, x4, x5, x6, rfl, s3, hall⟩ := p
      obtain ⟨T1, rr, hrr, rfl, hT1, rfl⟩ := y
      obtain ⟨r, hr, dl, dv⟩ := hxr i rr hrr
      have hmem : r ∈ rows := List.mem_of_getElem? hr
      have frow := tab.row r hmem
      have sT := same_upd (o := .tup [.ref rr.2.1, rr.2.2]) hT1
      have s3T := s3.trans sT
      obtain ⟨vp, vq, ev, sqv, dm⟩ := dp_encV (dp_same s3T (dpl (tupOnly_encV r) dv))
      have dl' := dp_same s3T (dpl (tupOnly_encL r.1) dl)
      refine ⟨T1, _, rfl, sqT_of upd_same, rfl, _, _, rfl, _, _, rfl, vp, _, ev, sqv, rfl, _, _, rfl, _, _, rfl, rfl, rfl, ?_⟩
      refine ⟨_, rfl, _, rfl, _, rfl, g, .ref rr.2.1, .ref vq, G, r.1, r.2.2, rfl, dp_same s3T hgl, ok, dl', frow.lay, dm, frow.m, fun H5 a os s5 hos na dos => ?_⟩
      refine ⟨a, rfl, ⟨_, sqL_of hos⟩, ?_⟩
      have hol := dpAll_len dos
      rw [List.length_map] at hol
      have s35 := s3T.trans s5
      refine for_list (K := K) (xs := os) (fun t σ H' => ∃ x6, σ = [some g, some rv, some (.ref d), some (.ref rr.2.1), some (.int r.2.1), some (.ref vq), x6] ∧ Same H5 H' ∧ ∀ o ∈ (ledTo G r.1 r.2.2).take t, ∃ q ∈ rows, q.1 = o ∧ q.2.1 < r.2.1) ?_ (fun t σ H' ht p => ?_) (fun t z σ H6 hz p => ?_) (fun σ H' p => ?_)
      · exact ⟨_, rfl, Same.refl _, fun o ho => by simp at ho⟩
      · obtain ⟨_, _, s6, _⟩ := p
        exact sqL_of (s6 _ _ hos)
      · obtain ⟨z6, rfl, s6, hin⟩ := p
        obtain ⟨dd, hd, hzd⟩ := dpAll_get dos hz
        rw [List.getElem?_map] at hd
        cases hO : (ledTo G r.1 r.2.2)[t]? with
        | none => rw [hO] at hd; cases hd
        | some o =>
        rw [hO] at hd
        cases hd
        have hom : o ∈ ledTo G r.1 r.2.2 := List.mem_of_getElem? hO
        have hz6 := dp_same s6 hzd
        have s36 := s35.trans s6
        have rn6 : RN w K H6 d kvs := by
          obtain ⟨ys, e, n, m⟩ := hnl
          refine ⟨ys, ?_, n.same s36, m⟩
          rcases e with e | ⟨o', e⟩
          · exact .inl (s36 _ _ e)
          · exact .inr ⟨o', s36 _ _ e⟩
        refine ⟨_, rfl, _, rfl, d, kvs, keyL o, rfl, rn6, keyD_L hz6, _, rfl, ?_⟩
        rw [isSome_lay rk.keys]
        have out : ∀ {H' : Hp}, Same H6 H' → H' d = some (.frz od (dN w d xn)) ∧ ((¬ ∃ q ∈ rows, q.1 = o ∧ q.2.1 < r.2.1) → Q (.bl false) (upd H' d (dN w d xn))) := fun s => ⟨(s36.trans s) _ _ hdl, fun h => sp (back (s36.trans s)) ⟨fun h => (nomatch h), fun f => absurd (f.all r hmem o hom) h⟩⟩
        by_cases ho : o ∈ rows.map (·.1)
        case neg =>
          rw [decide_eq_false ho]
          obtain ⟨h1, h2⟩ := out (Same.refl H6)
          exact iteT ⟨h1, h2 fun ⟨q, hq, e, _⟩ => ho (List.mem_map.mpr ⟨q, hq, e⟩)⟩
        rw [decide_eq_true ho]
        refine iteF ?_
        obtain ⟨q, hq, eq⟩ := List.mem_map.mp ho
        subst eq
        obtain ⟨v, hv, dvv⟩ := (rkl.same s36).get tab.nd hq
        obtain ⟨wp, wq, rfl, sqw, _⟩ := dp_encV dvv
        refine ⟨_, rfl, _, rfl, d, kvs, keyL q.1, _, rfl, rn6, keyD_L hz6, hv, wp, _, 0, .int q.2.1, rfl, rfl, sqw, rfl, _, rfl, _, _, rfl, rfl, _, rfl, ?_⟩
        by_cases hge : q.2.1 ≥ r.2.1
        · rw [decide_eq_true hge]
          obtain ⟨h1, h2⟩ := out (Same.refl H6)
          refine iteT ⟨h1, h2 fun ⟨q', hq', e, hlt⟩ => ?_⟩
          have := uniq_row tab.nd hq' hq e
          subst this
          omega
        · rw [decide_eq_false hge]
          refine iteF ⟨_, rfl, s6, fun o' ho' => ?_⟩
          rcases (take_succ_mem hO).mp ho' with h | rfl
          · exact hin o' h
          · exact ⟨q, hq, rfl, by omega⟩
      · obtain ⟨z6, rfl, s6, hin⟩ := p
        rw [hol, List.take_length] at hin
        refine ⟨_, _, _, _, rfl, s35.trans s6, fun q hq' o ho => ?_⟩
        rcases (take_succ_mem hr).mp hq' with h | rfl
        · exact hall q h o ho
        · exact hin o ho
    · obtain ⟨x3, x4, x5, x6, rfl, s3, hall⟩ := p
      rw [hxl, List.take_length] at hall
      exact ⟨s3 _ _ hdl, sp (back s3) ⟨fun _ => ⟨tab, hnil, hall⟩, fun _ => rfl⟩⟩
end
end K23
set_option maxHeartbeats 1000000
namespace K23
open PySem PySem.Spec PyProof.Rows L2 KSup NdefX StX KNest
structure OwnC (K : PySem.W.Frag) (C : Addr) : Prop where
  cl : Cls K C
  ha : PySem.W.findIn K (.ref C) "__class__" = some (some (.builtin "object.__class__"))
  hn : PySem.W.specialIn K (.builtin "object.__class__") "__get__" = some (some (.builtin "getset_descriptor.__get__"))
  htk : PySem.W.takesIn K (.builtin "object.__class__") = some true
  hm : PySem.W.mroIn K C (.type "object") = some true
theorem OwnC.ty {K : PySem.W.Frag} {C : Addr} (o : OwnC K C) {H : Hp} {a dx : Addr} {fs : List (Str × V)} (h : H a = some (.ins C dx fs)) : TyX K H (.ref a) (.ref C) := .base (.ins h o.cl o.ha o.hn o.htk o.hm)
structure KitS (K : PySem.W.Frag) (CS CF : Addr) : Prop where
  oS : OwnC K CS
  oF : OwnC K CF
  pS : PapR K CS
  pF : PapR K CF
  ss : PySem.W.kitOne K (.ref CS) (.ref CS) = some true
  fs : PySem.W.kitOne K (.ref CF) (.ref CS) = some false
  ff : PySem.W.kitOne K (.ref CF) (.ref CF) = some true
section
variable {P : Program} {w : World} {K : PySem.W.Frag} {mg : Str → Option Value} {base : Heap} {f g1 g2 g3 CS CF : Addr} {fd gd1 gd2 gd3 : FuncData}
def spShows (w : World) (K : PySem.W.Frag) (CS CF : Addr) : Sp := fun vs H Q _ => ∃ (c : Int) (a : Addr) (ns : List Int) (m v : Int) (x : Addr), vs = [.int c, .ref a, .int m, .int v, .ref x] ∧ SqL K H a (ns.map V.int) ∧ Fr ns m v ∧ (1 ≤ c ∧ c ≤ 12) ∧ Small (mkG c ns m v) ∧
  ((∃ rows : List SRow, IsR K H CS x "served" (.tuple (rows.map encS)) ∧ rows.length ≤ 100000 ∧ (∀ r ∈ rows, r.1.length ≤ 1000) ∧ ∀ H' b, Same H H' → (b = true ↔ ServedOk (mkG c ns m v) rows) → Q (.bl b) H') ∨
   (∃ rows : List RRow, IsR K H CF x "forced" (.tuple (rows.map encF)) ∧ rows.length ≤ 100000 ∧ (∀ r ∈ rows, r.1.length ≤ 1000) ∧ ∀ H' b, Same H H' → (b = true ↔ ForcedOk (mkG c ns m v) rows) → Q (.bl b) H'))
theorem ok_shows (F : FnP K "shows_seats" sShows f fd) (T : Bl mg) (kb : KitS K CS CF) (mS : mg "Served" = some (.ref CS)) (mF : mg "Forced" = some (.ref CF))
    (G1 : FnOk P w K mg base CX0 4 g1 gd1 ["cells", "sizes", "many", "live"] (spNeedGame K)) (k1 : PySem.W.keepIn K (.ref g1) = true) (b1 : Binds K gd1 ["cells", "sizes", "many", "live"] []) (m1 : mg "need_game" = some (.ref g1))
    (G2 : FnOk P w K mg base CX0 5 g2 gd2 ["game", "rows"] (spIsServed w K)) (k2 : PySem.W.keepIn K (.ref g2) = true) (b2 : Binds K gd2 ["game", "rows"] []) (m2 : mg "is_served" = some (.ref g2))
    (G3 : FnOk P w K mg base CX0 5 g3 gd3 ["game", "rows"] (spIsForced w K)) (k3 : PySem.W.keepIn K (.ref g3) = true) (b3 : Binds K gd3 ["game", "rows"] []) (m3 : mg "is_forced" = some (.ref g3)) :
    FnOk P w K mg base CX0 6 f fd ["cells", "sizes", "many", "live", "value"] (spShows w K CS CF) := by
  refine F.ok scShows (fun vs H Q E h => ?_) (fun cdv A outer s H vs Q E hr h => ?_)
  · obtain ⟨c, a, ns, m, v, x, rfl, _⟩ := h
    rfl
  · obtain ⟨c, a, ns, m, v, x, rfl, hs, fr, hc, small, hv⟩ := h
    refine ⟨_, PSs.nox (pss_cons (ps_set (i := 5) scShows.nd rfl (Or.inl rfl) (pe_call G1 (hr.mono (by omega)) (by rfl) m1 k1 b1 .nil pass0 (pa_cons (pv 0) (pa_cons (pv 1) (pa_cons (pv 2) (pa_cons (pv 3) pa_nil))))))
      (pss_cons (ps_if (pt_val (pe_callB call_isi (by rfl) T.isi (by decide +kernel) (pa_cons (pv 4) (pa_cons (pe_glob (v := .ref CS) (by rfl) mS rfl) pa_nil)))) (pss_one (ps_ret (pe_call G2 hr (by rfl) m2 k2 b2 .nil pass0 (pa_cons (pv 5) (pa_cons (pe_fld (pv 4) rfl) pa_nil))))) pss_nil)
      (pss_one (ps_ret (pe_and (pe_callB call_isi (by rfl) T.isi (by decide +kernel) (pa_cons (pv 4) (pa_cons (pe_glob (v := .ref CF) (by rfl) mF rfl) pa_nil))) (pe_one (pe_call G3 hr (by rfl) m3 k3 b3 .nil pass0 (pa_cons (pv 5) (pa_cons (pe_fld (pv 4) rfl) pa_nil))))))))), ?_⟩
    refine ⟨_, rfl, _, rfl, _, rfl, _, rfl, c, a, ns, m, v, rfl, hs, fr, hc, fun H1 g s1 hg => ?_⟩
    rcases hv with ⟨rows, hx, hl, hll, hq⟩ | ⟨rows, hx, hl, hll, hq⟩
    · obtain ⟨dx, v1, r1, e1, d1⟩ := hx
      refine ⟨_, rfl, _, _, _, _, _, rfl, .own _, kb.oS.ty (s1 _ _ e1), kb.ss, _, rfl, iteT ?_⟩
      refine ⟨_, rfl, _, rfl, x, CS, dx, _, _, rfl, s1 _ _ e1, kb.pS.cl, kb.pS.r, rfl, g, r1, mkG c ns m v, rows, rfl, hg, fr.ok hc, small, dp_same s1 d1, hl, hll, fun H' b s2 h => hq H' b (s1.trans s2) h⟩
    · obtain ⟨dx, v1, r1, e1, d1⟩ := hx
      refine ⟨_, rfl, _, _, _, _, _, rfl, .own _, kb.oF.ty (s1 _ _ e1), kb.fs, _, rfl, iteF ?_⟩
      refine ⟨_, rfl, _, _, _, _, _, rfl, .own _, kb.oF.ty (s1 _ _ e1), kb.ff, _, rfl, iteT ?_⟩
      refine ⟨_, rfl, _, rfl, x, CF, dx, _, _, rfl, s1 _ _ e1, kb.pF.cl, kb.pF.r, rfl, g, r1, mkG c ns m v, rows, rfl, hg, fr.ok hc, dp_same s1 d1, hl, hll, fun H' b s2 h => hq H' b (s1.trans s2) h⟩
end
end K23
set_option maxHeartbeats 1000000
namespace K23
open PySem PySem.Spec PyProof.Rows L2 KSup NdefX StX
section
variable {P : Program} {w : World} {K : PySem.W.Frag} {mg : Str → Option Value} {base : Heap} {f g : Addr} {fd gd : FuncData}
/-- the pen at p, at most N draws old -/
def PenAt (H : Hp) (p q : Addr) (N : Int) : Prop := ∃ (ns : List Int) (at_ rest : Int), H p = some (.lst [.ref q, .int at_, .int rest]) ∧ H q = some (.lst (ns.map V.int)) ∧ p ≠ q ∧ ns.length ≤ 63 ∧ 0 ≤ at_ ∧ at_ ≤ N ∧ 0 ≤ rest
def spDraw (K : PySem.W.Frag) : Sp := fun vs H Q _ => ∃ (p q : Addr) (many N : Int), vs = [.ref p, .int many] ∧ PenAt H p q N ∧ N ≤ 1000 ∧ 1 ≤ many ∧ many ≤ 1000 ∧ ∀ H' r, But p H H' → PenAt H' p q (N + 1) → 0 ≤ r → r < many → Q (.int r) H'
theorem fdiv_nn {a b : Int} (ha : 0 ≤ a) (hb : 0 < b) : 0 ≤ a.fdiv b := by
  rw [Int.fdiv_eq_ediv_of_nonneg _ (Int.le_of_lt hb)]
  exact Int.ediv_nonneg ha (Int.le_of_lt hb)
theorem mod_in {a b : Int} (hb : 0 < b) : 0 ≤ a % b ∧ a % b < b := ⟨Int.emod_nonneg _ (by omega), Int.emod_lt_of_pos _ hb⟩
theorem mul_in {a b m n : Int} (h1 : 0 ≤ a) (h2 : a ≤ m) (h3 : 0 ≤ b) (h4 : b ≤ n) : 0 ≤ a * b ∧ a * b ≤ m * n := ⟨Int.mul_nonneg h1 h3, Int.mul_le_mul h2 h4 h3 (by omega)⟩
theorem shaped_ints (ns : List Int) : SeqAt.shaped (.list (ns.map PyData.int)) = true := by
  have h1 : ∀ l : List Int, PyData.canLayAll0 (l.map PyData.int) = true := fun l => by
    induction l with
    | nil => simp [PyData.canLayAll0]
    | cons x l ih => simp [PyData.canLayAll0, PyData.canLay0, ih]
  have h2 : ∀ l : List Int, PyData.depthAll (l.map PyData.int) = 0 := fun l => by
    induction l with
    | nil => simp [PyData.depthAll]
    | cons x l ih => simp [PyData.depthAll, PyData.depth, ih]
  unfold SeqAt.shaped
  rw [PyData.canLay0, h1, Bool.true_and, decide_eq_true_iff, PyData.depth, h2]
  omega
theorem iteC {c : Bool} {A B : Prop} (h1 : c = true → A) (h2 : c = false → B) : if c = true then A else B := by
  cases c
  · exact h2 rfl
  · exact h1 rfl
theorem atI_int {ns : List Int} {i : Int} (h0 : 0 ≤ i) (h1 : i < (ns.length : Int)) : ∃ c, atI (ns.map V.int) i = some (.int c) := by
  unfold atI ixN
  rw [if_pos h0, List.length_map, if_pos h1]
  have h2 : i.toNat < ns.length := by omega
  refine ⟨ns[i.toNat], ?_⟩
  show (ns.map V.int)[i.toNat]? = _
  rw [List.getElem?_map, List.getElem?_eq_getElem h2]
  rfl
theorem base5 (x : Int) {a : Int} (h0 : 0 ≤ a) (h1 : a ≤ 1000) : (x % 2147483549 + 61543 * a + 2018).natAbs < 2 ^ 64 := by
  have := mod_in (a := x) (b := 2147483549) (by decide)
  omega
theorem mulL (x : Int) : -(2 ^ 64) < x % 2147483563 ∧ x % 2147483563 < 2 ^ 64 := by
  have := mod_in (a := x) (b := 2147483563) (by decide)
  omega
theorem mulA {a : Int} (h0 : 0 ≤ a) (h1 : a ≤ 1000) : -(2 ^ 64) < 20183 * a ∧ 20183 * a < 2 ^ 64 := by omega
theorem base3 (x : Int) {a : Int} (h0 : 0 ≤ a) (h1 : a ≤ 1000) : (x % 2147483563 * (2 * a + 2018) + 20183 * a * a + 61543).natAbs < 2 ^ 64 := by
  have h := mod_in (a := x) (b := 2147483563) (by decide)
  have h2 := mul_in h.1 (Int.le_of_lt h.2) (show 0 ≤ 2 * a + 2018 by omega) (show 2 * a + 2018 ≤ 5000 by omega)
  have h3 := mul_in (show 0 ≤ 20183 * a by omega) (show 20183 * a ≤ 20183000 by omega) h0 h1
  omega
theorem ok_draw (F : FnP K "_law_draw" sDraw f fd) (T : Bl mg) : FnOk P w K mg base CX0 1 f fd ["pen", "many"] (spDraw K) := by
  refine F.ok scDraw (fun vs H Q E h => ?_) (fun cdv A outer s H vs Q E hr h => ?_)
  · obtain ⟨p, q, many, N, rfl, _⟩ := h
    rfl
  · obtain ⟨p, q, many, N, rfl, hpen, hN, hm1, hm2, hq⟩ := h
    refine ⟨_, PSs.nox (pss_cons (ps_if (pt_cmpR op_gt (pe_ix ix_list (pv 0) pe_int (fun _ _ => rfl)) pe_int (nomark _))
        (pss_cons (ps_set (i := 2) scDraw.nd rfl (Or.inl rfl) (pe_callTy call_int1 (by rfl) T.int (by decide +kernel) (pa_cons (pe_ix ix_list (pv 0) pe_int (fun _ _ => rfl)) pa_nil)))
        (pss_cons (ps_asg (pe_op op_fdivN (pv 2) (pv 1)) (pg_sub (pv 0) pe_int set_list))
        (pss_one (ps_ret (pe_op op_mod (pe_callTy call_int1 (by rfl) T.int (by decide +kernel) (pa_cons (pv 2) pa_nil)) (pv 1)))))) pss_nil)
      (pss_cons (ps_set (i := 3) scDraw.nd rfl (Or.inl rfl) (pe_ix ix_list (pv 0) pe_int (fun _ _ => rfl)))
      (pss_cons (ps_asg (pe_op op_add (pv 3) pe_int) (pg_sub (pv 0) pe_int set_list))
      (pss_cons (ps_set (i := 4) scDraw.nd rfl (Or.inl rfl) (pe_op op_add (pe_op op_mul pe_int (pv 3)) pe_int))
      (pss_cons (ps_if (pt_cmpR (op_neD hr.units) (pe_ix ix_list (pv 0) pe_int (fun _ _ => rfl)) (pe_lst pa_nil) (nomark _))
        (pss_one (ps_set (i := 4) scDraw.nd rfl (Or.inl rfl) (pe_ix ix_list (pe_ix ix_list (pv 0) pe_int (fun _ _ => rfl)) (pe_op op_mod (pe_callTy call_int1 (by rfl) T.int (by decide +kernel) (pa_cons (pv 3) pa_nil)) (pe_callB call_len_seq (by rfl) T.len PySem.boot_len (pa_cons (pe_ix ix_list (pv 0) pe_int (fun _ _ => rfl)) pa_nil))) (fun _ _ => rfl)))) pss_nil)
      (pss_cons (ps_if (PW.pt (pw_and (pt_cmpR op_lt (pv 3) (pe_callB call_len_seq (by rfl) T.len PySem.boot_len (pa_cons (pe_ix ix_list (pv 0) pe_int (fun _ _ => rfl)) pa_nil)) (nomark _)) (pw_and1 (pt_cmpR op_ge (pe_callB call_abs (by rfl) T.abs (by decide +kernel) (pa_cons (pv 4) pa_nil)) (pe_op op_pow pe_int pe_int) (nomark _)))))
        (pss_cons (ps_set (i := 2) scDraw.nd rfl (Or.inl rfl) (pe_op op_add (pe_op op_mul pe_int (pe_op op_sub (pe_callB call_abs (by rfl) T.abs (by decide +kernel) (pa_cons (pv 4) pa_nil)) (pe_op op_pow pe_int pe_int))) (pe_callTy call_int1 (by rfl) T.int (by decide +kernel) (pa_cons (pe_cmpR op_lt (pv 4) pe_int (nomark _)) pa_nil))))
        (pss_cons (ps_asg (pe_op op_fdivN (pe_callTy call_int1 (by rfl) T.int (by decide +kernel) (pa_cons (pv 2) pa_nil)) (pv 1)) (pg_sub (pv 0) pe_int set_list))
        (pss_one (ps_ret (pe_op op_mod (pe_callTy call_int1 (by rfl) T.int (by decide +kernel) (pa_cons (pv 2) pa_nil)) (pv 1)))))) pss_nil)
      (pss_cons (ps_set (i := 5) scDraw.nd rfl (Or.inl rfl) (pe_op op_mod (pe_callTy call_int1 (by rfl) T.int (by decide +kernel) (pa_cons (pe_op op_pow (pe_op op_add (pe_op op_add (pe_op op_mod (pe_callTy call_int1 (by rfl) T.int (by decide +kernel) (pa_cons (pv 4) pa_nil)) pe_int) (pe_op op_mul pe_int (pv 3))) pe_int) pe_int) pa_nil)) pe_int))
      (pss_cons (ps_set (i := 5) scDraw.nd rfl (Or.inl rfl) (pe_op op_mod (pe_callTy call_int1 (by rfl) T.int (by decide +kernel) (pa_cons (pe_op op_pow (pe_op op_add (pe_op op_add (pe_op op_mul (pv 5) (pe_op op_add (pe_op op_mul pe_int (pv 3)) pe_int)) (pe_op op_mul (pe_op op_mul pe_int (pv 3)) (pv 3))) pe_int) pe_int) pa_nil)) pe_int))
      (pss_one (ps_ret (pe_op op_mod (pe_callTy call_int1 (by rfl) T.int (by decide +kernel) (pa_cons (pe_op op_fdivN (pv 5) pe_int) pa_nil)) (pv 1)))))))))))), ?_⟩
    obtain ⟨ns, at_, rest, hp, hqq, hpq, hns, ha0, haN, hr0⟩ := hpen
    have hpL : SqL K H p [.ref q, .int at_, .int rest] := .inl (.inl hp)
    refine ⟨_, rfl, p, _, 2, .int rest, rfl, rfl, hpL, rfl, _, _, rfl, rfl, _, rfl, ?_⟩
    have hmod : ∀ x : Int, 0 ≤ x % many ∧ x % many < many := fun x => mod_in (by omega)
    by_cases hrest : 0 < rest
    · rw [decide_eq_true hrest]
      refine iteT ?_
      refine ⟨_, rfl, p, _, 2, .int rest, rfl, rfl, hpL, rfl, .inl ⟨rest, rfl, ?_⟩⟩
      refine ⟨_, rfl, _, rfl, rest, many, rfl, rfl, ⟨by omega, by omega⟩, _, rfl, p, _, 2, 2, rfl, rfl, hp, rfl, ?_⟩
      refine ⟨_, rfl, .inl ⟨rest, rfl, _, rfl, rest, many, rfl, rfl, by omega, ?_⟩⟩
      exact hq _ _ but_upd ⟨ns, at_, rest.fdiv many, upd_same, by rw [upd_ne (Ne.symm hpq)]; exact hqq, hpq, hns, ha0, by omega, fdiv_nn hr0 (by omega)⟩ (hmod _).1 (hmod _).2
    rw [decide_eq_false hrest]
    refine iteF ?_
    refine ⟨_, rfl, p, _, 1, .int at_, rfl, rfl, hpL, rfl, ?_⟩
    refine ⟨_, rfl, _, _, rfl, rfl, _, rfl, p, _, 1, 1, rfl, rfl, hp, rfl, ?_⟩
    have b1 : But p H (upd H p (.lst ([V.ref q, .int at_, .int rest].set 1 (.int (at_ + 1))))) := but_upd
    have hp1 : upd H p (.lst ([V.ref q, .int at_, .int rest].set 1 (.int (at_ + 1)))) p = some (.lst [.ref q, .int (at_ + 1), .int rest]) := upd_same
    have hq1 : upd H p (.lst ([V.ref q, .int at_, .int rest].set 1 (.int (at_ + 1)))) q = some (.lst (ns.map V.int)) := by rw [upd_ne (Ne.symm hpq)]; exact hqq
    generalize upd H p (.lst ([V.ref q, .int at_, .int rest].set 1 (.int (at_ + 1)))) = H1 at *
    refine ⟨_, rfl, _, _, rfl, rfl, .inl ⟨by omega, by omega⟩, _, _, rfl, rfl, ?_⟩
    -- pen[0] != []
    have hpL1 : SqL K H1 p [.ref q, .int (at_ + 1), .int rest] := .inl (.inl hp1)
    refine ⟨_, rfl, p, _, 0, .ref q, rfl, rfl, hpL1, rfl, by rw [sizeLine_eq]; show 0 ≤ 16777216; omega, fun l nl => ?_⟩
    have s2 := same_upd (o := .lst []) nl
    have hl2 := upd_same (H := H1) (a := l) (o := .lst [])
    have hp2 := s2 _ _ hp1
    have hq2 := s2 _ _ hq1
    generalize upd H1 l (.lst []) = H2 at *
    have hpL2 : SqL K H2 p [.ref q, .int (at_ + 1), .int rest] := .inl (.inl hp2)
    have hqL2 : SqL K H2 q (ns.map V.int) := .inl (.inl hq2)
    have b2 : But p H H2 := b1.trans (sameBut s2)
    have eqe : PyData.eqv (.list (ns.map PyData.int)) (.list []) = decide (ns = []) := by
      cases ns <;> simp [PyData.eqv, PyData.eqvAll]
    refine ⟨.list (ns.map PyData.int), .list [], .lst hqL2 (dpAll_intsV ns), .lst (.inl (.inl hl2)) .nil, shaped_ints ns, by decide +kernel, _, rfl, ?_⟩
    rw [eqe]
    have c63 : ((ns.map V.int).length : Int) ≤ 63 := by rw [List.length_map]; omega
    by_cases hemp : ns = []
    · rw [decide_eq_true hemp]
      refine iteF ?_
      refine ⟨_, rfl, _, rfl, p, _, 0, .ref q, rfl, rfl, hpL2, rfl, q, _, rfl, .inl hqL2, _, _, rfl, rfl, _, rfl, iteC (fun _ => ?_) (fun _ => iteF ?_)⟩
      · refine ⟨_, rfl, _, rfl, 10, 18, rfl, rfl, ⟨by decide, by decide, by decide⟩, _, _, rfl, rfl, _, rfl, iteC (fun hge => ?_) (fun _ => ?_)⟩
        · refine ⟨_, rfl, _, rfl, 10, 18, rfl, rfl, ⟨by decide, by decide, by decide⟩, _, _, rfl, rfl, _, _, rfl, rfl, .inl ⟨by decide, by decide⟩, _, rfl, _, _, rfl, rfl, .inr ⟨_, rfl, _, _, rfl, rfl, ?_⟩⟩
          refine ⟨_, rfl, .inl ⟨_, rfl, _, rfl, _, many, rfl, rfl, ⟨by omega, by omega⟩, _, rfl, p, _, 2, 2, rfl, rfl, hp2, rfl, ?_⟩⟩
          refine ⟨_, rfl, .inl ⟨_, rfl, _, rfl, _, many, rfl, rfl, by omega, ?_⟩⟩
          exact hq _ _ (b2.trans but_upd) ⟨ns, at_ + 1, _, upd_same, by rw [upd_ne (Ne.symm hpq)]; exact hq2, hpq, hns, by omega, by omega, fdiv_nn (Int.add_nonneg (Int.mul_nonneg (by decide) (Int.sub_nonneg_of_le (of_decide_eq_true hge))) (by split <;> decide)) (by omega)⟩ (hmod _).1 (hmod _).2
        · refine ⟨_, rfl, .inl ⟨_, rfl, _, _, rfl, rfl, (show (0 : Int) < 2147483549 by decide), _, rfl, _, _, rfl, rfl, .inl ⟨by decide, by decide⟩, _, _, rfl, rfl, _, _, rfl, rfl, _, _, rfl, rfl, ⟨by decide, by decide, base5 _ ha0 (by omega)⟩, .inl ⟨_, rfl, _, _, rfl, rfl, (show (0 : Int) < 2147483563 by decide), ?_⟩⟩⟩
          refine ⟨_, rfl, _, rfl, _, _, rfl, rfl, .inl ⟨by decide, by decide⟩, _, _, rfl, rfl, _, _, rfl, rfl, .inl (mulL _), _, rfl, _, _, rfl, rfl, .inl ⟨by decide, by decide⟩, _, rfl, _, _, rfl, rfl, .inl (mulA ha0 (by omega)), _, _, rfl, rfl, _, _, rfl, rfl, _, _, rfl, rfl, ⟨by decide, by decide, base3 _ ha0 (by omega)⟩, .inl ⟨_, rfl, _, _, rfl, rfl, (show (0 : Int) < 2147483587 by decide), ?_⟩⟩
          refine ⟨_, rfl, _, _, rfl, rfl, ⟨by decide, by decide⟩, .inl ⟨_, rfl, _, rfl, _, many, rfl, rfl, by omega, ?_⟩⟩
          exact hq _ _ b2 ⟨ns, at_ + 1, rest, hp2, hq2, hpq, hns, by omega, by omega, hr0⟩ (hmod _).1 (hmod _).2
      · refine ⟨_, rfl, .inl ⟨_, rfl, _, _, rfl, rfl, (show (0 : Int) < 2147483549 by decide), _, rfl, _, _, rfl, rfl, .inl ⟨by decide, by decide⟩, _, _, rfl, rfl, _, _, rfl, rfl, _, _, rfl, rfl, ⟨by decide, by decide, base5 _ ha0 (by omega)⟩, .inl ⟨_, rfl, _, _, rfl, rfl, (show (0 : Int) < 2147483563 by decide), ?_⟩⟩⟩
        refine ⟨_, rfl, _, rfl, _, _, rfl, rfl, .inl ⟨by decide, by decide⟩, _, _, rfl, rfl, _, _, rfl, rfl, .inl (mulL _), _, rfl, _, _, rfl, rfl, .inl ⟨by decide, by decide⟩, _, rfl, _, _, rfl, rfl, .inl (mulA ha0 (by omega)), _, _, rfl, rfl, _, _, rfl, rfl, _, _, rfl, rfl, ⟨by decide, by decide, base3 _ ha0 (by omega)⟩, .inl ⟨_, rfl, _, _, rfl, rfl, (show (0 : Int) < 2147483587 by decide), ?_⟩⟩
        refine ⟨_, rfl, _, _, rfl, rfl, ⟨by decide, by decide⟩, .inl ⟨_, rfl, _, rfl, _, many, rfl, rfl, by omega, ?_⟩⟩
        exact hq _ _ b2 ⟨ns, at_ + 1, rest, hp2, hq2, hpq, hns, by omega, by omega, hr0⟩ (hmod _).1 (hmod _).2
    · rw [decide_eq_false hemp]
      have hpos : 0 < ((ns.map V.int).length : Int) := by
        rw [List.length_map]
        have := List.length_pos_iff.mpr hemp
        omega
      obtain ⟨cell, hcell⟩ := atI_int (ns := ns) (i := at_ % ((ns.map V.int).length : Int)) (mod_in hpos).1 (Int.lt_of_lt_of_le (mod_in (a := at_) hpos).2 (by rw [List.length_map]; omega))
      refine iteT ?_
      refine ⟨_, rfl, p, _, 0, .ref q, rfl, rfl, hpL2, rfl, _, rfl, .inl ⟨at_, rfl, _, rfl, p, _, 0, .ref q, rfl, rfl, hpL2, rfl, q, _, rfl, .inl hqL2, _, _, rfl, rfl, hpos, q, _, _, .int cell, rfl, rfl, hqL2, hcell, ?_⟩⟩
      refine ⟨_, rfl, _, rfl, p, _, 0, .ref q, rfl, rfl, hpL2, rfl, q, _, rfl, .inl hqL2, _, _, rfl, rfl, _, rfl, iteC (fun _ => ?_) (fun _ => iteF ?_)⟩
      · refine ⟨_, rfl, _, rfl, 10, 18, rfl, rfl, ⟨by decide, by decide, by decide⟩, _, _, rfl, rfl, _, rfl, iteC (fun hge => ?_) (fun _ => ?_)⟩
        · refine ⟨_, rfl, _, rfl, 10, 18, rfl, rfl, ⟨by decide, by decide, by decide⟩, _, _, rfl, rfl, _, _, rfl, rfl, .inl ⟨by decide, by decide⟩, _, rfl, _, _, rfl, rfl, .inr ⟨_, rfl, _, _, rfl, rfl, ?_⟩⟩
          refine ⟨_, rfl, .inl ⟨_, rfl, _, rfl, _, many, rfl, rfl, ⟨by omega, by omega⟩, _, rfl, p, _, 2, 2, rfl, rfl, hp2, rfl, ?_⟩⟩
          refine ⟨_, rfl, .inl ⟨_, rfl, _, rfl, _, many, rfl, rfl, by omega, ?_⟩⟩
          exact hq _ _ (b2.trans but_upd) ⟨ns, at_ + 1, _, upd_same, by rw [upd_ne (Ne.symm hpq)]; exact hq2, hpq, hns, by omega, by omega, fdiv_nn (Int.add_nonneg (Int.mul_nonneg (by decide) (Int.sub_nonneg_of_le (of_decide_eq_true hge))) (by split <;> decide)) (by omega)⟩ (hmod _).1 (hmod _).2
        · refine ⟨_, rfl, .inl ⟨_, rfl, _, _, rfl, rfl, (show (0 : Int) < 2147483549 by decide), _, rfl, _, _, rfl, rfl, .inl ⟨by decide, by decide⟩, _, _, rfl, rfl, _, _, rfl, rfl, _, _, rfl, rfl, ⟨by decide, by decide, base5 _ ha0 (by omega)⟩, .inl ⟨_, rfl, _, _, rfl, rfl, (show (0 : Int) < 2147483563 by decide), ?_⟩⟩⟩
          refine ⟨_, rfl, _, rfl, _, _, rfl, rfl, .inl ⟨by decide, by decide⟩, _, _, rfl, rfl, _, _, rfl, rfl, .inl (mulL _), _, rfl, _, _, rfl, rfl, .inl ⟨by decide, by decide⟩, _, rfl, _, _, rfl, rfl, .inl (mulA ha0 (by omega)), _, _, rfl, rfl, _, _, rfl, rfl, _, _, rfl, rfl, ⟨by decide, by decide, base3 _ ha0 (by omega)⟩, .inl ⟨_, rfl, _, _, rfl, rfl, (show (0 : Int) < 2147483587 by decide), ?_⟩⟩
          refine ⟨_, rfl, _, _, rfl, rfl, ⟨by decide, by decide⟩, .inl ⟨_, rfl, _, rfl, _, many, rfl, rfl, by omega, ?_⟩⟩
          exact hq _ _ b2 ⟨ns, at_ + 1, rest, hp2, hq2, hpq, hns, by omega, by omega, hr0⟩ (hmod _).1 (hmod _).2
      · refine ⟨_, rfl, .inl ⟨_, rfl, _, _, rfl, rfl, (show (0 : Int) < 2147483549 by decide), _, rfl, _, _, rfl, rfl, .inl ⟨by decide, by decide⟩, _, _, rfl, rfl, _, _, rfl, rfl, _, _, rfl, rfl, ⟨by decide, by decide, base5 _ ha0 (by omega)⟩, .inl ⟨_, rfl, _, _, rfl, rfl, (show (0 : Int) < 2147483563 by decide), ?_⟩⟩⟩
        refine ⟨_, rfl, _, rfl, _, _, rfl, rfl, .inl ⟨by decide, by decide⟩, _, _, rfl, rfl, _, _, rfl, rfl, .inl (mulL _), _, rfl, _, _, rfl, rfl, .inl ⟨by decide, by decide⟩, _, rfl, _, _, rfl, rfl, .inl (mulA ha0 (by omega)), _, _, rfl, rfl, _, _, rfl, rfl, _, _, rfl, rfl, ⟨by decide, by decide, base3 _ ha0 (by omega)⟩, .inl ⟨_, rfl, _, _, rfl, rfl, (show (0 : Int) < 2147483587 by decide), ?_⟩⟩
        refine ⟨_, rfl, _, _, rfl, rfl, ⟨by decide, by decide⟩, .inl ⟨_, rfl, _, rfl, _, many, rfl, rfl, by omega, ?_⟩⟩
        exact hq _ _ b2 ⟨ns, at_ + 1, rest, hp2, hq2, hpq, hns, by omega, by omega, hr0⟩ (hmod _).1 (hmod _).2
end
end K23
set_option maxHeartbeats 1000000
namespace K23
open PySem PySem.Spec PyProof.Rows L2 KSup NdefX StX
section
variable {P : Program} {w : World} {K : PySem.W.Frag} {mg : Str → Option Value} {base : Heap} {f g : Addr} {fd gd : FuncData}
def spPick (K : PySem.W.Frag) : Sp := fun vs H Q _ => ∃ (p q l : Addr) (N : Int) (xs : List V), vs = [.ref p, .ref l] ∧ PenAt H p q N ∧ N ≤ 1000 ∧ H l = some (.lst xs) ∧ l ≠ p ∧ 1 ≤ xs.length ∧ xs.length ≤ 1000 ∧ ∀ (H' : Hp) (i : Nat) (v : V), But p H H' → PenAt H' p q (N + 1) → xs[i]? = some v → Q v H'
theorem atI_get {xs : List V} {i : Int} (h0 : 0 ≤ i) (h1 : i < (xs.length : Int)) : ∃ v, atI xs i = some v ∧ xs[i.toNat]? = some v := by
  unfold atI ixN
  rw [if_pos h0, if_pos h1]
  have h2 : i.toNat < xs.length := by omega
  exact ⟨xs[i.toNat], List.getElem?_eq_getElem h2, List.getElem?_eq_getElem h2⟩
theorem ok_pick (F : FnP K "_law_pick" sPick f fd) (T : Bl mg) (G : FnOk P w K mg base CX0 1 g gd ["pen", "many"] (spDraw K)) (kg : PySem.W.keepIn K (.ref g) = true) (bg : Binds K gd ["pen", "many"] []) (gm : mg "_law_draw" = some (.ref g)) :
    FnOk P w K mg base CX0 2 f fd ["pen", "some"] (spPick K) := by
  refine F.ok scPick (fun vs H Q E h => ?_) (fun cdv A outer s H vs Q E hr h => ?_)
  · obtain ⟨p, q, l, N, xs, rfl, _⟩ := h
    rfl
  · obtain ⟨p, q, l, N, xs, rfl, hp, hN, hl, hlp, h1, h2, hq⟩ := h
    refine ⟨_, PSs.nox (pss_one (ps_ret (pe_ix ix_list (pv 1) (pe_call G hr (by rfl) gm kg bg .nil pass0 (pa_cons (pv 0) (pa_cons (pe_callB call_len_seq (by rfl) T.len PySem.boot_len (pa_cons (pv 1) pa_nil)) pa_nil))) (fun _ _ => rfl)))), ?_⟩
    refine ⟨_, rfl, _, rfl, _, rfl, l, _, rfl, .inl (.inl (.inl hl)), p, q, _, N, rfl, hp, hN, by omega, by omega, fun H' r b pen r0 r1 => ?_⟩
    obtain ⟨v, hv, hv2⟩ := atI_get r0 r1
    exact ⟨l, xs, r, v, rfl, rfl, .inl (.inl (b _ _ hlp hl)), hv, hq H' r.toNat v b pen hv2⟩
def spPen (K : PySem.W.Frag) : Sp := fun vs H Q _ => ∃ (a : Addr) (ns : List Int), vs = [.ref a] ∧ SqL K H a (ns.map V.int) ∧ ∀ H' p q, Same H H' → H p = none → H q = none → PenAt H' p q 0 → Q (.ref p) H'
theorem ok_pen (F : FnP K "_law_pen" sPen f fd) (T : Bl mg) : FnOk P w K mg base CX0 1 f fd ["script"] (spPen K) := by
  refine F.ok scPen (fun vs H Q E h => ?_) (fun cdv A outer s H vs Q E hr h => ?_)
  · obtain ⟨a, ns, rfl, _⟩ := h
    rfl
  · obtain ⟨a, ns, rfl, hs, hq⟩ := h
    refine ⟨_, PSs.nox (pss_one (ps_ret (pe_lst (pa_cons (pe_lc (own := [("cell", 1)]) (g := gName 1) (tt := tYes) rfl scPen.nd (pi_list (pe_slice sl_list (pv 0) po_none (po_some pe_int))) (blkOk_by (N := ["script", "cell"]) (sc := defScope sPen) (by decide +kernel))
        (fun _ _ _ _ _ => pg_name (i := 1) scPen.nd rfl (Or.inl rfl)) (fun _ _ _ _ _ => pts_nil) (fun _ _ _ _ _ => pe_callTy call_int1 (by rfl) T.int (by decide +kernel) (pa_cons (pv 1) pa_nil))) (pa_cons pe_int (pa_cons pe_int pa_nil)))))), ?_⟩
    have hcut : ∃ ms : List Int, cutV (ns.map V.int) none (some 63) = ms.map V.int ∧ ms.length ≤ 63 := by
      unfold cutV
      refine ⟨(ns.drop (HT.sIx (ns.map V.int).length 0 none)).take (HT.sIx (ns.map V.int).length (ns.map V.int).length (some 63) - HT.sIx (ns.map V.int).length 0 none), ?_, ?_⟩
      · rw [List.map_take, List.map_drop]
      · rw [List.length_take]
        have : HT.sIx (ns.map V.int).length (ns.map V.int).length (some 63) ≤ 63 := by
          rw [show (some (63 : Int)) = some (((63 : Nat) : Int)) from rfl, HT.sIx_nat]
          omega
        omega
    obtain ⟨ms, hms, hm63⟩ := hcut
    refine ⟨_, rfl, _, rfl, a, _, rfl, hs, fun c nc => ?_⟩
    rw [hms]
    have s1 := same_upd (o := .lst (ms.map V.int)) nc
    have hc1 := upd_same (H := H) (a := c) (o := .lst (ms.map V.int))
    generalize upd H c (.lst (ms.map V.int)) = H1 at *
    refine ⟨c, rfl, ⟨_, .inl (.inl hc1)⟩, fun D nD => ?_⟩
    refine lc_dpL (K := K) (ds := ms.map PyData.int) (keep := fun _ => true) (F := fun d => d) (by rw [List.length_map]; omega) (.inl (.inl hc1)) nD (dpAll_intsV ms) (fun d hd _ => ?_) (fun x d H3 s3 hx hm R S hR hS => ?_) (fun H2 ys s2 eD hys => ?_)
    · obtain ⟨n, _, rfl⟩ := List.mem_map.mp hd
      rfl
    · obtain ⟨n, _, rfl⟩ := List.mem_map.mp hm
      cases hx
      refine ⟨wipe_one _ 1 _, ?_⟩
      dsimp only [tYes]
      rw [if_pos rfl]
      exact ⟨_, rfl, .inl ⟨n, rfl, hR _ _ (Same.refl _) rfl (.int n)⟩⟩
    · rw [filter_tt, List.map_id'] at hys
      have hy := ints_of hys
      subst hy
      refine ⟨by rw [sizeLine_eq]; show 3 ≤ 16777216; omega, fun p np => ?_⟩
      have s3 := same_upd (o := .lst [.ref D, .int 0, .int 0]) np
      have hpD : p ≠ D := fun z => by rw [z, eD] at np; cases np
      exact hq _ p D ((s1.trans s2).trans s3) ((s1.trans s2).free np) (s1.free nD) ⟨ms, 0, 0, upd_same, s3 _ _ eD, hpD, hm63, by omega, by omega, by omega⟩
end
end K23
set_option maxHeartbeats 1000000
namespace K23
open PySem PySem.Spec PyProof.Rows L2 KSup NdefX StX
section
variable {P : Program} {w : World} {K : PySem.W.Frag} {mg : Str → Option Value} {base : Heap} {f g : Addr} {fd gd : FuncData}
theorem erase_map {α β : Type} (f : α → β) : ∀ (l : List α) (i : Nat), (l.map f).eraseIdx i = (l.eraseIdx i).map f
  | [], _ => rfl
  | _ :: _, 0 => rfl
  | x :: l, i + 1 => by
    show f x :: (l.map f).eraseIdx i = f x :: (l.eraseIdx i).map f
    rw [erase_map f l i]
theorem perm_erase {α : Type} : ∀ (l : List α) (i : Nat) (h : i < l.length), (l[i] :: l.eraseIdx i).Perm l
  | x :: l, 0, _ => .refl _
  | x :: l, i + 1, h => by
    have := perm_erase l i (by simpa using h)
    show (l[i]'(by simpa using h) :: x :: l.eraseIdx i).Perm (x :: l)
    exact (List.Perm.swap _ _ _).trans (.cons x this)
def spMixed (K : PySem.W.Frag) : Sp := fun vs H Q _ => ∃ (p q l : Addr) (N : Int) (ns : List Int), vs = [.ref p, .ref l] ∧ PenAt H p q N ∧ N + ns.length ≤ 1000 ∧ H l = some (.lst (ns.map V.int)) ∧ l ≠ p ∧ ∀ (H' : Hp) (c : Addr) (ms : List Int), But p H H' → PenAt H' p q (N + ns.length) → H' c = some (.lst (ms.map V.int)) → H c = none → ms.Perm ns → Q (.ref c) H'
theorem ok_mixed (F : FnP K "_law_mixed" sMixed f fd) (T : Bl mg) (G : FnOk P w K mg base CX0 1 g gd ["pen", "many"] (spDraw K)) (kg : PySem.W.keepIn K (.ref g) = true) (bg : Binds K gd ["pen", "many"] []) (gm : mg "_law_draw" = some (.ref g)) :
    FnOk P w K mg base CX0 2 f fd ["pen", "some"] (spMixed K) := by
  refine F.ok scMixed (fun vs H Q E h => ?_) (fun cdv A outer s H vs Q E hr h => ?_)
  · obtain ⟨p, q, l, N, ns, rfl, _⟩ := h
    rfl
  · obtain ⟨p, q, l, N, ns, rfl, hp, hN, hl, hlp, hq⟩ := h
    refine ⟨_, PSs.nox (pss_cons (ps_par (i := 2) (j := 3) rfl scMixed.nd rfl rfl (by decide) rfl rfl (pa_cons (pe_callTy call_list_of (by rfl) T.list (by decide +kernel) (pa_cons (pv 1) pa_nil)) (pa_cons (pe_lst pa_nil) pa_nil)) (by rfl))
      (pss_cons (ps_for PassesOwn.never rfl (pi_range1 (by rfl) T.range (pa_cons (pe_callB call_len_seq (by rfl) T.len PySem.boot_len (pa_cons (pv 2) pa_nil)) pa_nil)) (pg_name (i := 4) scMixed.nd rfl (Or.inl rfl))
        (pss_one (ps_expr (pe_bm PySem.F.plainAttrs_list PySem.F.slot_list_append PySem.F.type_list_append mt_append (pv 3) (pa_cons (pe_bm PySem.F.plainAttrs_list PySem.F.slot_list_pop PySem.F.type_list_pop mt_popAt (pv 2) (pa_cons (pe_call G hr (by rfl) gm kg bg .nil pass0 (pa_cons (pv 0) (pa_cons (pe_callB call_len_seq (by rfl) T.len PySem.boot_len (pa_cons (pv 2) pa_nil)) pa_nil))) pa_nil)) pa_nil)))))
      (pss_one (ps_ret (pv 3))))), ?_⟩
    refine ⟨_, rfl, l, _, rfl, .inl (.inl (.inl hl)), fun r nr => ?_⟩
    refine ⟨by rw [sizeLine_eq]; show 0 ≤ 16777216; omega, fun fo nfo => ⟨_, _, rfl, ?_⟩⟩
    have hpe : ∃ o, H p = some o := let ⟨_, _, _, e, _⟩ := hp; ⟨_, e⟩
    have hrp : r ≠ p := let ⟨o, e⟩ := hpe; (ne_of_none e nr).symm
    have s1 := same_upd (o := .lst (ns.map V.int)) nr
    have s2 := same_upd (o := .lst []) nfo
    have hr1 := s2 _ _ (upd_same (H := H) (a := r) (o := .lst (ns.map V.int)))
    have hfo : fo ≠ r := (ne_of_none upd_same nfo).symm
    have nfoH : H fo = none := s1.free nfo
    have hfp : fo ≠ p := let ⟨o, e⟩ := hpe; (ne_of_none e nfoH).symm
    have hN0 : 0 ≤ N := let ⟨_, a1, _, _, _, _, _, h0, h1, _⟩ := hp; Int.le_trans h0 h1
    refine ⟨_, rfl, r, _, rfl, .inl (sqL_of hr1), ns.length, by simp, by omega, by omega, ?_⟩
    have bu : ∀ {H1 H2 : Hp} {x : Addr} {o : HO}, But p H H1 → H x = none → But p H (upd H1 x o) := fun {H1 H2 x o} b nx y oo hy e => by
      have : y ≠ x := fun z => by rw [z, nx] at e; cases e
      rw [upd_ne this]
      exact b _ _ hy e
    have penU : ∀ {H1 : Hp} {x : Addr} {o : HO} {M : Int}, PenAt H1 p q M → x ≠ p → x ≠ q → PenAt (upd H1 x o) p q M := fun {H1 x o M} h h1 h2 => by
      obtain ⟨cs, a1, b1, e1, e2, z⟩ := h
      exact ⟨cs, a1, b1, by rw [upd_ne (Ne.symm h1)]; exact e1, by rw [upd_ne (Ne.symm h2)]; exact e2, z⟩
    have hqe : ∃ o, H q = some o := let ⟨_, _, _, _, e, _⟩ := hp; ⟨_, e⟩
    have hrq : r ≠ q := let ⟨o, e⟩ := hqe; (ne_of_none e nr).symm
    have hfq : fo ≠ q := let ⟨o, e⟩ := hqe; (ne_of_none e nfoH).symm
    refine for_range (lo := 0) (n := ns.length) (fun i σ H' => ∃ (x4 : Option V) (rs fs : List Int), σ = [some (.ref p), some (.ref l), some (.ref r), some (.ref fo), x4] ∧ But p H H' ∧ PenAt H' p q (N + i) ∧ H' r = some (.lst (rs.map V.int)) ∧ H' fo = some (.lst (fs.map V.int)) ∧ (fs ++ rs).Perm ns ∧ fs.length = i) ?_ (fun i σ H' hi q2 => ?_) (fun σ H' q2 => ?_)
    · exact ⟨none, ns, [], rfl, bu (H2 := H) (bu (H2 := H) (But.refl _ _) nr) nfoH, by simpa using penU (penU hp hrp hrq) hfp hfq, hr1, upd_same, by simp, rfl⟩
    · obtain ⟨x4, rs, fs, rfl, b1, pen, er, ef, pm, fl⟩ := q2
      have hlen : rs.length + i = ns.length := by
        have := pm.length_eq
        rw [List.length_append] at this
        omega
      refine ⟨_, rfl, .inl ⟨rfl, _, sqL_of ef⟩, _, rfl, .inl ⟨rfl, _, sqL_of er⟩, _, rfl, _, rfl, r, _, rfl, .inl (sqL_of er), p, q, ((rs.map V.int).length : Int), N + i, rfl, pen, by omega, by rw [List.length_map]; omega, by rw [List.length_map]; omega, fun H2 d b2 pen2 d0 d1 => ?_⟩
      rw [List.length_map] at d1
      have er2 := b2 _ _ hrp er
      have ef2 := b2 _ _ hfp ef
      have hd : d.toNat < rs.length := by omega
      refine ⟨r, _, d, d.toNat, .int (rs[d.toNat]), rfl, rfl, er2, by omega, by omega, ?_, by rw [List.getElem?_map, List.getElem?_eq_getElem hd]; rfl, ?_⟩
      · exact seqIndex_of d0 (by rw [List.length_map]; exact d1)
      refine ⟨fo, _, _, rfl, rfl, by rw [upd_ne hfo]; exact ef2, by rw [List.length_map, sizeLine_eq]; omega, ?_⟩
      have er3 : upd (upd H2 r (.lst ((rs.map V.int).eraseIdx d.toNat))) fo (.lst (fs.map V.int ++ [.int (rs[d.toNat])])) r = some (.lst ((rs.eraseIdx d.toNat).map V.int)) := by
        rw [upd_ne (Ne.symm hfo), upd_same, erase_map]
      refine ⟨_, rs.eraseIdx d.toNat, fs ++ [rs[d.toNat]], rfl, bu (H2 := H) (bu (H2 := H) (b1.trans b2) nr) nfoH, ?_, er3, by rw [upd_same, List.map_append]; rfl, ?_, by simp [fl]⟩
      · have := penU (penU (o := .lst ((rs.map V.int).eraseIdx d.toNat)) pen2 hrp hrq) (o := .lst (fs.map V.int ++ [.int (rs[d.toNat])])) hfp hfq
        rw [show N + ((i + 1 : Nat) : Int) = N + i + 1 by omega]
        exact this
      · rw [List.append_assoc]
        exact ((List.Perm.append_left fs (perm_erase rs d.toNat hd))).trans pm
    · obtain ⟨x4, rs, fs, rfl, b1, pen, er, ef, pm, fl⟩ := q2
      have hlen : rs = [] := by
        have := pm.length_eq
        rw [List.length_append] at this
        exact List.length_eq_zero_iff.mp (by omega)
      subst hlen
      rw [List.append_nil] at pm
      exact ⟨_, rfl, hq _ fo fs b1 pen ef nfoH pm⟩
end
end K23
set_option maxHeartbeats 1000000
namespace K23
open PySem PySem.Spec PyProof.Rows L2 KSup NdefX StX KNest
def letR (ns : List Int) (m v : Int) (r : SRow) : Bool := decide (r.2.1 ∈ ns) && (r.1.all fun b => decide (b.2 ∈ ns)) && decide ((r.1.length : Int) < m) && decide (total r.1 + r.2.1 ≤ v)
theorem eqv_nilI (ns : List Int) : PyData.eqv (.list (ns.map PyData.int)) (.list []) = decide (ns = []) := by
  cases ns <;> simp [PyData.eqv, PyData.eqvAll]
section
variable {P : Program} {w : World} {K : PySem.W.Frag} {mg : Str → Option Value} {base : Heap} {f g : Addr} {fd gd : FuncData}
def spRowsLet (K : PySem.W.Frag) : Sp := fun vs H Q _ => ∃ (rv : V) (a : Addr) (ns : List Int) (m v : Int) (rows : List SRow), vs = [rv, .ref a, .int m, .int v] ∧ Dp K H rv (.tuple (rows.map encS)) ∧ rows.length ≤ 100000 ∧ (∀ r ∈ rows, r.1.length ≤ 1000) ∧ SqL K H a (ns.map V.int) ∧
  RetL K H ((rows.filter (letR ns m v)).map encS) Q
theorem ok_rowsLet (F : FnP K "_law_rows_let" sRowsLet f fd) (T : Bl mg) : FnOk P w K mg base CX0 1 f fd ["rows", "sizes", "many", "live"] (spRowsLet K) := by
  refine F.ok scRowsLet (fun vs H Q E h => ?_) (fun cdv A outer s H vs Q E hr h => ?_)
  · obtain ⟨rv, a, ns, m, v, rows, rfl, _⟩ := h
    rfl
  · obtain ⟨rv, a, ns, m, v, rows, rfl, hrv, hl, hll, hs, hq⟩ := h
    refine ⟨_, PSs.nox (pss_cons (ps_set (i := 4) scRowsLet.nd rfl (Or.inl rfl) (pe_lst pa_nil))
      (pss_cons (ps_for PassesOwn.never rfl (pi_tup (pv 0)) (pg_tup (t := gCons (gName 5) (gCons (gName 6) (gCons (gName 7) gNil))) (n := 3) rfl (pgs_cons (pg_name (i := 5) scRowsLet.nd rfl (Or.inl rfl)) (pgs_cons (pg_name (i := 6) scRowsLet.nd rfl (Or.inl rfl)) (pgs_cons (pg_name (i := 7) scRowsLet.nd rfl (Or.inl rfl)) pgs_nil))))
        (pss_cons (ps_set (i := 8) scRowsLet.nd rfl (Or.inl rfl) (pe_callB (cr_sum rfl) (by rfl) T.sum (by decide +kernel) (pa_cons (pe_lc (own := [("at", 9), ("one", 10)]) (g := gTup K 2 (gCons (gName 9) (gCons (gName 10) gNil))) (tt := tYes) rfl scRowsLet.nd (pi_tup (pv 5))
          (blkOk_by (N := ["rows", "sizes", "many", "live", "found", "layout", "size", "start", "total", "at", "one"]) (sc := defScope sRowsLet) (by decide +kernel))
          (fun _ _ _ _ _ => pg_tup rfl (pgs_cons (pg_name (i := 9) scRowsLet.nd rfl (Or.inl rfl)) (pgs_cons (pg_name (i := 10) scRowsLet.nd rfl (Or.inl rfl)) pgs_nil))) (fun _ _ _ _ _ => pts_nil) (fun _ _ _ _ _ => pv 10)) pa_nil)))
        (pss_one (ps_if (PW.pt (pw_and (pt_cmpR op_in_seq (pv 6) (pv 1) (by with_unfolding_all rfl)) (pw_and (pt_cmpR (op_eqD hr.units) (pe_lc (own := [("at", 9), ("one", 10)]) (g := gTup K 2 (gCons (gName 9) (gCons (gName 10) gNil))) rfl scRowsLet.nd (pi_tup (pv 5))
          (blkOk_by (N := ["rows", "sizes", "many", "live", "found", "layout", "size", "start", "total", "at", "one"]) (sc := defScope sRowsLet) (by decide +kernel))
          (fun _ _ _ _ _ => pg_tup rfl (pgs_cons (pg_name (i := 9) scRowsLet.nd rfl (Or.inl rfl)) (pgs_cons (pg_name (i := 10) scRowsLet.nd rfl (Or.inl rfl)) pgs_nil))) (fun _ _ _ _ _ => pts_one (pt_cmpR (show OpR _ _ (rIn K true) from op_notIn_seq) (pv 10) (pv 1) (by with_unfolding_all rfl))) (fun _ _ _ _ _ => pv 10)) (pe_lst pa_nil) (nomark _))
          (pw_and (pt_cmpR op_lt (pe_callB call_len_seq (by rfl) T.len PySem.boot_len (pa_cons (pv 5) pa_nil)) (pv 2) (nomark _)) (pw_and1 (pt_cmpR op_le (pe_op op_add (pv 8) (pv 6)) (pv 3) (nomark _)))))))
          (pss_one (ps_expr (pe_bm PySem.F.plainAttrs_list PySem.F.slot_list_append PySem.F.type_list_append mt_append (pv 4) (pa_cons (pe_tup (pa_cons (pv 5) (pa_cons (pv 6) (pa_cons (pv 7) pa_nil)))) pa_nil)))) pss_nil))))
      (pss_one (ps_ret (pv 4))))), ?_⟩
    refine ⟨by rw [sizeLine_eq]; show 0 ≤ 16777216; omega, fun D nD => ⟨_, rfl, ?_⟩⟩
    have ha := hrv
    cases ha with
    | @tup rp xs _ sq da =>
    have hxl := dpAll_len da
    rw [List.length_map] at hxl
    have sD := same_upd (o := .lst []) nD
    refine ⟨rp, rfl, ⟨_, sqT_same sD sq⟩, ?_⟩
    refine for_tup (K := K) (xs := xs) (fun i σ H' => ∃ x5 x6 x7 x8 x9 x10, σ = [some (.ref rp), some (.ref a), some (.int m), some (.int v), some (.ref D), x5, x6, x7, x8, x9, x10] ∧ Same H H' ∧ ∃ ys, H' D = some (.lst ys) ∧ DpAll K H' ys (((rows.take i).filter (letR ns m v)).map encS)) ?_ (fun i σ H' hi q => ?_) (fun i x σ H' hx q => ?_) (fun σ H' q => ?_)
    · exact ⟨_, _, _, _, _, _, rfl, sD, [], upd_same, .nil⟩
    · obtain ⟨_, _, _, _, _, _, _, s4, _⟩ := q
      exact sqT_same s4 sq
    · obtain ⟨x5, x6, x7, x8, x9, x10, rfl, s4, ys, eD, dys⟩ := q
      obtain ⟨dd, hd, hxd⟩ := dpAll_get da hx
      rw [List.getElem?_map] at hd
      cases hrr : rows[i]? with
      | none => rw [hrr] at hd; cases hd
      | some r =>
      rw [hrr] at hd
      cases hd
      have hmem : r ∈ rows := List.mem_of_getElem? hrr
      have tk : rows.take (i + 1) = rows.take i ++ [r] := by rw [List.take_add_one, hrr]; rfl
      obtain ⟨p, l, rfl, sp, dl⟩ := dp_encS (dp_same s4 hxd)
      obtain ⟨lp, lx, rfl, sl, dlx⟩ := dp_encL dl
      have hlen := dpAll_len dlx
      rw [List.length_map] at hlen
      refine ⟨p, _, rfl, sp, rfl, _, _, rfl, _, _, rfl, _, _, rfl, rfl, ?_⟩
      refine ⟨_, rfl, lp, rfl, ⟨_, sl⟩, fun D1 nD1 => ?_⟩
      refine lcB_T (K := K) (bs := r.1) (enc := encB) (keep := fun _ => true) (F := fun b => .int b.2) (by have := hll r hmem; omega) sl nD1 dlx (fun b _ _ => rfl) (fun x b H4 s5 hx hmem R S hR hS => ?_) (fun H4 zs2 s5 eD1 hzs => ?_)
      · obtain ⟨q, rfl, sq2⟩ := dp_encB hx
        refine ⟨q, _, rfl, sq2, rfl, _, _, rfl, _, _, rfl, rfl, wipe_two _ 9 10 _ _, ?_⟩
        dsimp only [tYes]
        rw [if_pos rfl]
        exact ⟨_, rfl, hR _ _ (Same.refl _) rfl (.int _)⟩
      rw [filter_ttB] at hzs
      have ez : zs2 = (r.1.map (·.2)).map V.int := ints_of (by rw [List.map_map]; exact hzs)
      subst ez
      refine ⟨D1, _, rfl, sqL_of eD1, _, rfl, ?_⟩
      have s45 := s4.trans s5
      have fin : ∀ H6, Same H4 H6 → letR ns m v r = false → Same H H6 ∧ ∃ ys', H6 D = some (.lst ys') ∧ DpAll K H6 ys' (((rows.take (i + 1)).filter (letR ns m v)).map encS) := fun H6 s6 e => by
        refine ⟨s45.trans s6, ys, s6 _ _ (s5 _ _ eD), ?_⟩
        rw [tk, List.filter_append, List.filter_cons_of_neg (by rw [e]; exact Bool.false_ne_true), List.filter_nil, List.append_nil]
        exact dpAll_same (s5.trans s6) dys
      have hs4 : SqL K H4 a (ns.map V.int) := s45.seq hs
      have hlet : letR ns m v r = (decide (r.2.1 ∈ ns) && (r.1.all fun b => decide (b.2 ∈ ns)) && decide ((r.1.length : Int) < m) && decide (total r.1 + r.2.1 ≤ v)) := rfl
      refine ⟨_, rfl, a, _, rfl, .inl hs4, rfl, flat_ints _, _, rfl, ?_⟩
      rw [if_neg (by decide), inV_int]
      by_cases c1 : r.2.1 ∈ ns
      case neg =>
        rw [decide_eq_false c1] at hlet ⊢
        exact iteF ⟨_, _, _, _, _, _, rfl, fin _ (Same.refl _) (by rw [hlet]; simp)⟩
      rw [decide_eq_true c1] at hlet ⊢
      refine iteT ?_
      refine ⟨_, rfl, lp, rfl, ⟨_, sqT_same s5 sl⟩, fun D2 nD2 => ?_⟩
      refine lcB_T (K := K) (bs := r.1) (enc := encB) (keep := fun b => decide (b.2 ∉ ns)) (F := fun b => .int b.2) (by have := hll r hmem; omega) (sqT_same s5 sl) nD2 (dpAll_same s5 dlx) (fun b _ _ => rfl) (fun x b H5 s6 hx hmem R S hR hS => ?_) (fun H5 zs3 s6 eD2 hzs3 => ?_)
      · obtain ⟨q, rfl, sq2⟩ := dp_encB hx
        refine ⟨q, _, rfl, sq2, rfl, _, _, rfl, _, _, rfl, rfl, wipe_two _ 9 10 _ _, ?_⟩
        refine ⟨_, rfl, _, rfl, a, _, rfl, .inl (s6.seq hs4), rfl, flat_ints _, _, rfl, ?_⟩
        rw [if_pos rfl, inV_int]
        by_cases c2 : b.2 ∈ ns
        · rw [decide_eq_true c2]
          exact iteF (hS _ (Same.refl _) (decide_eq_false (fun h => h c2)))
        · rw [decide_eq_false c2]
          exact iteT ⟨_, rfl, hR _ _ (Same.refl _) (decide_eq_true c2) (.int _)⟩
      refine ⟨by rw [sizeLine_eq]; show 0 ≤ 16777216; omega, fun e1 ne1 => ?_⟩
      have s7 := same_upd (o := .lst []) ne1
      have s67 := s6.trans s7
      refine ⟨.list (((r.1.filter fun b => decide (b.2 ∉ ns)).map (·.2)).map PyData.int), .list [], .lst (sqL_of (s7 _ _ eD2)) (dpAll_same s7 (by rw [List.map_map]; exact hzs3)), .lst (sqL_of upd_same) .nil, shaped_ints _, by decide +kernel, _, rfl, ?_⟩
      rw [eqv_nilI]
      by_cases c2 : ∀ b ∈ r.1, b.2 ∈ ns
      case neg =>
        have h2 : (r.1.all fun b => decide (b.2 ∈ ns)) = false := by
          cases h : (r.1.all fun b => decide (b.2 ∈ ns)) with
          | false => rfl
          | true => exact absurd (fun b hb => of_decide_eq_true (List.all_eq_true.mp h b hb)) c2
        have h3 : ¬ ((r.1.filter fun b => decide (b.2 ∉ ns)).map (·.2)) = [] := fun h => c2 fun b hb => by
          have h4 := List.map_eq_nil_iff.mp h
          have h5 := List.filter_eq_nil_iff.mp h4 b hb
          simpa using h5
        rw [decide_eq_false h3]
        exact iteF ⟨_, _, _, _, _, _, rfl, fin _ s67 (by rw [hlet, h2]; simp)⟩
      have h2 : (r.1.all fun b => decide (b.2 ∈ ns)) = true := List.all_eq_true.mpr fun b hb => decide_eq_true (c2 b hb)
      have h3 : ((r.1.filter fun b => decide (b.2 ∉ ns)).map (·.2)) = [] := by
        rw [List.filter_eq_nil_iff.mpr fun b hb => by simpa using c2 b hb]
        rfl
      rw [decide_eq_true h3]
      rw [h2, Bool.true_and, Bool.true_and] at hlet
      refine iteT ?_
      refine ⟨_, rfl, _, _, rfl, .inr (sqT_same (s5.trans s67) sl), _, rfl, _, _, rfl, rfl, _, rfl, ?_⟩
      rw [hlen]
      by_cases c3 : (r.1.length : Int) < m
      case neg =>
        rw [decide_eq_false c3] at hlet ⊢
        exact iteF ⟨_, _, _, _, _, _, rfl, fin _ s67 (by rw [hlet]; simp)⟩
      rw [decide_eq_true c3, Bool.true_and] at hlet
      rw [decide_eq_true c3]
      refine iteT ?_
      refine ⟨_, rfl, _, rfl, _, _, rfl, rfl, _, rfl, _, _, rfl, rfl, _, rfl, ?_⟩
      by_cases c4 : total r.1 + r.2.1 ≤ v
      case neg =>
        rw [decide_eq_false c4] at hlet
        rw [show decide ((r.1.map (·.2)).sum + r.2.1 ≤ v) = false from decide_eq_false c4]
        exact iteF ⟨_, _, _, _, _, _, rfl, fin _ s67 hlet⟩
      rw [decide_eq_true c4] at hlet
      rw [show decide ((r.1.map (·.2)).sum + r.2.1 ≤ v) = true from decide_eq_true c4]
      refine iteT ?_
      have eD5 := s67 _ _ (s5 _ _ eD)
      refine ⟨_, rfl, .inl ⟨rfl, _, sqL_of eD5⟩, _, rfl, _, rfl, _, rfl, by rw [sizeLine_eq]; show 3 ≤ 16777216; omega, fun tp ntp => ?_⟩
      have s8 := same_upd (o := .tup [.ref lp, .int r.2.1, .int r.2.2]) ntp
      have s58 := (s5.trans s67).trans s8
      have eD6 := s8 _ _ eD5
      have dys6 := dpAll_same s58 dys
      have hysl : ys.length ≤ 100000 := by
        have h1 := dpAll_len dys
        rw [List.length_map] at h1
        have h2 := List.length_filter_le (letR ns m v) (rows.take i)
        have h3 := List.length_take_le i rows
        have h4 : (rows.take i).length ≤ rows.length := by rw [List.length_take]; omega
        omega
      refine ⟨D, ys, _, rfl, rfl, eD6, by rw [sizeLine_eq]; omega, ?_⟩
      have d8 : DpAll K (upd (upd H5 e1 (.lst [])) tp (.tup [.ref lp, .int r.2.1, .int r.2.2])) (ys ++ [.ref tp]) (((rows.take (i + 1)).filter (letR ns m v)).map encS) := by
        rw [tk, List.filter_append, List.filter_cons_of_pos (by exact hlet), List.filter_nil, List.map_append]
        exact dpAll_app dys6 (.cons (.tup (sqT_of upd_same) (.cons (dp_same s58 dl) (.cons (.int _) (.cons (.int _) .nil)))) .nil)
      refine ⟨_, _, _, _, _, _, rfl, ?_, _, upd_same, dpAll_kp (kp_upd (ex := [D]) (by simp)) (fun x hx => by rw [List.mem_singleton] at hx; subst hx; exact noTup_lst eD6) (tupAll_map tupOnly_encS _) d8⟩
      intro b o e
      rw [upd_ne (ne_of_none e nD)]
      exact (s4.trans s58) _ _ e
    · obtain ⟨x5, x6, x7, x8, x9, x10, rfl, s4, ys, eD, dys⟩ := q
      rw [hxl, List.take_length] at dys
      exact ⟨_, rfl, hq _ D ys s4 eD nD dys⟩
end
end K23
set_option maxHeartbeats 1000000
namespace K23
open PySem PySem.Spec PyProof.Rows L2 KSup NdefX StX KNest LamX
abbrev NHeard : List Str := ["ask", "found", "caught", "error", "words", "kinds"]
/-- heard: what the call returns, in a list -/
def TH : (XK → Hp → VK → Prop) → Hp → VK → Prop := fun tl H Q => ∀ H', Same H H' → ∀ Q' : VK, (∀ x H1, (∀ l, H1 l = none → Q (.ref l) (upd H1 l (.lst [x]))) → Q' x H1) → tl C8.E0 H' Q'
theorem heard_gives {X : Cx} {q : Str} {g CG : Addr} {cdg : Value} (hG : X.mg "GoneError" = some (.ref CG)) : GivesTo X NHeard "_law_heard" (defScope sHeard) g cdg (defBody sHeard) "ask" q TH := by
  intro f c' s H Q tl act hc h
  have hgl : Gl (cxOf C8.CX0 X.prog X.w X.K X.mg X.base NHeard "_law_heard" (defScope sHeard) g cdg X.A X.stack s H C8.E0).nox "GoneError" := by rfl
  refine ⟨_, pss_cons (ps_asg (pe_tup (pa_cons pe_non (pa_cons pe_non pa_nil))) (pg_tup (t := gCons (gName 1) (gCons (gName 2) gNil)) (n := 2) rfl (pgs_cons (pg_name (i := 1) scHeard.nd rfl (Or.inl rfl)) (pgs_cons (pg_name (i := 2) scHeard.nd rfl (Or.inl rfl)) pgs_nil))))
    (pss_cons (ps_try_as (X := (cxOf C8.CX0 X.prog X.w X.K X.mg X.base NHeard "_law_heard" (defScope sHeard) g cdg X.A X.stack s H C8.E0).nox) (c := .ref CG) (i := 3) (ts := fun _ _ _ => tNever)
        (tb := fun W => tAsg (fun σZ HZ Q => σZ[0]? = some (some (.ref f)) ∧ HZ c' = some (CodeO c' q) ∧ tl C8.E0 HZ Q) (gName 1))
        rfl rfl scHeard.nd rfl rfl ⟨hgl, by decide, .inl hG⟩ L2.takes0 (fun W pn xe tk _ => pss_one (ps_set (i := 1) scHeard.nd rfl (Or.inl rfl) (act W pn xe C8.E0 _ _ tk (fun _ _ _ _ z => z.elim)))) (fun _ _ _ _ _ _ _ => pss_never))
      (pss_cons (ps_if (pt_cmpR op_isN (pv 2) pe_non (nomark _)) (pss_one (ps_ret (pe_lst (pa_cons (pv 1) pa_nil)))) pss_nil) pss_never)), ?_⟩
  refine ⟨by rw [sizeLine_eq]; show 2 ≤ 16777216; omega, fun t nt => ?_⟩
  have s1 := same_upd (o := .tup [.non, .non]) nt
  refine ⟨t, _, rfl, sqT_of upd_same, rfl, _, _, rfl, _, _, rfl, rfl, ?_⟩
  refine ⟨rfl, s1 _ _ hc, h _ s1 _ fun x H1 hx => ?_⟩
  refine ⟨_, rfl, rfl, _, rfl, iteT ?_⟩
  exact ⟨_, rfl, by rw [sizeLine_eq]; show 1 ≤ 16777216; omega, fun l nl => hx l nl⟩
end K23
set_option maxHeartbeats 2000000
/-! a lambda with one parameter that has a written default, handed to a def that calls it with nothing -/
namespace LamD
open PySem PySem.Spec PyProof.Rows L2 LamX
section
variable {X : Cx} {pins : List (Addr × Obj)} {σ : L2.St} {H HZ : Hp} {s s1 : Shared}
/-- the making's last part, whatever the defaults are -/
theorem tailD {T : List (Addr × Str)} {c P : Addr} {params : Arguments} {body : Expr} {scope : Scope} {pos : Pos} {dV : Value} {E : Value → Shared → Prop} {Q : Value → Shared → Prop} (I : Inv X pins σ H s) (TB : TabB X.base X.mg c P) (hcode : X.env.code = .ref c)
    (hm : (P, X.env.qual ++ "<lambda>") ∈ T) (hu : ∀ p ∈ T, p.1 = P → p.2 = X.env.qual ++ "<lambda>") (hT : Tabs T H) (hfree : ∀ y ∈ scope.names, y.2 = .free → ∃ c, X.env.cells.lookup y.1 = some c)
    (h : ∀ (f c' : Addr) (doc pm ctv : Value) (H1 : Hp) (s' : Shared), Inv X pins σ H1 s' → ExtN H H1 → Tabs T H1 → (∀ b o, b ≠ P → s.heap.get? b = some o → s'.heap.get? b = some o) → (∀ b, H b = none → b < s.heap.objs.size → H1 b = none) →
      s'.heap.get? f = some (PySem.W.kdv_obj "<lambda>" (X.env.qual ++ "<lambda>") params (.expr body) scope (cloFrom X.env.cells scope.names []) dV doc pm c' ctv) → H1 f = none → f ∉ frs X.stack → H1 c' = some (CodeO c' (X.env.qual ++ "<lambda>")) → Q (.ref f) s') :
    wpAny (model X.prog X.w) X.A (makeTail "<lambda>" (X.env.qual ++ "<lambda>") params (.expr body) scope X.env dV .none none pos pos.line) Q E s := by
  obtain ⟨ps, hP, ht, ha⟩ := hT _ hm
  have bP : s.heap.BuiltinsAt X.mg P := TB.bm.keeps I.bk
  have hP' : s.heap.get? P = some { cls := .none, data := .fields ps } := I.hok P _ hP
  have nofr : ∀ f, s.heap.objs.size ≤ f → f ∉ frs X.stack := fun f hf z => by
    rcases List.mem_cons.mp (I.stkSub _ z) with e | e
    · have h1 := I.lt
      rw [← e] at h1
      exact Nat.lt_irrefl _ (Nat.lt_of_lt_of_le h1 hf)
    · exact I.nofs hf e
  cases hc : codeAmong pos ps.toList with
  | none =>
    refine PySem.W.kdv_makeTail (mg := X.mg) (c := c) (P := P) (ps := ps) (closure_ok hfree) I.ok.glob (I.mod.glob.keeps I.bk) hcode (TB.code.keeps I.bk) hP' ht hc TB.gP bP fun c' ctv doc h' tk hx hge hlt hrec htb => ?_
    obtain ⟨c2, oc, vs, t, e2, hoc, hd, hv⟩ := hrec
    cases e2
    have hsz : s.heap.objs.size ≤ h'.objs.size := Nat.le_trans hge (Nat.le_of_lt hlt)
    have nC : H c' = none := I.hok.fresh hge
    have I1 := inv_table (t' := tk) (more := #[rawInt pos.line, rawInt pos.col, .ref c']) (h' := h'.push (PySem.W.kdv_obj "<lambda>" (X.env.qual ++ "<lambda>") params (.expr body) scope (cloFrom X.env.cells scope.names []) dV doc ((X.mg "__name__").getD .none) c' ctv)) I hP
      (fun b o hb e => Heap.get?_push_of_some _ (hx b o hb e)) (Heap.get?_push_of_some _ htb) hge ⟨oc, vs, t, Heap.get?_push_of_some _ hoc, hd, hv⟩
    have hE : ExtN H (upd (upd H P (.tbl (ps ++ #[rawInt pos.line, rawInt pos.col, .ref c']))) c' (CodeO c' (X.env.qual ++ "<lambda>"))) := fun b o e n => by
      rw [upd_ne (ne_of_none e nC), upd_ne (fun z => n ps (Option.some.inj (e.symm.trans (by rw [z]; exact hP))))]
      exact e
    have eL : (ps ++ #[rawInt pos.line, rawInt pos.col, .ref c']).toList = ps.toList ++ [rawInt pos.line, rawInt pos.col, .ref c'] := by simp
    refine h h'.objs.size c' doc ((X.mg "__name__").getD .none) ctv _ _ I1 hE (fun p hp => ?_) (fun b o hb e => Heap.get?_push_of_some _ (hx b o hb e)) (fun b hb hlb => ?_) (Heap.get?_push_size _ rfl) ?_ (nofr _ hsz) upd_same
    · by_cases hb : p.1 = P
      · rw [hu p hp hb, hb]
        refine ⟨_, by rw [upd_ne (ne_of_none hP nC), upd_same], by rw [eL]; exact PySem.TriplesOk_snoc _ _ _ _ ht, fun p' cv hcv => ?_⟩
        rw [eL] at hcv
        rcases among_app _ ht hcv with z | z
        · obtain ⟨c0, e1, e2⟩ := ha p' cv z
          exact ⟨c0, e1, hE _ _ e2 codeO_ne⟩
        · exact ⟨c', z, upd_same⟩
      · obtain ⟨ps', a1, a2, a3⟩ := hT p hp
        refine ⟨ps', by rw [upd_ne (ne_of_none a1 nC), upd_ne hb]; exact a1, a2, fun p' cv hcv => ?_⟩
        obtain ⟨c0, e1, e2⟩ := a3 p' cv hcv
        exact ⟨c0, e1, hE _ _ e2 codeO_ne⟩
    · rw [upd_ne (Nat.ne_of_lt (Nat.lt_of_lt_of_le hlb hge)), upd_ne (fun z => by rw [z, hP] at hb; cases hb)]
      exact hb
    · have n1 : h'.objs.size ≠ c' := Nat.ne_of_gt hlt
      have n2 : h'.objs.size ≠ P := Nat.ne_of_gt (Nat.lt_of_lt_of_le (Heap.lt_size hP') hsz)
      rw [upd_ne n1, upd_ne n2]
      exact I.hok.fresh hsz
  | some cv =>
    obtain ⟨c', e, hco⟩ := ha pos cv hc
    subst e
    refine PySem.W.kdv_makeTailHit (mg := X.mg) (c := c) (P := P) (ps := ps) (closure_ok hfree) I.ok.glob (I.mod.glob.keeps I.bk) hcode (TB.code.keeps I.bk) hP' ht hc bP fun ctv doc h' tk hx hsz => ?_
    have I1 : Inv X pins σ H { s with heap := h'.push (PySem.W.kdv_obj "<lambda>" (X.env.qual ++ "<lambda>") params (.expr body) scope (cloFrom X.env.cells scope.names []) dV doc ((X.mg "__name__").getD .none) c' ctv), toks := tk } := I.kept fun b o e => Heap.get?_push_of_some _ (hx b o e)
    exact h h'.objs.size c' doc ((X.mg "__name__").getD .none) ctv H _ I1 (ExtN.refl H) hT (fun b o _ e => Heap.get?_push_of_some _ (hx b o e)) (fun b hb _ => hb) (Heap.get?_push_size _ rfl) (I.hok.fresh hsz) (nofr _ hsz) hco
/-- lambda x = n: the default stands in a tuple of its own -/
theorem makeD {T : List (Addr × Str)} {c P : Addr} {params : Arguments} {body : Expr} {scope : Scope} {pos : Pos} {n : Int} {j : Nat} {pd : Pos} {E : Value → Shared → Prop} {Q : Value → Shared → Prop} (I : Inv X pins σ H s) (TB : TabB X.base X.mg c P) (hcode : X.env.code = .ref c)
    (hm : (P, X.env.qual ++ "<lambda>") ∈ T) (hu : ∀ p ∈ T, p.1 = P → p.2 = X.env.qual ++ "<lambda>") (hT : Tabs T H) (hfree : ∀ y ∈ scope.names, y.2 = .free → ∃ c, X.env.cells.lookup y.1 = some c)
    (hd1 : params.defaults = [.Constant (.int n) j pd]) (hd2 : params.kw_defaults = [])
    (h : ∀ (f c' Td : Addr) (tk : Tok) (doc pm ctv : Value) (H1 : Hp) (s' : Shared), Inv X pins σ H1 s' → ExtN H H1 → Tabs T H1 → s'.heap.get? Td = some (PySem.W.kdv_tup [.int n tk]) → H1 Td = none → Td ∉ frs X.stack →
      s'.heap.get? f = some (PySem.W.kdv_obj "<lambda>" (X.env.qual ++ "<lambda>") params (.expr body) scope (cloFrom X.env.cells scope.names []) (.ref Td) doc pm c' ctv) → H1 f = none → f ∉ frs X.stack → H1 c' = some (CodeO c' (X.env.qual ++ "<lambda>")) → Q (.ref f) s') :
    wpAny (model X.prog X.w) X.A (eval (.Lambda params body scope pos) X.env) Q E s := by
  refine PySem.W.kdv_lam (by rw [hd1]; rfl) hd2 ?_
  rw [hd1]
  refine PySem.W.kdv_all1 (thn ((pe_int (X := X) (j := j) (pos := pd)).run pins s σ H (fun v H1 => v = .int n ∧ H1 = H) I ⟨rfl, rfl⟩) fun u s1 ⟨v, H1, I1, r1, q1⟩ => ?_)
  obtain ⟨ev, eH⟩ := q1
  subst ev
  rw [eH] at I1
  obtain ⟨tk, rfl⟩ := r1
  refine PySem.W.kdv_all0 ?_
  rw [makeFunction_eq]
  simp only [List.zip_nil_right, List.filterMap_nil, List.isEmpty_nil, if_true, pure_bind, List.isEmpty_cons, Bool.false_eq_true, if_false]
  refine wpAny_bind (wpAny_newTextTuple ?_)
  have I2 : Inv X pins σ H { s1 with heap := s1.heap.push (PySem.W.kdv_tup [.int n tk]) } := I1.kept fun b o e => Heap.get?_push_of_some _ e
  have nofr : s1.heap.objs.size ∉ frs X.stack := fun z => by
    rcases List.mem_cons.mp (I1.stkSub _ z) with e | e
    · have h1 := I1.lt
      rw [← e] at h1
      exact Nat.lt_irrefl _ h1
    · exact I1.nofs (Nat.le_refl _) e
  have nT : H s1.heap.objs.size = none := I1.hok.fresh (Nat.le_refl _)
  refine tailD I2 TB hcode hm hu hT hfree fun f c' doc pm ctv H1 s' I' e1 t1 kp nn hf hfn hfr hco => ?_
  refine h f c' s1.heap.objs.size tk doc pm ctv H1 s' I' e1 t1 (kp _ _ (fun z => ?_) (Heap.get?_push_size _ rfl)) (nn _ nT (by rw [Heap.size_push]; exact Nat.lt_succ_self _)) nofr hf hfn hfr hco
  obtain ⟨ps, hP, _⟩ := hT _ hm
  have z' : s1.heap.objs.size = P := z
  rw [z', hP] at nT
  cases nT
end
/-! ### the lambda's names -/
/-- its own names are none of N; no cell of its own -/
structure LamDS (N : List Str) (sc scope : Scope) : Prop where
  kind : scope.kind = .function
  co : scope.isCoroutine = false
  gen : scope.isGenerator = false
  own : ∀ y ∈ scope.names, y.2 ≠ .cell
  loc : ∀ y ∈ scope.names, y.2 = .local → y.1 ∉ N
  free : ∀ y ∈ scope.names, y.2 = .free → sc.names.lookup y.1 = some .cell ∨ sc.names.lookup y.1 = some .free
theorem LamDS.has {N : List Str} {X : Cx} {scope : Scope} (L : LamDS N X.env.scope scope) (ok : X.Ok) : ∀ y ∈ scope.names, y.2 = .free → ∃ c, X.env.cells.lookup y.1 = some c := fun y hy e => by
  rcases L.free y hy e with k | k
  · exact ok.has _ (.inl k)
  · exact ok.has _ (.inr k)
section
variable {X : Cx} {pins : List (Addr × Obj)} {σ : L2.St} {H HZ : Hp} {s s1 : Shared}
theorem startD {A : Around} {outer : List Env} {E : XK} {scope : Scope} {f c' : Addr} {h₁ : Heap} {tk : Nat} {mm : Str → Option Value} (I : Inv X pins σ H s) (L : LamDS X.N X.env.scope scope) (e0 : Env0 X.prog X.w X.K X.mg X.base A outer s1 HZ) (hd : A.handled = none)
    (un : Un (frs X.stack) [] H HZ s.heap s1.heap) (hns : h₁.Ns s1.heap.objs.size mm) (kp : ∀ b o, s1.heap.get? b = some o → h₁.get? b = some o) :
    Inv (lamCx X A outer s1 HZ E scope f c') [] σ HZ { s1 with heap := h₁, toks := tk } := by
  have hfree := L.has I.ok
  have cm : ∀ {y c}, (cloFrom X.env.cells scope.names []).lookup y = some c → X.env.cells.lookup y = some c := fun {y c} e => by
    rcases cloFrom_mem (PySem.mem_of_lookup e) with hm | ⟨h1, h2⟩
    · cases hm
    · obtain ⟨c1, hc⟩ := hfree _ h1 rfl
      have hc : X.env.cells.lookup y = some c1 := hc
      have e2 : c = c1 := by
        rw [h2, hc] <;> rfl
      rw [e2]
      exact hc
  have look : ∀ {y}, scope.names.lookup y = some .free → ∃ c, (cloFrom X.env.cells scope.names []).lookup y = some c := fun {y} hl => by
    have hy : (y, NameKind.free) ∈ scope.names := PySem.mem_of_lookup hl
    exact mem_lookup (cloFrom_has (cells := X.env.cells) (acc := []) hy)
  have cellK : ∀ {c : Addr} {v : Option Value}, H c = none → s.heap.IsCell c v → h₁.IsCell c v := fun {c v} n ⟨o, ho, hd⟩ => by
    obtain ⟨sl, q⟩ := un.any ho n (by simp)
    exact ⟨_, kp _ _ q, hd⟩
  have noA : ∀ b : Addr, b ∉ (lamCx X A outer s1 HZ E scope f c').ex := fun b z => absurd (show b ∈ ([] : List Addr) from z) (by simp)
  refine ⟨⟨e0.mod, L.kind, rfl, rfl, Nat.le_refl _, fun y z c e1 e2 => I.ok.inj y z c (cm e1) (cm e2), fun y hy => ?_, fun y c z _ => ?_, fun _ => hd, Around.frames_deeper e0.frames, .inr ⟨rfl, rfl⟩, fun b z => absurd z (noA b), e0.bs, e0.bsz, fun b _ _ => noA b,
      fun b z => absurd z (noA b), e0.funs, e0.frf⟩,
    rfl, e0.bare, Un.kept kp, ⟨_, hns, fun i y v e1 e2 e3 => ?_⟩, fun y c e => ?_, e0.hok.fresh (Nat.le_refl _), fun y c e => ?_, fun q hq => absurd (show q ∈ ([] : List (Addr × Obj)) ++ [] from hq) (by simp), e0.hok.kept kp, I.len⟩
  · have hy : scope.names.lookup y = some .cell ∨ scope.names.lookup y = some .free := hy
    rcases hy with hy | hy
    · exact absurd rfl (L.own _ (PySem.mem_of_lookup hy))
    · exact look hy
  · have z : false = true := z
    cases z
  · have e3 : Vis scope y := e3
    have eN : X.N[i]? = some y := e1
    rcases e3 with k | k | k
    · exact absurd (List.mem_of_getElem? eN) (L.loc _ (PySem.mem_of_lookup k) rfl)
    · exact absurd rfl (L.own _ (PySem.mem_of_lookup k))
    · obtain ⟨m, hn, hl⟩ := I.loc
      have hvis : Vis X.env.scope y := (L.free _ (PySem.mem_of_lookup k) rfl).elim (fun k => .inr (.inl k)) (fun k => .inr (.inr k))
      obtain ⟨w', r, q⟩ := hl i y v e1 e2 hvis
      obtain ⟨c2, h2⟩ := look k
      refine ⟨w', r, .inr ⟨.inr k, c2, h2, ?_⟩⟩
      have c1 := cm h2
      rcases q with ⟨k', _⟩ | ⟨_, c3, e', z⟩
      · have k' : X.env.scope.names.lookup y = some .local := k'
        rcases L.free _ (PySem.mem_of_lookup k) rfl with k2 | k2 <;> rw [show X.env.scope.names.lookup y = _ from k2] at k' <;> cases k'
      · rw [c1] at e'
        cases e'
        exact cellK (I.freeC y _ c1) z
  · obtain ⟨w', z⟩ := I.cell y c (cm e)
    exact ⟨w', cellK (I.freeC y c (cm e)) z⟩
  · obtain ⟨v, o, ho, hd⟩ := I.cell y c (cm e)
    exact un.free c o ho (I.freeC y c (cm e)) (by simp)
/-- x(), in the def that got the lambda -/
theorem actD {CXg : CXT} {Eg : XK} {Ng : List Str} {qg : Str} {sg : Scope} {g f c' Td : Addr} {tkd : Tok} {n : Int} {x1 : Str} {cdg doc pm ctv : Value} {params : Arguments} {body : Expr} {scope : Scope} {k i : Nat} {a : Str} {pn : List (Addr × Obj)} {xe : Value → Shared → Prop} {W : WX} {E : XK} {tb : TE} {p1 p2 : Pos}
    (I : Inv X pins σ H s) (L : LamDS X.N X.env.scope scope) (hf : s.heap.get? f = some (PySem.W.kdv_obj "<lambda>" (X.env.qual ++ "<lambda>") params (.expr body) scope (cloFrom X.env.cells scope.names []) (.ref Td) doc pm c' ctv)) (hfn : H f = none) (hfr : f ∉ frs X.stack)
    (hT : s.heap.get? Td = some (PySem.W.kdv_tup [.int n tkd])) (hTn : H Td = none) (hTr : Td ∉ frs X.stack) (hx1 : scope.names.lookup x1 = some .local)
    (hbind : ∀ s1 : Shared, s1.heap.get? Td = some (PySem.W.kdv_tup [.int n tkd]) → BindsTo s1 (PySem.W.kdv_fn "<lambda>" (X.env.qual ++ "<lambda>") params (.expr body) scope (cloFrom X.env.cells scope.names []) (.ref Td) doc pm (.ref c') ctv) ⟨[], []⟩ [(x1, .int n tkd)])
    (tk : Takes ((cxOf CXg X.prog X.w X.K X.mg X.base Ng qg sg g cdg X.A X.stack s H Eg).tr pn xe) W) (hW : ∀ cls d σ' H', E cls d H' → W cls d σ' H') (hr : Room (k + 1) (X.A.deeper (envOfC qg sg s.heap.objs.size g cdg)))
    (hbody : ∀ (A : Around) (outer : List Env) (s : Shared) (H : Hp), Room k (A.deeper (lamEnv X scope s.heap.objs.size f c')) → PE (lamCx X A outer s H E scope f c') body tb)
    (hN : Ng[i]? = some a) (hv : Vis sg a) (hd : (a == ("__debug__" : Str)) = false := by decide) (hcd : (a == ("__classdict__" : Str)) = false := by decide) :
    PE ((cxOf CXg X.prog X.w X.K X.mg X.base Ng qg sg g cdg X.A X.stack s H Eg).tr pn xe) (.Call (.Name a p1) [] [] p2)
      (fun σZ HZ Q => σZ[i]? = some (some (.ref f)) ∧ HZ c' = some (CodeO c' (X.env.qual ++ "<lambda>")) ∧ tb σ HZ Q) := by
  refine ⟨fun pinsZ sZ σZ HZ Q IZ h => ?_⟩
  obtain ⟨hs, hc, ht⟩ := h
  refine wpAny_Call_Name_kw (thn ((pe_var (pos := p1) (i := i) hN hv hd hcd).run pinsZ sZ σZ HZ (fun v H1 => v = .ref f ∧ H1 = HZ) IZ ⟨.ref f, hs, rfl, rfl⟩) fun u s1 ⟨v, H1, I1, r1, q1⟩ => ?_)
  obtain ⟨ev, eH⟩ := q1
  subst ev
  rw [eH] at I1
  obtain rfl : u = Value.ref f := r1
  have of1 : s1.heap.get? f = some (PySem.W.kdv_obj "<lambda>" (X.env.qual ++ "<lambda>") params (.expr body) scope (cloFrom X.env.cells scope.names []) (.ref Td) doc pm c' ctv) := I1.base.keep f _ hf hfn hfr (fun z => nomatch (show f ∈ ([] : List Addr) from z))
  have oT1 : s1.heap.get? Td = some (PySem.W.kdv_tup [.int n tkd]) := I1.base.keep Td _ hT hTn hTr (fun z => nomatch (show Td ∈ ([] : List Addr) from z))
  refine PySem.W.callWith_F0 ⟨_, _, _, _, of1⟩ ?_
  have un : Un (frs X.stack) [] H HZ s.heap s1.heap := I1.base
  obtain ⟨⟨oc, vs, t, hoc, hdc, hvc⟩, _, _⟩ := I1.hok c' _ hc
  have rc : codeAny (model X.prog X.w) (X.A.deeper (envOfC qg sg s.heap.objs.size g cdg)) (.call (.ref f) ⟨[], []⟩) (CR (L2.CX X.prog X.w) (envOfC qg sg s.heap.objs.size g cdg :: X.stack) X.prog X.w HZ s1 Q E) s1 := by
    refine PySem.W.kla_callFunE hr.depth of1 rfl L.co L.gen rfl ⟨c', oc, vs, t, rfl, hoc, hdc, hvc⟩ (hbind s1 oT1 _ _ _ _ ?_)
    refine wpAny_newFunctionEnv L.own (fun y hy => ?_) (fun h₁ hns hsb => ⟨I1.nolimit.fresh _ hsb, ?_⟩) L.kind
    · rw [List.mem_singleton] at hy
      rw [hy]
      exact hx1
    show codeAny _ _ (.expr body (lamEnv X scope s1.heap.objs.size f c')) _ _
    have kp : ∀ b o, s1.heap.get? b = some o → h₁.get? b = some o := fun b o e => hsb.extBut b o (Nat.ne_of_lt (Heap.lt_size e)) (Heap.get?_push_of_some _ e)
    have J : Inv (lamCx X (X.A.deeper (envOfC qg sg s.heap.objs.size g cdg)) (envOfC qg sg s.heap.objs.size g cdg :: X.stack) s1 HZ E scope f c') [] σ HZ { s1 with heap := h₁, toks := s1.toks + ([(x1, .int n tkd)] : List (Str × Value)).length } :=
      startD I L I1.env0 hr.hd un hns kp
    refine PySem.W.kla_codeExpr (wpAny_mono ((hbody _ _ s1 HZ (hr.deeper _)).run [] _ _ HZ Q J ht) (fun v s' hq => ?_) fun e s' hq => hq)
    obtain ⟨w', H', J', rv, q⟩ := hq
    exact ⟨w', H', J'.os, J'.bare, J'.base, J'.hok, rv, q⟩
  have hx : Passes (L2.CX X.prog X.w) ((cxOf CXg X.prog X.w X.K X.mg X.base Ng qg sg g cdg X.A X.stack s H Eg).tr pn xe) E := passes_call tk hW
  refine wpAny_call (codeAny_mono rc fun r s' hq => ?_)
  cases r with
  | error e => exact hx pinsZ σZ HZ s1 e s' I1 hq
  | ok fl =>
    cases fl with
    | ret u => exact I1.after hq
    | next => exact False.elim hq
    | brk => exact False.elim hq
    | cont => exact False.elim hq
end
section
variable {X : Cx}
/-- x(lambda y = n: body) -/
theorem pe_lamcallD {T : List (Addr × Str)} {TT : (XK → Hp → VK → Prop) → Hp → VK → Prop} {x a x1 : Str} {g c P : Addr} {k : Nat} {pg : Arguments} {bg : List Stmt} {sg : Scope} {dV kV doc pm cdv ct oc : Value} {an od : Option Addr} {osl : Array (Option Value)} {Ng : List Str}
    {params : Arguments} {body : Expr} {scope : Scope} {t : XK → TE} {p lpos pos : Pos} {n : Int} {j : Nat} {pd : Pos} (hg : Gl X x) (hm : X.mg x = some (.ref g)) (hk : PySem.W.keepIn X.K (.ref g) = true)
    (lk : X.K.lookup g = some ⟨oc, od, .func (PySem.W.fnOf x x pg bg sg dV kV doc pm an cdv ct), osl⟩) (hcg : PySem.W.codeIn X.K cdv x = true) (hb : L2.Binds X.K (PySem.W.fnOf x x pg bg sg dV kV doc pm an cdv ct) [a] []) (Sg : FnScope Ng [a] sg) (hNg : Ng[0]? = some a) (hva : Vis sg a)
    (hG : GivesTo X Ng x sg g cdv bg a (X.env.qual ++ "<lambda>") TT)
    (TB : TabB X.base X.mg c P) (hcode : X.env.code = .ref c) (hmT : (P, X.env.qual ++ "<lambda>") ∈ T) (hu : ∀ p ∈ T, p.1 = P → p.2 = X.env.qual ++ "<lambda>") (hr : Room (k + 2) X.A) (L : LamDS X.N X.env.scope scope)
    (hd1 : params.defaults = [.Constant (.int n) j pd]) (hd2 : params.kw_defaults = []) (hx1 : scope.names.lookup x1 = some .local)
    (hbind : ∀ (q : Str) (cl : List (Str × Addr)) (Td : Addr) (tkd : Tok) (doc pm cv ctv : Value) (s1 : Shared), s1.heap.get? Td = some (PySem.W.kdv_tup [.int n tkd]) → BindsTo s1 (PySem.W.kdv_fn "<lambda>" q params (.expr body) scope cl (.ref Td) doc pm cv ctv) ⟨[], []⟩ [(x1, .int n tkd)])
    (hbody : ∀ (A : Around) (outer : List Env) (s : Shared) (H : Hp) (E : XK) (f c' : Addr), Room k (A.deeper (lamEnv X scope s.heap.objs.size f c')) → PE (lamCx X A outer s H E scope f c') body (t E))
    (hdb : (x == ("__debug__" : Str)) = false := by decide) (hd : (a == ("__debug__" : Str)) = false := by decide) (hcd : (a == ("__classdict__" : Str)) = false := by decide) :
    PE X (.Call (.Name x p) [.Lambda params body scope lpos] [] pos) (tLam T TT t) := by
  refine ⟨fun pins s σ H Q I h => ?_⟩
  obtain ⟨hT, h⟩ := h
  refine wpAny_Call_Name_kw (ld_glob I hg hm ?_ hdb)
  refine PySem.W.callWith_K (h₀ := X.base) I.ok.mod.kin hk ?_ (by rfl) (by rfl)
  show wpAny _ _ (spliced ((false, eval (.Lambda params body scope lpos) X.env) :: backTo pos (starEach [] X.env))) _ _ s
  refine Calls.spliced_cons (makeD I TB hcode hmT hu hT (L.has I.ok) hd1 hd2 fun f c' Td tkd doc' pm' ctv H1 s' I1 eN T1 hTd hTn hTr hf hfn hfr hco => ?_)
  refine Calls.spliced_nil ⟨I1.kIn, ?_⟩
  have rc : codeAny (model X.prog X.w) X.A (.call (.ref g) ⟨[.ref f], []⟩) (CR C8.CX0 X.stack X.prog X.w H1 s' Q C8.E0) s' := by
    refine run_ofS (N := Ng) (ps := [a]) (us := [.ref f]) (vs := [.ref f]) lk hcg Sg hr I1.env0 (hb s' [.ref f] I1.kIn rfl) (.cons rfl .nil) rfl fun hr' => ?_
    obtain ⟨t', ht', hq'⟩ := hG f c' s' H1 Q (fun E H' Q' => t E σ H' Q') (fun W pn xe E p1 p2 tk hW => actD (i := 0) I1 L hf hfn hfr hTd hTn hTr hx1 (hbind _ _ _ _ _ _ _ _) tk hW hr' (fun A outer s H hr2 => hbody A outer s H E f c' hr2) hNg hva hd hcd) hco (h H1 eN T1)
    exact ⟨t', ht'.nox, hq'⟩
  refine wpAny_call (codeAny_mono rc fun r s2 hq => ?_)
  cases r with
  | error e => exact (show False from hq).elim
  | ok fl =>
    cases fl with
    | ret u => exact I1.after hq
    | next => exact False.elim hq
    | brk => exact False.elim hq
    | cont => exact False.elim hq
end
end LamD
set_option maxHeartbeats 1000000
namespace K23
open PySem PySem.Spec PyProof.Rows L2 KSup NdefX StX
/-- G lets all that G' lets -/
structure Less (G' G : Game) : Prop where
  c : G'.c = G.c
  zs : ∀ z ∈ G'.zs, z ∈ G.zs
  m : G'.m ≤ G.m
  v : G'.v ≤ G.v
theorem Less.refl (G : Game) : Less G G := ⟨rfl, fun _ h => h, Int.le_refl _, Int.le_refl _⟩
theorem Less.wants {G' G : Game} (l : Less G' G) {L : Lay} (h : (L.length : Int) ≤ G'.m) {z : Int} (hz : z ∈ wants G' L) : z ∈ wants G L := by
  obtain ⟨h1, h2, h3⟩ := mem_wants.mp hz
  have := l.m
  have := l.v
  exact mem_wants.mpr ⟨by omega, l.zs z h2, by omega⟩
theorem Less.moves {G' G : Game} (l : Less G' G) {L : Lay} (h : (L.length : Int) ≤ G'.m) {m : Mv} (hm : m ∈ movesAt G' L) : m ∈ movesAt G L := by
  rcases mem_moves.mp hm with h1 | ⟨z, hz, rfl⟩
  · exact mem_moves.mpr (.inl h1)
  · exact mem_moves.mpr (.inr ⟨z, l.wants h hz, rfl⟩)
theorem Less.led {G' G : Game} (l : Less G' G) (L : Lay) (m : Mv) : ledTo G L m = ledTo G' L m := by
  cases m with
  | give s => rfl
  | want z =>
    show (freeS G.c L z).map _ = (freeS G'.c L z).map _
    rw [l.c]
theorem Less.lay {G' G : Game} (l : Less G' G) {L : Lay} (h : IsLay G' L) : IsLay G L := ⟨by rw [← l.c]; exact h.go, fun b hb => l.zs _ (h.zs b hb), Int.le_trans h.m l.m, Int.le_trans h.v l.v⟩
theorem win_less {G' G : Game} (k : OkG G') (l : Less G' G) {L : Lay} (h : Win G' L) : IsLay G' L → Win G L := by
  induction h with
  | @mk L m hm ho ih =>
    intro hl
    exact .mk m (l.moves hl.m hm) fun o h => ih o (by rw [← l.led]; exact h) (hl.led k hm (by rw [← l.led]; exact h))
/-! ### more cells -/
theorem freeGo_wid {c d z s : Int} (h : c ≤ d) : ∀ {L : Lay} {t : Int}, s ∈ freeGo z t (L ++ [(c, 0)]) → s ∈ freeGo z t (L ++ [(d, 0)])
  | [], t, q => by
    have q' : s ∈ rangeI t (c - z + 1) := by simpa [freeGo] using q
    have q2 := mem_rangeI.mp q'
    have : s ∈ rangeI t (d - z + 1) := mem_rangeI.mpr ⟨q2.1, by omega⟩
    simpa [freeGo] using this
  | b :: r, t, q => by
    rw [List.cons_append, freeGo, List.mem_append] at q ⊢
    exact q.imp id fun q => freeGo_wid h q
theorem LayGo.wid {c d : Int} (h : c ≤ d) : ∀ {L : Lay} {t : Int}, LayGo c t L → LayGo d t L
  | [], _, q => Int.le_trans q h
  | _ :: _, _, q => ⟨q.1, q.2.wid h⟩
/-- the same game in more cells -/
structure Wid (G D : Game) : Prop where
  c : G.c ≤ D.c
  zs : G.zs = D.zs
  m : G.m = D.m
  v : G.v = D.v
theorem Wid.wants {G D : Game} (w : Wid G D) (L : Lay) : wants D L = wants G L := by
  unfold K23.wants
  rw [w.zs, w.m, w.v]
theorem Wid.moves {G D : Game} (w : Wid G D) (L : Lay) : movesAt D L = movesAt G L := by
  unfold movesAt
  rw [w.wants]
theorem Wid.led {G D : Game} (w : Wid G D) {L o : Lay} {m : Mv} (h : o ∈ ledTo G L m) : o ∈ ledTo D L m := by
  cases m with
  | give s => exact h
  | want z =>
    obtain ⟨s, hs, rfl⟩ := List.mem_map.mp (show o ∈ (freeS G.c L z).map _ from h)
    exact List.mem_map.mpr ⟨s, freeGo_wid w.c hs, rfl⟩
theorem Wid.lay {G D : Game} (w : Wid G D) {L : Lay} (h : IsLay G L) : IsLay D L := ⟨h.go.wid w.c, fun b hb => by rw [← w.zs]; exact h.zs b hb, by rw [← w.m]; exact h.m, by rw [← w.v]; exact h.v⟩
theorem win_wid {G D : Game} (w : Wid G D) {L : Lay} (h : Win D L) : Win G L := by
  induction h with
  | @mk L m hm ho ih => exact .mk m (by rw [← w.moves]; exact hm) fun o h => ih o (w.led h)
/-! ### rows of a Served -/
theorem nd_key {α β : Type} {f : α → β} : ∀ {l : List α}, (l.map f).Nodup → ∀ {a b : α}, a ∈ l → b ∈ l → f a = f b → a = b
  | x :: l, nd, a, b, ha, hb, e => by
    rw [List.map_cons, List.nodup_cons] at nd
    rcases List.mem_cons.mp ha with ha | ha <;> rcases List.mem_cons.mp hb with hb | hb
    · rw [ha, hb]
    · exact absurd (List.mem_map.mpr ⟨b, hb, by rw [← e, ha]⟩) nd.1
    · exact absurd (List.mem_map.mpr ⟨a, ha, by rw [e, hb]⟩) nd.1
    · exact nd_key nd.2 ha hb e
theorem sv_served {G : Game} {rs : List RRow} {rows : List SRow} {Vs : List Lay} (k : OkG G) (h : SvOk G rs rows Vs) : ServedOk G rows := by
  have lay : ∀ L ∈ Vs, IsLay G L := fun L hL => (h.re L hL).1.lay k
  have tab : TabOk G rows := ⟨fun r hr => by
    obtain ⟨h1, h2, h3⟩ := h.row r hr
    have hz := (mem_wants.mp h2).2.1
    have q := free_facts k (lay _ h1) hz h3
    exact ⟨lay _ h1, hz, ⟨q.2.1, by omega⟩, h3⟩, h.nd⟩
  have re : ∀ L, ReachT G rows L → L ∈ Vs := fun L hL => by
    induction hL with
    | nil => exact h.nil
    | @give L b _ hb ih => exact (h.done L ih _ (mem_moves.mpr (.inl ⟨b, hb, rfl⟩))).1 _ rfl
    | @put L z s _ hw hr ih =>
      obtain ⟨st, h1, h2, h3⟩ := (h.done L ih _ (mem_moves.mpr (.inr ⟨z, hw, rfl⟩))).2 _ rfl
      have := nd_key h.nd hr h1 rfl
      cases this
      exact h3
  exact ⟨tab, fun L hL z hz => let ⟨st, h1, _⟩ := (h.done L (re L hL) _ (mem_moves.mpr (.inr ⟨z, hz, rfl⟩))).2 _ rfl; ⟨st, h1⟩⟩
theorem served_wid {G D : Game} (w : Wid G D) {rows : List SRow} (h : ServedOk G rows) : ServedOk D rows := by
  refine ⟨⟨fun r hr => ?_, h.tab.nd⟩, fun L hL z hz => ?_⟩
  · have q := h.tab.row r hr
    have := w.c
    exact ⟨w.lay q.lay, by rw [← w.zs]; exact q.z, ⟨q.s.1, by have := q.s.2; omega⟩, freeGo_wid w.c q.f⟩
  · have re : ∀ L, ReachT D rows L → ReachT G rows L := fun L hL => by
      induction hL with
      | nil => exact .nil
      | give _ hb ih => exact .give ih hb
      | put _ hw hr ih => exact .put ih (by rw [← w.wants]; exact hw) hr
    exact h.all L (re L hL) z (by rw [← w.wants]; exact hz)
theorem served_nil {G : Game} {rows : List SRow} (h : ServedOk G rows) {z : Int} (hz : z ∈ wants G []) : ∃ r ∈ rows, r.1 = [] := by
  obtain ⟨s, hs⟩ := h.all [] .nil z hz
  exact ⟨_, hs, rfl⟩
theorem served_lay {G : Game} {rows : List SRow} (h : ServedOk G rows) {r : SRow} (hr : r ∈ rows) : IsLay G r.1 := (h.tab.row r hr).lay
theorem letR_iff {ns : List Int} {m v : Int} {r : SRow} : letR ns m v r = true ↔ r.2.1 ∈ ns ∧ (∀ b ∈ r.1, b.2 ∈ ns) ∧ (r.1.length : Int) < m ∧ total r.1 + r.2.1 ≤ v := by
  unfold letR
  rw [Bool.and_eq_true, Bool.and_eq_true, Bool.and_eq_true, decide_eq_true_iff, decide_eq_true_iff, decide_eq_true_iff, List.all_eq_true]
  constructor
  · rintro ⟨⟨⟨h1, h2⟩, h3⟩, h4⟩
    exact ⟨h1, fun b hb => of_decide_eq_true (h2 b hb), h3, h4⟩
  · rintro ⟨h1, h2, h3, h4⟩
    exact ⟨⟨⟨h1, fun b hb => decide_eq_true (h2 b hb)⟩, h3⟩, h4⟩
theorem served_let {c m v m' v' : Int} {ns ns' : List Int} {rows : List SRow} (h' : ∀ n ∈ ns', 1 ≤ n ∧ n ≤ 3) (k' : OkG (mkG c ns' m' v')) (l : Less (mkG c ns' m' v') (mkG c ns m v)) (h : ServedOk (mkG c ns m v) rows) : ServedOk (mkG c ns' m' v') (rows.filter (letR ns' m' v')) := by
  have tab : TabOk (mkG c ns' m' v') (rows.filter (letR ns' m' v')) := ⟨fun r hr => by
    obtain ⟨h1, h2⟩ := List.mem_filter.mp hr
    obtain ⟨a1, a2, a3, a4⟩ := letR_iff.mp h2
    have q := h.tab.row r h1
    refine ⟨⟨q.lay.go, fun b hb => (mem_canon h').mpr (a2 b hb), Int.le_of_lt a3, ?_⟩, (mem_canon h').mpr a1, q.s, q.f⟩
    show total r.1 ≤ v'
    have := h' _ a1
    omega, h.tab.nd.sublist (List.Sublist.map _ List.filter_sublist)⟩
  have re : ∀ L, ReachT (mkG c ns' m' v') (rows.filter (letR ns' m' v')) L → ReachT (mkG c ns m v) rows L := fun L hL => by
    induction hL with
    | nil => exact .nil
    | give _ hb ih => exact .give ih hb
    | put hp hw hr ih => exact .put ih (l.wants (hp.lay k' tab).m hw) (List.mem_filter.mp hr).1
  refine ⟨tab, fun L hL z hz => ?_⟩
  have lay := hL.lay k' tab
  obtain ⟨s, hs⟩ := h.all L (re L hL) z (l.wants lay.m hz)
  obtain ⟨w1, w2, w3⟩ := mem_wants.mp hz
  refine ⟨s, List.mem_filter.mpr ⟨hs, letR_iff.mpr ⟨(mem_canon h').mp w2, fun b hb => (mem_canon h').mp (lay.zs b hb), ?_, w3⟩⟩⟩
  have h5 : (L.length : Int) ≤ m' := lay.m
  have h6 : (L.length : Int) ≠ m' := w1
  show (L.length : Int) < m'
  omega
theorem let_wants {c m v : Int} {ns : List Int} (hm : 1 ≤ m) (h : ∀ n ∈ ns, 1 ≤ n ∧ n ≤ 3) {rows : List SRow} {r : SRow} (hr : r ∈ rows.filter (letR ns m v)) (p : ∀ b ∈ r.1, 1 ≤ b.2) : r.2.1 ∈ wants (mkG c ns m v) [] := by
  obtain ⟨a1, a2, a3, a4⟩ := letR_iff.mp (List.mem_filter.mp hr).2
  refine mem_wants.mpr ⟨?_, (mem_canon h).mpr a1, ?_⟩
  · show ((0 : Nat) : Int) ≠ m
    omega
  · have h0 : ∀ L : Lay, (∀ b ∈ L, 1 ≤ b.2) → 0 ≤ total L := fun L => by
      induction L with
      | nil => intro _; exact Int.le_refl 0
      | cons b L ih =>
        intro q
        rw [total_cons]
        have := q b List.mem_cons_self
        have := ih fun x hx => q x (List.mem_cons_of_mem _ hx)
        omega
    have := h0 _ p
    show (0 : Int) + r.2.1 ≤ v
    omega
/-- who is served is not forced -/
theorem served_no_win {G : Game} {rows : List SRow} (k : OkG G) (h : ServedOk G rows) : ¬ Win G [] := by
  have main : ∀ L, Win G L → ReachT G rows L → False := fun L hw => by
    induction hw with
    | @mk L m hm ho ih =>
      intro hL
      rcases mem_moves.mp hm with ⟨b, hb, rfl⟩ | ⟨z, hz, rfl⟩
      · exact ih _ (by simp [ledTo]) (.give hL hb)
      · obtain ⟨s, hs⟩ := h.all L hL z hz
        exact ih _ (List.mem_map.mpr ⟨s, (h.tab.row _ hs).f, rfl⟩) (.put hL hz hs)
  exact fun hw => main [] hw .nil
/-! ### rows of a Forced -/
theorem fr_forced {G : Game} {rs rows : List RRow} (k : OkG G) (h : RanksOk G rs) (f : FrOk G rs rows) : ForcedOk G rows := by
  refine ⟨⟨fun r hr => ?_, f.nd⟩, f.nil, fun r hr o ho => ?_⟩
  · have hs := f.sub r hr
    obtain ⟨h1, h2, _⟩ := h.ok r hs
    exact ⟨(h.re r hs).lay k, h1, h2⟩
  · obtain ⟨_, _, h3⟩ := h.ok r (f.sub r hr)
    obtain ⟨q, hq, e1, e2⟩ := h3 o ho
    obtain ⟨q', hq', e3⟩ := List.mem_map.mp (f.shut r hr o ho)
    have e4 : q = q' := nd_key h.nd hq (f.sub q' hq') (by rw [e1, e3])
    rw [← e4] at hq'
    exact ⟨q, hq', e1, e2⟩
theorem forced_less {G' G : Game} (l : Less G' G) {rows : List RRow} (h : ForcedOk G' rows) : ForcedOk G rows := by
  refine ⟨⟨fun r hr => ?_, h.tab.nd⟩, h.nil, fun r hr o ho => h.all r hr o (by rw [← l.led]; exact ho)⟩
  have q := h.tab.row r hr
  exact ⟨l.lay q.lay, q.n, l.moves q.lay.m q.m⟩
theorem win_wants {G : Game} (h : Win G []) : ∃ z, z ∈ wants G [] := by
  cases h with
  | mk m hm _ =>
    rcases mem_moves.mp hm with ⟨b, hb, _⟩ | ⟨z, hz, _⟩
    · cases hb
    · exact ⟨z, hz⟩
end K23
set_option maxHeartbeats 1000000
namespace K23
open PySem PySem.Spec PyProof.Rows L2 KSup NdefX StX
/-! ### all layouts of a game -/
def genL (zs : List Int) : Nat → Int → Int → Int → List Lay
  | 0, _, _, _ => [[]]
  | n + 1, t, c, v => [] :: (rangeI t c).flatMap fun s => zs.flatMap fun z => if s + z ≤ c ∧ z ≤ v then (genL zs n (s + z) c (v - z)).map ((s, z) :: ·) else []
theorem total_nn : ∀ {L : Lay}, Pos1 L → 0 ≤ total L
  | [], _ => Int.le_refl 0
  | b :: L, q => by
    rw [total_cons]
    have h1 : 1 ≤ b.2 := q b List.mem_cons_self
    have := total_nn (L := L) fun x hx => q x (List.mem_cons_of_mem _ hx)
    omega
theorem mem_genL {zs : List Int} {c : Int} : ∀ (n : Nat) (L : Lay) (t v : Int), LayGo c t L → Pos1 L → (∀ b ∈ L, b.2 ∈ zs) → L.length ≤ n → total L ≤ v → L ∈ genL zs n t c v
  | 0, [], _, _, _, _, _, _, _ => List.mem_cons_self
  | 0, _ :: _, _, _, _, _, _, h, _ => absurd h (by simp)
  | n + 1, [], _, _, _, _, _, _, _ => List.mem_cons_self
  | n + 1, b :: r, t, v, g, p, hz, hl, hv => by
    have p1 : 1 ≤ b.2 := p b List.mem_cons_self
    have pr : Pos1 r := fun x hx => p x (List.mem_cons_of_mem _ hx)
    have le := g.2.le pr
    have g1 := g.1
    have nn := total_nn pr
    rw [total_cons] at hv
    have ih := mem_genL n r (b.1 + b.2) (v - b.2) g.2 pr (fun x hx => hz x (List.mem_cons_of_mem _ hx)) (by simpa using hl) (by omega)
    refine List.mem_cons_of_mem _ (List.mem_flatMap.mpr ⟨b.1, mem_rangeI.mpr ⟨g1, by omega⟩, List.mem_flatMap.mpr ⟨b.2, hz b List.mem_cons_self, ?_⟩⟩)
    rw [if_pos ⟨le, by omega⟩]
    exact List.mem_map.mpr ⟨r, ih, rfl⟩
theorem lay_gen {G : Game} {zs : List Int} {c v : Int} {n : Nat} (k : OkG G) (hc : G.c ≤ c) (hz : ∀ z ∈ G.zs, z ∈ zs) (hm : G.m ≤ (n : Int)) (hv : G.v ≤ v) {L : Lay} (h : IsLay G L) : L ∈ genL zs n 0 c v :=
  mem_genL n L 0 v (h.go.wid hc) (h.pos k) (fun b hb => hz _ (h.zs b hb)) (by have := h.m; omega) (by have := h.v; omega)
/-! ### few of them, their hashes apart -/
theorem len_sub {α : Type} [DecidableEq α] : ∀ {l cs : List α}, l.Nodup → (∀ x ∈ l, x ∈ cs) → l.length ≤ cs.length
  | [], _, _, _ => Nat.zero_le _
  | x :: l, cs, nd, h => by
    rw [List.nodup_cons] at nd
    have hx := h x List.mem_cons_self
    have ih := len_sub (l := l) (cs := cs.erase x) nd.2 fun y hy => (List.mem_erase_of_ne (fun e => nd.1 (by rw [← e]; exact hy))).mpr (h y (List.mem_cons_of_mem _ hy))
    rw [List.length_erase_of_mem hx] at ih
    have := List.length_pos_of_mem hx
    rw [List.length_cons]
    omega
def hashL (L : Lay) : Int := reduceHash (Builtin.Tuple.tupleHashOf (L.map fun b => reduceHash (Builtin.Tuple.tupleHashOf [hashInt b.1, hashInt b.2])))
theorem hash_keyL (w : World) (L : Lay) : (keyL L).hash w = hashL L := by
  unfold keyL hashL
  rw [NestedKey.hash]
  have h : ∀ L : Lay, NestedKey.hashes w (L.map keyB) = L.map fun b => reduceHash (Builtin.Tuple.tupleHashOf [hashInt b.1, hashInt b.2]) := fun L => by
    induction L with
    | nil => rw [List.map_nil, NestedKey.hashes]; rfl
    | cons b L ih =>
      rw [List.map_cons, NestedKey.hashes, ih, List.map_cons]
      congr 1
  rw [h]
def hN (L : Lay) : Nat := (hashL L + 2 ^ 63).toNat
def ndN : List Nat → Bool
  | [] => true
  | x :: l => (l.all fun y => !Nat.beq x y) && ndN l
theorem nd_of_ndN : ∀ {l : List Nat}, ndN l = true → l.Nodup
  | [], _ => .nil
  | x :: l, h => by
    rw [ndN, Bool.and_eq_true, List.all_eq_true] at h
    refine List.nodup_cons.mpr ⟨fun hx => ?_, nd_of_ndN h.2⟩
    have := h.1 x hx
    have e : Nat.beq x x = true := Nat.beq_refl x
    rw [e] at this
    cases this
theorem small_of {G : Game} {cs : List Lay} (h : ∀ L, IsLay G L → L ∈ cs) (hn : cs.length ≤ 6000) : Small G := fun Ls nd hl => Nat.le_trans (len_sub nd fun L hL => h L (hl L hL)) hn
theorem nodup_map {α β : Type} {f : α → β} : ∀ {l : List α}, (∀ a ∈ l, ∀ b ∈ l, f a = f b → a = b) → l.Nodup → (l.map f).Nodup
  | [], _, _ => .nil
  | x :: l, h, nd => by
    rw [List.nodup_cons] at nd
    rw [List.map_cons, List.nodup_cons]
    refine ⟨fun hx => ?_, nodup_map (fun a ha b hb => h a (List.mem_cons_of_mem _ ha) b (List.mem_cons_of_mem _ hb)) nd.2⟩
    obtain ⟨y, hy, e⟩ := List.mem_map.mp hx
    exact nd.1 (by rw [← h y (List.mem_cons_of_mem _ hy) x List.mem_cons_self e]; exact hy)
theorem apart_of {w : World} {G : Game} {cs : List Lay} (h : ∀ L, IsLay G L → L ∈ cs) (hn : ndN (cs.map hN) = true) : Apart w G := fun Ls nd hl => by
  refine nodup_map (fun a ha b hb e => ?_) nd
  rw [hash_keyL, hash_keyL] at e
  exact nd_key (nd_of_ndN hn) (h a (hl a ha)) (h b (hl b hb)) (by unfold hN; rw [e])
theorem gen7 : (genL [1, 2, 3] 4 0 7 5).length ≤ 6000 ∧ ndN ((genL [1, 2, 3] 4 0 7 5).map hN) = true := by decide +kernel
theorem gen12_1 : (genL [1] 4 0 12 12).length ≤ 6000 ∧ ndN ((genL [1] 4 0 12 12).map hN) = true := by decide +kernel
theorem gen12_2 : (genL [2] 4 0 12 12).length ≤ 6000 ∧ ndN ((genL [2] 4 0 12 12).map hN) = true := by decide +kernel
theorem gen12_3 : (genL [3] 4 0 12 12).length ≤ 6000 ∧ ndN ((genL [3] 4 0 12 12).map hN) = true := by decide +kernel
theorem sa7 (w : World) {G : Game} (k : OkG G) (hc : G.c ≤ 7) (hv : G.v ≤ 5) : Small G ∧ Apart w G := by
  have h : ∀ L, IsLay G L → L ∈ genL [1, 2, 3] 4 0 7 5 := fun L hL => lay_gen k hc (fun z hz => by
    have := k.zs z hz
    have : z = 1 ∨ z = 2 ∨ z = 3 := by omega
    rcases this with rfl | rfl | rfl <;> simp) k.m.2 hv hL
  exact ⟨small_of h gen7.1, apart_of h gen7.2⟩
theorem sa12 (w : World) {G : Game} (k : OkG G) {z : Int} (hz : G.zs = [z]) : Small G ∧ Apart w G := by
  have h1 := k.zs z (by rw [hz]; simp)
  have h2 : z = 1 ∨ z = 2 ∨ z = 3 := by omega
  have h : ∀ L, IsLay G L → L ∈ genL [z] 4 0 12 12 := fun L hL => lay_gen k k.c.2 (fun y hy => by rw [hz] at hy; exact hy) k.m.2 k.v.2 hL
  rcases h2 with rfl | rfl | rfl
  · exact ⟨small_of h gen12_1.1, apart_of h gen12_1.2⟩
  · exact ⟨small_of h gen12_2.1, apart_of h gen12_2.2⟩
  · exact ⟨small_of h gen12_3.1, apart_of h gen12_3.2⟩
/-! ### seven cells serve all of them -/
def decN : Nat → Nat → Lay
  | 0, _ => []
  | n + 1, k => if k = 0 then [] else (((k % 32 / 4 : Nat) : Int), ((k % 4 : Nat) : Int)) :: decN n (k / 32)
def codeN : Lay → Nat
  | [] => 0
  | b :: r => codeN r * 32 + (b.1.toNat * 4 + b.2.toNat)
def inN (cs : List Nat) (o : Lay) : Bool := (cs.any fun k => Nat.beq k (codeN o)) && decide (decN 4 (codeN o) = o)
theorem inN_mem {cs : List Nat} {o : Lay} (h : inN cs o = true) : o ∈ cs.map (decN 4) := by
  unfold inN at h
  rw [Bool.and_eq_true, decide_eq_true_iff, List.any_eq_true] at h
  obtain ⟨⟨k, hk, e⟩, h2⟩ := h
  rw [← h2, ← Nat.eq_of_beq_eq_true e]
  exact List.mem_map.mpr ⟨k, hk, rfl⟩
def safeB (G : Game) (cs : List Nat) : Bool := inN cs [] && cs.all fun k => ((decN 4 k).all fun b => inN cs (dropS (decN 4 k) b.1)) && (wants G (decN 4 k)).all fun z => (freeS G.c (decN 4 k) z).any fun s => inN cs (insB (s, z) (decN 4 k))
theorem no_win_of {G : Game} {S : List Lay} (h0 : [] ∈ S) (hg : ∀ L ∈ S, ∀ b ∈ L, dropS L b.1 ∈ S) (hp : ∀ L ∈ S, ∀ z ∈ wants G L, ∃ s ∈ freeS G.c L z, insB (s, z) L ∈ S) : ¬ Win G [] := by
  have main : ∀ L, Win G L → L ∈ S → False := fun L hw => by
    induction hw with
    | @mk L m hm ho ih =>
      intro hL
      rcases mem_moves.mp hm with ⟨b, hb, rfl⟩ | ⟨z, hz, rfl⟩
      · exact ih _ (by simp [ledTo]) (hg L hL b hb)
      · obtain ⟨s, hs, h⟩ := hp L hL z hz
        exact ih _ (List.mem_map.mpr ⟨s, hs, rfl⟩) h
  exact fun hw => main [] hw h0
theorem no_win_safe {G : Game} {cs : List Nat} (h : safeB G cs = true) : ¬ Win G [] := by
  unfold safeB at h
  rw [Bool.and_eq_true, List.all_eq_true] at h
  refine no_win_of (S := cs.map (decN 4)) (inN_mem h.1) (fun L hL b hb => ?_) (fun L hL z hz => ?_)
  · obtain ⟨k, hk, rfl⟩ := List.mem_map.mp hL
    have := h.2 k hk
    rw [Bool.and_eq_true, List.all_eq_true] at this
    exact inN_mem (this.1 b hb)
  · obtain ⟨k, hk, rfl⟩ := List.mem_map.mp hL
    have := h.2 k hk
    rw [Bool.and_eq_true, List.all_eq_true, List.all_eq_true] at this
    obtain ⟨s, hs, h2⟩ := List.any_eq_true.mp (this.2 z hz)
    exact ⟨s, hs, inN_mem h2⟩
def cs7 : List Nat := [0, 1, 2, 3, 161, 193, 225, 290, 322, 354, 419, 451, 5, 9377, 10401, 11425, 6, 13505, 14529, 7, 17633, 9, 13602, 14626, 10, 17730, 11, 13, 17827, 14, 325, 357, 293, 289, 435361, 468129, 321, 698529, 353, 454, 486, 422, 417, 570561, 449, 583, 551, 545, 489, 425, 418, 832802, 457, 450, 618, 554, 546, 557, 547, 18757, 14629, 15653, 14625, 15649, 13605, 13601, 13473, 14497, 18753, 21829, 21825, 21665, 15, 18854, 19873, 17830, 17825, 17601, 18, 17, 19881, 18850, 26025, 26018, 25890, 19, 17729, 17826, 586, 581, 453, 485, 481, 421, 603429, 603425, 603297, 577, 682, 677, 673, 840865, 589, 582, 621, 609, 550, 705953, 617, 578, 813, 809, 832801, 802, 705857, 705954, 18593, 22981, 18853, 19877, 18857, 18725, 18849, 18721, 21, 21826, 21861, 21729, 26277, 26273, 25761, 23078, 22061, 22049, 21921, 25, 26019, 26089, 26017, 25889, 25922, 22058, 22050, 21922, 718, 709, 613, 585, 675, 674, 683, 679, 821, 805, 841029, 801, 840897, 829601, 721, 710, 689, 685, 701633, 803, 815, 832705, 833825, 810, 22, 22689, 18722, 21923, 26274, 26275, 25925, 25957, 26282, 25793, 25825, 26278, 21697, 25921, 23073, 22051, 21926, 26022, 26057, 26049, 707, 705, 730273, 841122, 811, 806, 807, 678, 738721, 814, 22721, 22821, 22817, 26285, 26054, 21958, 23085, 22945, 713, 841121, 686, 717, 22818, 21953, 22946, 706, 702625, 21957]
theorem top7 : ¬ Win ⟨7, [1, 2, 3], 4, 5⟩ [] := no_win_safe (cs := cs7) (by decide +kernel)
end K23
set_option maxHeartbeats 1000000
namespace K23
open PySem PySem.Spec PyProof.Rows L2 KSup NdefX StX
/-! ### the least number of cells -/
structure Least (ns : List Int) (m v c0 : Int) : Prop where
  pos : 1 ≤ c0
  below : ∀ c, 1 ≤ c → c < c0 → Win (mkG c ns m v) []
  at_ : ¬ Win (mkG c0 ns m v) []
theorem least_from {P : Int → Prop} : ∀ n : Nat, ¬ P ((n : Int) + 1) → ∃ c0 : Int, 1 ≤ c0 ∧ c0 ≤ (n : Int) + 1 ∧ (∀ c, 1 ≤ c → c < c0 → P c) ∧ ¬ P c0
  | 0, h => ⟨1, by omega, by omega, fun c h1 h2 => by omega, h⟩
  | n + 1, h => by
    by_cases h1 : ∃ k : Nat, k ≤ n ∧ ¬ P ((k : Int) + 1)
    · obtain ⟨k, hk, h2⟩ := h1
      have hk' : k < n + 1 := by omega
      obtain ⟨c0, a1, a2, a3⟩ := least_from k h2
      exact ⟨c0, a1, by omega, a3⟩
    · refine ⟨((n + 1 : Nat) : Int) + 1, by omega, by omega, fun c c1 c2 => ?_, h⟩
      by_cases hp : P c
      · exact hp
      · refine absurd ⟨(c - 1).toNat, by omega, ?_⟩ h1
        rw [show (((c - 1).toNat : Nat) : Int) + 1 = c by omega]
        exact hp
theorem least_ex {ns : List Int} {m v : Int} (fr : Fr ns m v) (hv : v ≤ 5) : ∃ c0, c0 ≤ 7 ∧ Least ns m v c0 := by
  have l : Less (mkG 7 ns m v) ⟨7, [1, 2, 3], 4, 5⟩ := ⟨rfl, fun z hz => (List.mem_filter.mp hz).1, fr.m.2, hv⟩
  have k := fr.ok (c := 7) (by omega)
  have h7 : ¬ Win (mkG 7 ns m v) [] := fun h => top7 (win_less k l h (isLay_nil k))
  obtain ⟨c0, h1, h2, h3, h4⟩ := least_from (P := fun c => Win (mkG c ns m v) []) 6 h7
  exact ⟨c0, by omega, h1, h3, h4⟩
theorem mkG_wid {c d m v : Int} {ns : List Int} (h : c ≤ d) : Wid (mkG c ns m v) (mkG d ns m v) := ⟨h, rfl, rfl, rfl⟩
theorem Least.le_iff {ns : List Int} {m v c0 c : Int} (h : Least ns m v c0) (hc : 1 ≤ c) : c0 ≤ c ↔ ¬ Win (mkG c ns m v) [] := by
  constructor
  · exact fun h1 hw => h.at_ (win_wid (mkG_wid h1) hw)
  · intro hn
    by_cases h1 : c < c0
    · exact absurd (h.below c hc h1) hn
    · omega
theorem Least.le {ns ns' : List Int} {m v m' v' f0 l0 : Int} (h' : Least ns' m' v' f0) (h : Least ns m v l0) (fr : Fr ns' m' v') (hl : l0 ≤ 12) (l : Less (mkG l0 ns' m' v') (mkG l0 ns m v)) : f0 ≤ l0 := by
  by_cases h1 : l0 < f0
  · have k := fr.ok (c := l0) ⟨h.pos, hl⟩
    exact absurd (win_less k l (h'.below l0 h.pos h1) (isLay_nil k)) h.at_
  · omega
/-! ### one size -/
theorem no_win_P {G : Game} {S : Lay → Prop} (h0 : S []) (hg : ∀ L, S L → ∀ b ∈ L, S (dropS L b.1)) (hp : ∀ L, S L → ∀ z ∈ wants G L, ∃ s ∈ freeS G.c L z, S (insB (s, z) L)) : ¬ Win G [] := by
  have main : ∀ L, Win G L → S L → False := fun L hw => by
    induction hw with
    | @mk L m hm ho ih =>
      intro hL
      rcases mem_moves.mp hm with ⟨b, hb, rfl⟩ | ⟨z, hz, rfl⟩
      · exact ih _ (by simp [ledTo]) (hg L hL b hb)
      · obtain ⟨s, hs, h⟩ := hp L hL z hz
        exact ih _ (List.mem_map.mpr ⟨s, hs, rfl⟩) h
  exact fun hw => main [] hw h0
theorem mem_free_of {c z s : Int} : ∀ {L : Lay} {t : Int}, t ≤ s → s + z ≤ c → (∀ b ∈ L, b.1 + b.2 ≤ s ∨ s + z ≤ b.1) → s ∈ freeGo z t (L ++ [(c, 0)])
  | [], t, h1, h2, _ => by
    have : s ∈ rangeI t (c - z + 1) := mem_rangeI.mpr ⟨h1, by omega⟩
    simpa [freeGo] using this
  | b :: r, t, h1, h2, h3 => by
    rw [List.cons_append, freeGo, List.mem_append]
    rcases h3 b List.mem_cons_self with h | h
    · exact .inr (mem_free_of h h2 fun x hx => h3 x (List.mem_cons_of_mem _ hx))
    · exact .inl (mem_rangeI.mpr ⟨h1, by omega⟩)
theorem total_le {c : Int} : ∀ {L : Lay} {t : Int}, LayGo c t L → t + total L ≤ c
  | [], t, g => by
    show t + 0 ≤ c
    have : t ≤ c := g
    omega
  | b :: r, t, g => by
    rw [total_cons]
    have := total_le g.2
    have := g.1
    omega
theorem total_one {z : Int} : ∀ {L : Lay}, (∀ b ∈ L, b.2 = z) → total L = z * L.length
  | [], _ => by simp [total]
  | b :: r, h => by
    rw [total_cons, h b List.mem_cons_self, total_one fun x hx => h x (List.mem_cons_of_mem _ hx), List.length_cons]
    rw [show ((r.length + 1 : Nat) : Int) = (r.length : Int) + 1 by omega, Int.mul_add]
    omega
theorem canon_one {z : Int} {ns : List Int} (h1 : 1 ≤ z ∧ z ≤ 3) (h2 : ∀ n, n ∈ ns ↔ n = z) : canon ns = [z] := by
  refine (canon_of (ns := ns) (zs := [z]) (fun n hn => by rw [(h2 n).mp hn]; exact h1) (by simp) fun k => ?_).symm
  rw [List.mem_singleton, h2]
theorem mult_apart {z i j : Int} (hz : 1 ≤ z) (h : i ≠ j) : z * i + z ≤ z * j ∨ z * j + z ≤ z * i := by
  rcases Int.lt_or_gt_of_ne h with h | h
  · left
    have := Int.mul_le_mul_of_nonneg_left (show i + 1 ≤ j by omega) (show 0 ≤ z by omega)
    rw [Int.mul_add, Int.mul_one] at this
    exact this
  · right
    have := Int.mul_le_mul_of_nonneg_left (show j + 1 ≤ i by omega) (show 0 ≤ z by omega)
    rw [Int.mul_add, Int.mul_one] at this
    exact this
theorem slot_free {z : Int} (hz : 1 ≤ z) {k : Nat} {L : Lay} (h : L.length < k) : ∃ j : Nat, j < k ∧ ∀ b ∈ L, b.1 ≠ z * j := by
  by_cases q : ∃ j : Nat, j < k ∧ ∀ b ∈ L, b.1 ≠ z * j
  · exact q
  · have hs : ∀ x ∈ (List.range k).map (fun j : Nat => z * (j : Int)), x ∈ L.map (·.1) := fun x hx => by
      obtain ⟨j, hj, rfl⟩ := List.mem_map.mp hx
      by_cases q2 : z * (j : Int) ∈ L.map (·.1)
      · exact q2
      · exact absurd ⟨j, List.mem_range.mp hj, fun b hb e => q2 (List.mem_map.mpr ⟨b, hb, e⟩)⟩ q
    have hn : ((List.range k).map (fun j : Nat => z * (j : Int))).Nodup := nodup_map (fun a _ b _ e => by
      have := Int.eq_of_mul_eq_mul_left (show z ≠ 0 by omega) e
      omega) List.nodup_range
    have := len_sub hn hs
    rw [List.length_map, List.length_map, List.length_range] at this
    omega
theorem least_one {z m v : Int} {ns : List Int} (hz : 1 ≤ z ∧ z ≤ 3) (hn : ∀ n, n ∈ ns ↔ n = z) (hm : 1 ≤ m ∧ m ≤ 4) (hv : 1 ≤ v ∧ v ≤ 12) : Least ns m v (max 1 (z * min m (v / z))) ∧ max 1 (z * min m (v / z)) ≤ 12 := by
  have hcan := canon_one hz hn
  have e1 : ∀ c, mkG c ns m v = ⟨c, [z], m, v⟩ := fun c => by unfold mkG; rw [hcan]
  have okG : ∀ c, 1 ≤ c → c ≤ 12 → OkG ⟨c, [z], m, v⟩ := fun c h1 h2 => ⟨⟨h1, h2⟩, fun y hy => by rw [List.mem_singleton] at hy; rw [hy]; exact hz, by simp, hm, hv⟩
  have hdv : z * (v / z) ≤ v := Int.mul_ediv_self_le (by omega)
  have hdv2 : v < z * (v / z) + z := Int.lt_mul_ediv_self_add (by omega)
  have hq0 : 0 ≤ v / z := Int.ediv_nonneg (by omega) (by omega)
  generalize v / z = q at hdv hdv2 hq0 ⊢
  have hk : z * min m q ≤ v := Int.le_trans (Int.mul_le_mul_of_nonneg_left (Int.min_le_right _ _) (by omega)) hdv
  have hkm : min m q ≤ m := Int.min_le_left _ _
  have hkq : min m q ≤ q := Int.min_le_right _ _
  have hk0 : 0 ≤ min m q := by omega
  have hkk : min m q = m ∨ min m q = q := by omega
  generalize min m q = k at hk hkm hkq hk0 hkk ⊢
  by_cases hk1 : k = 0
  · subst hk1
    have hq : q = 0 := by omega
    subst hq
    rw [Int.mul_zero]
    refine ⟨⟨by decide, fun c h1 h2 => absurd h2 (by show ¬ c < 1; omega), ?_⟩, by decide⟩
    rw [e1]
    refine no_win_P (S := fun L => L = []) rfl (fun L hL b hb => by subst hL; cases hb) (fun L hL y hy => ?_)
    subst hL
    obtain ⟨_, h2, h3⟩ := mem_wants.mp hy
    have h2' : y = z := List.mem_singleton.mp h2
    have h3' : (0 : Int) + y ≤ v := h3
    omega
  · have hzk : 1 ≤ z * k := by
      have := Int.mul_le_mul_of_nonneg_left (show 1 ≤ k by omega) (show 0 ≤ z by omega)
      rw [Int.mul_one] at this
      omega
    rw [show max 1 (z * k) = z * k by omega]
    have hc12 : z * k ≤ 12 := by omega
    have sizes : ∀ {c : Int} {L : Lay}, IsLay ⟨c, [z], m, v⟩ L → ∀ b ∈ L, b.2 = z := fun h b hb => List.mem_singleton.mp (h.zs b hb)
    refine ⟨⟨hzk, fun c h1 h2 => ?_, ?_⟩, hc12⟩
    · rw [e1]
      have k' := okG c h1 (by omega)
      have main : ∀ n : Nat, ∀ L : Lay, IsLay ⟨c, [z], m, v⟩ L → k - L.length = (n : Int) → Win ⟨c, [z], m, v⟩ L := fun n => by
        induction n with
        | zero =>
          intro L hL hn
          have t1 : 0 + total L ≤ c := total_le hL.go
          rw [total_one (sizes hL), show (L.length : Int) = k by omega] at t1
          omega
        | succ n ih =>
          intro L hL hn
          have hw : z ∈ wants ⟨c, [z], m, v⟩ L := by
            refine mem_wants.mpr ⟨?_, List.mem_singleton.mpr rfl, ?_⟩
            · show (L.length : Int) ≠ m
              omega
            · show total L + z ≤ v
              rw [total_one (sizes hL)]
              have := Int.mul_le_mul_of_nonneg_left (show (L.length : Int) + 1 ≤ k by omega) (show 0 ≤ z by omega)
              rw [Int.mul_add, Int.mul_one] at this
              omega
          refine .mk (.want z) (mem_moves.mpr (.inr ⟨z, hw, rfl⟩)) fun o ho => ?_
          obtain ⟨s, hs, rfl⟩ := List.mem_map.mp (show o ∈ (freeS c L z).map _ from ho)
          exact ih _ (hL.put k' hw hs) (by rw [length_insB]; omega)
      exact main k.toNat [] (isLay_nil k') (by show k - ((0 : Nat) : Int) = _; omega)
    · rw [e1]
      have k' := okG (z * k) hzk hc12
      refine no_win_P (S := fun L => IsLay ⟨z * k, [z], m, v⟩ L ∧ ∀ b ∈ L, ∃ j : Int, b.1 = z * j) ⟨isLay_nil k', fun b hb => nomatch hb⟩ (fun L hL b hb => ⟨hL.1.give k', fun x hx => hL.2 x (List.mem_filter.mp hx).1⟩) (fun L hL y hy => ?_)
      obtain ⟨h1, h2, h3⟩ := mem_wants.mp hy
      have h2' : y = z := List.mem_singleton.mp h2
      subst h2'
      have h3' : total L + y ≤ v := h3
      rw [total_one (sizes hL.1)] at h3'
      have hlen : (L.length : Int) < k := by
        have h1' : (L.length : Int) ≠ m := h1
        have h4 : (L.length : Int) ≤ m := hL.1.m
        have h5 : (L.length : Int) < q := by
          by_cases h6 : (L.length : Int) < q
          · exact h6
          · have := Int.mul_le_mul_of_nonneg_left (show q ≤ (L.length : Int) by omega) (show 0 ≤ y by omega)
            omega
        omega
      obtain ⟨j, hj, hfree⟩ := slot_free (z := y) (k := k.toNat) (L := L) hz.1 (by omega)
      have hfit : y * (j : Int) + y ≤ y * k := by
        have := Int.mul_le_mul_of_nonneg_left (show (j : Int) + 1 ≤ k by omega) (show 0 ≤ y by omega)
        rw [Int.mul_add, Int.mul_one] at this
        exact this
      have hin : y * (j : Int) ∈ freeS (y * k) L y := mem_free_of (Int.mul_nonneg (by omega) (by omega)) hfit fun b hb => by
        obtain ⟨i, hi⟩ := hL.2 b hb
        rw [sizes hL.1 b hb, hi]
        exact mult_apart hz.1 fun e => hfree b hb (by rw [hi, e])
      refine ⟨_, hin, hL.1.put k' hy hin, fun b hb => ?_⟩
      rcases (mem_insB _ _ _).mp hb with rfl | hb
      · exact ⟨j, rfl⟩
      · exact hL.2 b hb
/-! ### one block -/
theorem least_single {v c0 : Int} {ns : List Int} (fr : Fr ns 1 v) (h1 : 1 ≤ c0) (h2 : c0 = 1 ∨ (c0 ∈ ns ∧ c0 ≤ v)) (h3 : ∀ z ∈ ns, z ≤ v → z ≤ c0) : Least ns 1 v c0 := by
  refine ⟨h1, fun c a1 a2 => ?_, ?_⟩
  · rcases h2 with rfl | ⟨b1, b2⟩
    · omega
    · have hw : c0 ∈ wants (mkG c ns 1 v) [] := mem_wants.mpr ⟨by show ((0 : Nat) : Int) ≠ 1; omega, (mem_canon fr.z).mpr b1, by show (0 : Int) + c0 ≤ v; omega⟩
      refine .mk (.want c0) (mem_moves.mpr (.inr ⟨c0, hw, rfl⟩)) fun o ho => ?_
      obtain ⟨s, hs, _⟩ := List.mem_map.mp (show o ∈ (freeS c [] c0).map _ from ho)
      have hs' : s ∈ rangeI 0 (c - c0 + 1) := by simpa [freeS, freeGo] using hs
      have := mem_rangeI.mp hs'
      omega
  · refine no_win_P (S := fun L => L = [] ∨ ∃ z, L = [(0, z)]) (.inl rfl) (fun L hL b hb => ?_) (fun L hL y hy => ?_)
    · rcases hL with rfl | ⟨z, rfl⟩
      · cases hb
      · rw [List.mem_singleton] at hb
        subst hb
        exact .inl (by simp [dropS])
    · obtain ⟨w1, w2, w3⟩ := mem_wants.mp hy
      rcases hL with rfl | ⟨z, rfl⟩
      · have hy1 := h3 y ((mem_canon fr.z).mp w2) (by have : (0 : Int) + y ≤ v := w3; omega)
        refine ⟨0, mem_free_of (Int.le_refl _) (by show 0 + y ≤ c0; omega) (fun b hb => nomatch hb), .inr ⟨y, rfl⟩⟩
      · exact absurd rfl w1
end K23
set_option maxHeartbeats 2000000
namespace BoolO
open PySem PySem.Spec PyProof.Rows
open PySem.Sem (wp)
theorem bool_in {prog : Program} {w : World} (x : Value) : MeetsIn prog w (Builtin.«bool.__new__» ⟨[.type "bool", x], []⟩) (fun A R s => wpAny (model prog w) A.in1 (truthy x) (fun b s' => R (.ok (.ret (.bool b))) s') (fun e s' => R (.error e) s') s) :=
  .of_wp fun A R s hs => by
    have f1 := F.conv_sub_bool
    obtain ⟨hp, g, d, tk, os⟩ := s
    repeat (any_goals (first | assumption | (with_reducible refine wpAny_bind (wpAny_mono hs (fun b s' h => ?_) fun _ _ h => h)) | wp_step))
    all_goals exact ⟨_, rfl, h⟩
theorem call_bool_any {prog : Program} {w : World} {A : Around} {E : Value → Shared → Prop} {s : Shared} {x : Value} {Q : Value → Shared → Prop} (h : wpAny (model prog w) A.in1.in1 (truthy x) (fun b s' => Q (.bool b) s') E s) : wpAny (model prog w) A (call (.type "bool") [x]) Q E s :=
  callType_newIn F.called_bool F.newNe_bool (F.typeCall_bool_1 x) (F.newCall_bool_1 x) (fun obj => F.args_object_init_2 obj x) F.entry_bool_new (bool_in x) (wpAny_mono h (fun b s' q => ⟨by rfl, q⟩) fun _ _ q => q)
end BoolO
namespace KSup
open PySem PySem.Spec PyProof.Rows L2
section
variable {X : Cx} {CX : CXT} {k : Nat} {f : Addr} {sp : Sp} {E : XK}
/-- bool(x) of an instance whose class has its __bool__ at one of two defs -/
def rBoolO (K : PySem.W.Frag) (f1 f2 : Addr) (sp1 sp2 : Sp) (E : XK) : List V → Hp → VK → Prop := fun xs H Q => ∃ x a C dx fs, xs = [x] ∧ x = .ref a ∧ H a = some (.ins C dx fs) ∧
  ((BoolC K C f1 ∧ sp1 [x] H (fun v H' => ∃ r, v = .bl r ∧ Q (.bl r) H') E) ∨ (BoolC K C f2 ∧ sp2 [x] H (fun v H' => ∃ r, v = .bl r ∧ Q (.bl r) H') E))
theorem call_boolO {f1 f2 : Addr} {sp1 sp2 : Sp} (F1 : FnR X.prog X.w X.K X.mg X.base CX k f1 sp1) (F2 : FnR X.prog X.w X.K X.mg X.base CX k f2 sp2) (hr : Room (k + 2) X.A) (hx : Passes CX X E) : CallR X (.type "bool") (rBoolO X.K f1 f2 sp1 sp2 E) := by
  intro pins s σ H vs us Q I r h
  obtain ⟨x, a, C, dx, fs, rfl, rfl, ea, q⟩ := h
  rw [Vals.ref1 r]
  obtain ⟨mA, O, _⟩ := ins_get I.hok ea
  obtain ⟨od, J, _⟩ := O.look
  obtain ⟨m, hF⟩ := I.fr
  refine BoolO.call_bool_any ?_
  rcases q with ⟨bc, hsp⟩ | ⟨bc, hsp⟩
  · refine PySem.W.truthy_K hF I.ok.mod.kin J bc.bl bc.fn ?_
    refine thn (own_run F1 hr.in1.in1 rfl hx I (us := [Value.ref a]) (vs := [V.ref a]) (.cons rfl .nil) hsp) fun v s' ⟨y, H', I', ry, r, e, q⟩ => ?_
    subst e
    cases ry
    exact ⟨V.bl r, H', I', rfl, q⟩
  · refine PySem.W.truthy_K hF I.ok.mod.kin J bc.bl bc.fn ?_
    refine thn (own_run F2 hr.in1.in1 rfl hx I (us := [Value.ref a]) (vs := [V.ref a]) (.cons rfl .nil) hsp) fun v s' ⟨y, H', I', ry, r, e, q⟩ => ?_
    subst e
    cases ry
    exact ⟨V.bl r, H', I', rfl, q⟩
end
end KSup
namespace K23
open PySem PySem.Spec PyProof.Rows L2 KSup NdefX StX
section
variable {P : Program} {w : World} {K : PySem.W.Frag} {mg : Str → Option Value} {base : Heap} {f : Addr} {fd : FuncData}
def spT : Sp := fun vs H Q _ => ∃ v, vs = [v] ∧ Q (.bl true) H
def spF : Sp := fun vs H Q _ => ∃ v, vs = [v] ∧ Q (.bl false) H
theorem ok_pbool (F : FnM K "__bool__" "Paper.__bool__" sPBool f fd) : FnOk P w K mg base CX0 1 f fd ["self"] spT := by
  refine F.ok scPBool (fun vs H Q E h => ?_) (fun cdv A outer s H vs Q E hr h => ?_)
  · obtain ⟨v, rfl, _⟩ := h
    rfl
  · obtain ⟨v, rfl, hq⟩ := h
    exact ⟨_, PSs.nox (pss_one (ps_ret pe_bl)), hq⟩
theorem ok_dbool (F : FnM K "__bool__" "Denial.__bool__" sDBool f fd) : FnOk P w K mg base CX0 1 f fd ["self"] spF := by
  refine F.ok scDBool (fun vs H Q E h => ?_) (fun cdv A outer s H vs Q E hr h => ?_)
  · obtain ⟨v, rfl, _⟩ := h
    rfl
  · obtain ⟨v, rfl, hq⟩ := h
    exact ⟨_, PSs.nox (pss_one (ps_ret pe_bl)), hq⟩
end
end K23
set_option maxHeartbeats 1000000
namespace K23
open PySem PySem.Spec PyProof.Rows L2 KSup NdefX StX
/-! ### f(k = v, ..), and is of ints and bools -/
def tCallK (m : Nat) (sp : Sp) (gV : List V → List V → List V) (E : XK) (tk : TA) : TE := fun σ H Q => tk σ H fun zs H2 => zs.length = m ∧ sp (gV [] zs) H2 Q E
section
variable {X : Cx} {CX : CXT} {k : Nat} {f : Addr} {fd : FuncData} {ps ks : List Str} {sp : Sp} {E : XK} {x : Str} {p pos : Pos} {kws : List Keyword} {tk : TA} {g : List Value → List Value → List Value} {gV : List V → List V → List V}
theorem run_fnk {pins : List (Addr × Obj)} {σ : L2.St} {H : Hp} {s : Shared} {Q : VK} {ws : List Value} {zs : List V} (F : FnOk X.prog X.w X.K X.mg X.base CX k f fd ps sp) (hr : Room k X.A) (hb : KBn X.K fd ps 0 ks g gV) (hx : Passes CX X E)
    (I : Inv X pins σ H s) (rz : Vals zs ws) (l2 : zs.length = ks.length) (h : sp (gV [] zs) H Q E) : wpAny (model X.prog X.w) X.A (call (.ref f) [] (ks.zip ws)) (EP X pins σ Q) X.xe s := by
  have r2 := hb.rel (vs := []) (us := []) .nil rz
  refine wpAny_call (codeAny_mono (F.run X.A X.stack s H ⟨[], ks.zip ws⟩ (g [] ws) (gV [] zs) Q E hr I.env0 (hb.to s [] ws I.kIn rfl (rz.length.symm.trans l2)) r2 h) fun r s' hq => ?_)
  cases r with
  | error e => exact hx pins σ H s e s' I hq
  | ok fl =>
    cases fl with
    | ret u => exact I.after hq
    | next => exact False.elim hq
    | brk => exact False.elim hq
    | cont => exact False.elim hq
theorem pe_callK0 (F : FnOk X.prog X.w X.K X.mg X.base CX k f fd ps sp) (hr : Room k X.A) (hg : Gl X x) (hm : X.mg x = some (.ref f)) (hk : PySem.W.keepIn X.K (.ref f) = true) (hb : KBn X.K fd ps 0 ks g gV) (hx : Passes CX X E) (hkw : PK X kws tk)
    (hall : (backToKw pos (keywordEach kws X.env)).all (·.1.isSome) = true := by rfl) (hks : (backToKw pos (keywordEach kws X.env)).filterMap (·.1) = ks := by rfl) (hdb : (x == ("__debug__" : Str)) = false := by decide)
    (hpl : ((backTo pos (starEach [] X.env)).any (·.1) || (backToKw pos (keywordEach kws X.env)).any (·.1.isNone)) = false := by rfl) :
    PE X (.Call (.Name x p) [] kws pos) (tCallK ks.length sp gV E tk) := by
  refine ⟨fun pins s σ H Q I h => ?_⟩
  refine wpAny_Call_Name_kw (ld_glob I hg hm ?_ hdb)
  refine PySem.W.callWith_KW0 (h₀ := X.base) I.ok.mod.kin hk hall ?_ hpl
  refine thn (hkw.run pos pins s σ H _ I h) fun ws s2 ⟨zs, H2, I2, rz, l2, q2⟩ => ⟨I2.kIn, ?_⟩
  rw [hks]
  exact run_fnk F hr hb hx I2 rz l2 q2
end
section
variable {P : Program} {w : World} {K : PySem.W.Frag} {mg : Str → Option Value} {base : Heap} {f : Addr} {fd : FuncData}
def perm4 {α : Type} : List α → List α
  | [v, m, s, c] => [c, s, m, v]
  | _ => []
theorem seats_k (F : FunD K "seats" "seats" (defArgs sSeats) (defBody sSeats) (defScope sSeats) [] [] f fd) : KBn K fd ["cells", "sizes", "many", "live"] 0 ["live", "many", "sizes", "cells"] (fun us ws => perm4 ws) (fun vs zs => perm4 zs) := by
  obtain ⟨oc, od, dV, kV, doc, pm, an, cdv, ct, osl, rfl, lk, hcd, hD, hK⟩ := F.ex
  rcases hD with ⟨_, rfl⟩ | ⟨h, _⟩
  · refine ⟨fun s us ws X l1 l2 => ?_, fun h1 h3 => ?_⟩
    · match us, l1, ws, l2 with
      | [], _, [a, b, c, d], _ => exact BindsTo.of_eq rfl
    · cases h3 with
      | nil => exact .nil
      | cons a h3 => cases h3 with
        | nil => exact .nil
        | cons b h3 => cases h3 with
          | nil => exact .nil
          | cons c h3 => cases h3 with
            | nil => exact .nil
            | cons d h3 => cases h3 with
              | nil => exact .cons d (.cons c (.cons b (.cons a .nil)))
              | cons e h3 => exact .nil
  · exact absurd rfl h
end
end K23
set_option maxHeartbeats 1000000
namespace LamD
open PySem PySem.Spec PyProof.Rows L2 LamX
def lamDSB (N : List Str) (sc scope : Scope) : Bool :=
  decide (scope.kind = .function) && !scope.isCoroutine && !scope.isGenerator && scope.names.all fun y => !decide (y.2 = .cell) && (!decide (y.2 = .local) || decide (y.1 ∉ N)) && (!decide (y.2 = .free) || decide (sc.names.lookup y.1 = some .cell) || decide (sc.names.lookup y.1 = some .free))
theorem lamDS_by {N : List Str} {sc scope : Scope} (h : lamDSB N sc scope = true) : LamDS N sc scope := by
  unfold lamDSB at h
  simp only [Bool.and_eq_true, Bool.or_eq_true, Bool.not_eq_true', decide_eq_true_eq, decide_eq_false_iff_not, List.all_eq_true] at h
  obtain ⟨⟨⟨h1, h2⟩, h3⟩, h4⟩ := h
  refine ⟨h1, h2, h3, fun y hy => (h4 y hy).1.1, fun y hy e => ?_, fun y hy e => ?_⟩
  · rcases (h4 y hy).1.2 with z | z
    · exact absurd e z
    · exact z
  · rcases (h4 y hy).2 with (z | z) | z
    · exact absurd e z
    · exact .inl z
    · exact .inr z
end LamD
namespace K23
open PySem PySem.Spec PyProof.Rows L2 KSup NdefX StX KNest LamX
/-- what stands of the module and its classes -/
structure Lw (P : Program) (w : World) (K : PySem.W.Frag) (mg : Str → Option Value) (base : Heap) (CS CF CG fS fF fT fN : Addr) : Prop where
  kb : KitS K CS CF
  bl : Bl mg
  mk1 : Mk K CS fS
  mk2 : Mk K CF fF
  in1 : FnR P w K mg base CX0 8 fS (spRInit K CS "served" 5)
  in2 : FnR P w K mg base CX0 8 fF (spRInit K CF "forced" 5)
  mS : mg "Served" = some (.ref CS)
  mF : mg "Forced" = some (.ref CF)
  mG : mg "GoneError" = some (.ref CG)
  bt : FnR P w K mg base CX0 1 fT spT
  bf : FnR P w K mg base CX0 1 fN spF
  bcS : BoolC K CS fT
  bcF : BoolC K CF fN
/-- a def of the module: its contract, and how it is called -/
structure Df (P : Program) (w : World) (K : PySem.W.Frag) (mg : Str → Option Value) (base : Heap) (k : Nat) (x : Str) (ps : List Str) (sp : Sp) (f : Addr) (fd : FuncData) : Prop where
  ok : FnOk P w K mg base CX0 k f fd ps sp
  kp : PySem.W.keepIn K (.ref f) = true
  bi : Binds K fd ps []
  m : mg x = some (.ref f)
def rLenK (K : PySem.W.Frag) : List V → Hp → VK → Prop := fun xs H Q => ∃ p ys, xs = [V.ref p] ∧ (SqL K H p ys ∨ SqT K H p ys) ∧ Q (.int ys.length) H
theorem okC {K : PySem.W.Frag} {x qual : Str} {params : Arguments} {body : List Stmt} {scope : Scope} {dvs : List V} {kws : List (Str × V)} {f : Addr} {fd : FuncData} {P : Program} {w : World} {mg : Str → Option Value} {base : Heap} {CX : CXT} {N ps : List Str} {k : Nat} {sp : Sp} (F : FunD K x qual params body scope dvs kws f fd) (S : FnScope N ps scope) (len : ∀ vs H Q E, sp vs H Q E → vs.length = ps.length)
    (hbody : ∀ (A : Around) (outer : List Env) (s : Shared) (H : Hp) (vs : List V) (Q : VK) (E : XK), Room k (A.deeper (envOfC qual scope s.heap.objs.size f fd.code)) → sp vs H Q E →
      ∃ t, PSs (cxOf CX P w K mg base N qual scope f fd.code A outer s H E) body t ∧ t { nx := fun _ H' => Q .non H', rt := Q } (start N vs) H) : FnOk P w K mg base CX (k + 1) f fd ps sp := by
  obtain ⟨oc, od, dV, kV, doc, pm, an, cdv, ct, osl, rfl, lk, hcd, _, _⟩ := F.ex
  exact fn_of lk hcd S len fun A outer s H vs Q E hr hsp => hbody A outer s H vs Q E hr hsp
abbrev QL : Str := "law" ++ ".<locals>." ++ "<lambda>"
def spLaw (K : PySem.W.Frag) (Pt : Addr) : Sp := fun vs H Q _ => ∃ (a : Addr) (ns : List Int), vs = [.ref a] ∧ SqL K H a (ns.map V.int) ∧ H Pt = some (.tbl #[]) ∧ ∀ H', Q (.bl true) H'
end K23
namespace K23
open PySem PySem.Spec PyProof.Rows L2
/-- the scope of the comprehension of foreign rows -/
def scForeign : Scope := { kind := .function, names := [(".0", .local), ("row", .local), ("len", .globalImplicit), ("sum", .globalImplicit), ("less", .cell)], isGenerator := false, isCoroutine := false }
end K23
set_option maxHeartbeats 1000000
namespace K23
open PySem PySem.Spec PyProof.Rows L2 KSup NdefX StX KNest LamX
section
variable {P : Program} {w : World} {K : PySem.W.Frag} {mg : Str → Option Value} {base : Heap} {CS CF CG fS fF fT fN : Addr} {H H' : Hp} {p q sa Pt : Addr} {N N' c m v : Int} {ns : List Int}
theorem PenAt.same (s : Same H H') (h : PenAt H p q N) : PenAt H' p q N := by
  obtain ⟨cs, a1, b1, e1, e2, z⟩ := h
  exact ⟨cs, a1, b1, s _ _ e1, s _ _ e2, z⟩
theorem PenAt.lst (h : PenAt H p q N) : ∃ zs, H p = some (.lst zs) := let ⟨_, _, _, e, _⟩ := h; ⟨_, e⟩
theorem PenAt.pos (h : PenAt H p q N) : 0 ≤ N := let ⟨_, _, _, _, _, _, _, a, b, _⟩ := h; Int.le_trans a b
theorem tabs_but {T : List (Addr × Str)} (t : Tabs T H) (b : But p H H') (h : ∃ zs, H p = some (.lst zs)) : Tabs T H' := fun pr hp => by
  obtain ⟨zs, e⟩ := h
  obtain ⟨ps, h1, h2, h3⟩ := t pr hp
  refine ⟨ps, b _ _ (fun z => by rw [z, e] at h1; cases h1) h1, h2, fun pos cv hc => ?_⟩
  obtain ⟨c0, e1, e2⟩ := h3 pos cv hc
  exact ⟨c0, e1, b _ _ (fun z => by
    rw [z, e] at e2
    have e2' := Option.some.inj e2
    unfold CodeO at e2'
    cases e2') e2⟩
theorem tabs_same {T : List (Addr × Str)} (t : Tabs T H) (s : Same H H') : Tabs T H' := t.ext fun b o e => s b o e
/-- what stands in a turn -/
structure Tn (K : PySem.W.Frag) (H : Hp) (p q sa Pt : Addr) (N c m v : Int) (ns : List Int) : Prop where
  pen : PenAt H p q N
  s : H sa = some (.lst (ns.map V.int))
  sp : sa ≠ p
  fr : Fr ns m v
  c : 1 ≤ c ∧ c ≤ 6
  v : v ≤ 5
  tab : Tabs [(Pt, QL)] H
theorem Tn.same (h : Tn K H p q sa Pt N c m v ns) (s : Same H H') : Tn K H' p q sa Pt N c m v ns := ⟨h.pen.same s, s _ _ h.s, h.sp, h.fr, h.c, h.v, tabs_same h.tab s⟩
theorem Tn.but (h : Tn K H p q sa Pt N c m v ns) (b : But p H H') (pn : PenAt H' p q N') : Tn K H' p q sa Pt N' c m v ns := ⟨pn, b _ _ h.sp h.s, h.sp, h.fr, h.c, h.v, tabs_but h.tab b h.pen.lst⟩
theorem Tn.ok (h : Tn K H p q sa Pt N c m v ns) : OkG (mkG c ns m v) := h.fr.ok ⟨h.c.1, by have := h.c.2; omega⟩
/-- the lesser game -/
structure Ls (K : PySem.W.Frag) (H : Hp) (p ta sb : Addr) (m' v' : Int) (ns' : List Int) (m v : Int) (ns : List Int) : Prop where
  t : SqT K H ta [.ref sb, .int m', .int v']
  s : H sb = some (.lst (ns'.map V.int))
  sp : sb ≠ p
  fr : Fr ns' m' v'
  sub : ∀ n ∈ ns', n ∈ ns
  m : m' ≤ m
  v : v' ≤ v
section
variable {ta sb : Addr} {m' v' : Int} {ns' : List Int}
theorem Ls.same (h : Ls K H p ta sb m' v' ns' m v ns) (s : Same H H') : Ls K H' p ta sb m' v' ns' m v ns := ⟨sqT_same s h.t, s _ _ h.s, h.sp, h.fr, h.sub, h.m, h.v⟩
theorem Ls.but (h : Ls K H p ta sb m' v' ns' m v ns) (b : But p H H') (l : ∃ zs, H p = some (.lst zs)) : Ls K H' p ta sb m' v' ns' m v ns := by
  obtain ⟨zs, e⟩ := l
  exact ⟨sqT_kp (ex := [p]) (but_kp b (by simp)) (fun x hx => by rw [List.mem_singleton] at hx; subst hx; exact noTup_lst e) h.t, b _ _ h.sp h.s, h.sp, h.fr, h.sub, h.m, h.v⟩
theorem Ls.less (h : Ls K H p ta sb m' v' ns' m v ns) (fr : Fr ns m v) (c : Int) : Less (mkG c ns' m' v') (mkG c ns m v) := ⟨rfl, fun z hz => (mem_canon fr.z).mpr (h.sub z ((mem_canon h.fr.z).mp hz)), h.m, h.v⟩
end
theorem IsR.but {C x : Addr} {u : Str} {d : PyData} (t : tupOnly d = true) (h : IsR K H C x u d) (b : But p H H') (l : ∃ zs, H p = some (.lst zs)) : IsR K H' C x u d := by
  obtain ⟨zs, e1⟩ := l
  obtain ⟨dx, vv, r, e, hd⟩ := h
  exact ⟨dx, vv, r, b _ _ (fun z => by rw [z, e1] at e; cases e) e, dp_kp (ex := [p]) (but_kp b (by simp)) (fun x hx => by rw [List.mem_singleton] at hx; subst hx; exact noTup_lst e1) t hd⟩
/-- what seats tells of G: a Served (b), or a Forced -/
inductive IsSeat (w : World) (K : PySem.W.Frag) (H : Hp) (CS CF x : Addr) (G : Game) : Bool → Prop
  | sv : ¬ Win G [] → IsSv w K H CS x G → IsSeat w K H CS CF x G true
  | fo : Win G [] → IsFo w K H CF x G → IsSeat w K H CS CF x G false
theorem tup_encS (rows : List SRow) : tupOnly (.tuple (rows.map encS)) = true := by rw [tupOnly]; exact tupAll_map tupOnly_encS _
theorem tup_encF (rows : List RRow) : tupOnly (.tuple (rows.map encF)) = true := by rw [tupOnly]; exact tupAll_map tupOnly_encF _
theorem IsSeat.same {x : Addr} {G : Game} {b : Bool} (h : IsSeat w K H CS CF x G b) (s : Same H H') : IsSeat w K H' CS CF x G b := by
  cases h with
  | sv h1 h2 =>
    obtain ⟨rs, rows, Vs, a, z⟩ := h2
    exact .sv h1 ⟨rs, rows, Vs, a.same s, z⟩
  | fo h1 h2 =>
    obtain ⟨rs, rows, a, z⟩ := h2
    exact .fo h1 ⟨rs, rows, a.same s, z⟩
theorem IsSeat.but {x : Addr} {G : Game} {b : Bool} (h : IsSeat w K H CS CF x G b) (bt : But p H H') (l : ∃ zs, H p = some (.lst zs)) : IsSeat w K H' CS CF x G b := by
  cases h with
  | sv h1 h2 =>
    obtain ⟨rs, rows, Vs, a, z⟩ := h2
    exact .sv h1 ⟨rs, rows, Vs, a.but (tup_encS _) bt l, z⟩
  | fo h1 h2 =>
    obtain ⟨rs, rows, a, z⟩ := h2
    exact .fo h1 ⟨rs, rows, a.but (tup_encF _) bt l, z⟩
theorem IsSeat.iff {x : Addr} {G : Game} {b : Bool} (h : IsSeat w K H CS CF x G b) : b = true ↔ ¬ Win G [] := by
  cases h with
  | sv h1 _ => exact ⟨fun _ => h1, fun _ => rfl⟩
  | fo h1 _ => exact ⟨(fun h => nomatch h), fun h => absurd h1 h⟩
theorem ret_seat {x : Addr} {G : Game} (h : (Win G [] ∧ IsFo w K H CF x G) ∨ (¬ Win G [] ∧ IsSv w K H CS x G)) : ∃ b, IsSeat w K H CS CF x G b := by
  rcases h with ⟨h1, h2⟩ | ⟨h1, h2⟩
  · exact ⟨false, .fo h1 h2⟩
  · exact ⟨true, .sv h1 h2⟩
theorem IsSeat.ins {x : Addr} {G : Game} {b : Bool} (h : IsSeat w K H CS CF x G b) : ∃ dx fs, H x = some (.ins (if b = true then CS else CF) dx fs) := by
  cases h with
  | sv _ h2 =>
    obtain ⟨_, _, _, ⟨dx, _, _, e, _⟩, _⟩ := h2
    exact ⟨_, _, e⟩
  | fo _ h2 =>
    obtain ⟨_, _, ⟨dx, _, _, e, _⟩, _⟩ := h2
    exact ⟨_, _, e⟩
theorem seat_tru {x : Addr} {G : Game} {b : Bool} {Q : Bool → Hp → Prop} {E : XK} (L : Lw P w K mg base CS CF CG fS fF fT fN) (h : IsSeat w K H CS CF x G b) (q : Q b H) :
    ∃ a C dx fs, V.ref x = .ref a ∧ H a = some (.ins C dx fs) ∧ ((BoolC K C fT ∧ spT [V.ref x] H (fun v H' => ∃ r, v = .bl r ∧ Q r H') E) ∨ (BoolC K C fN ∧ spF [V.ref x] H (fun v H' => ∃ r, v = .bl r ∧ Q r H') E)) := by
  obtain ⟨dx, fs, e⟩ := h.ins
  cases b with
  | true => exact ⟨x, CS, dx, fs, rfl, e, .inl ⟨L.bcS, _, rfl, _, rfl, q⟩⟩
  | false => exact ⟨x, CF, dx, fs, rfl, e, .inr ⟨L.bcF, _, rfl, _, rfl, q⟩⟩
theorem seat_bool {x : Addr} {G : Game} {b : Bool} {Q : VK} {E : XK} (L : Lw P w K mg base CS CF CG fS fF fT fN) (h : IsSeat w K H CS CF x G b) (q : Q (.bl b) H) : rBoolO K fT fN spT spF E [V.ref x] H Q := by
  obtain ⟨dx, fs, e⟩ := h.ins
  cases b with
  | true => exact ⟨_, x, CS, dx, fs, rfl, rfl, e, .inl ⟨L.bcS, _, rfl, _, rfl, q⟩⟩
  | false => exact ⟨_, x, CF, dx, fs, rfl, rfl, e, .inr ⟨L.bcF, _, rfl, _, rfl, q⟩⟩
theorem seat_isi {x : Addr} {G : Game} {b : Bool} (L : Lw P w K mg base CS CF CG fS fF fT fN) (h : IsSeat w K H CS CF x G b) : ∃ C : Addr, TyX K H (.ref x) (.ref C) ∧ PySem.W.kitOne K (.ref C) (.ref CS) = some b ∧ PySem.W.kitAny K (.ref C) [.ref CS, .ref CF] = some true := by
  obtain ⟨dx, fs, e⟩ := h.ins
  cases b with
  | true => exact ⟨CS, L.kb.oS.ty e, L.kb.ss, by unfold PySem.W.kitAny; rw [L.kb.ss] <;> rfl⟩
  | false => exact ⟨CF, L.kb.oF.ty e, L.kb.fs, by
      unfold PySem.W.kitAny
      rw [L.kb.fs]
      unfold PySem.W.kitAny
      rw [L.kb.ff] <;> rfl⟩
theorem shaped_bool (b : Bool) : SeqAt.shaped (.bool b) = true := by cases b <;> decide +kernel
theorem eqv_bool (a b : Bool) : PyData.eqv (.bool a) (.bool b) = decide (a = b) := by cases a <;> cases b <;> simp [PyData.eqv]
theorem cut_first {ns : List Int} (h : 1 ≤ ns.length) : ∃ cs : List Int, cutV (ns.map V.int) none (some 1) = cs.map V.int ∧ cs.length = 1 ∧ ∀ n ∈ cs, n ∈ ns := by
  match ns, h with
  | x :: r, _ =>
    refine ⟨[x], ?_, rfl, fun n hn => by rw [List.mem_singleton] at hn; rw [hn]; exact List.mem_cons_self⟩
    unfold cutV
    rw [show (some (1 : Int)) = some (((1 : Nat) : Int)) from rfl, HT.sIx_nat, List.map_cons, List.length_cons]
    have e : HT.sIx ((r.map V.int).length + 1) 0 none = 0 := rfl
    rw [e, List.drop_zero, Nat.sub_zero, show min 1 ((r.map V.int).length + 1) = 1 by omega]
    rfl
theorem cut_last {ns : List Int} (h1 : 1 ≤ ns.length) (h2 : ns.length ≤ 3) : ∃ cs : List Int, cutV (ns.map V.int) (some (-1)) none = cs.map V.int ∧ cs.length = 1 ∧ ∀ n ∈ cs, n ∈ ns := by
  match ns, h1, h2 with
  | [x], _, _ => exact ⟨[x], rfl, rfl, fun n hn => hn⟩
  | [_, y], _, _ => exact ⟨[y], rfl, rfl, fun n hn => List.mem_cons_of_mem _ hn⟩
  | [_, _, z], _, _ => exact ⟨[z], rfl, rfl, fun n hn => List.mem_cons_of_mem _ (List.mem_cons_of_mem _ hn)⟩
theorem cut_rest {ns : List Int} (h1 : 1 ≤ ns.length) (h2 : ns.length ≤ 3) : ∃ cs : List Int, cutV (ns.map V.int) none (some (3 - ((ns.map V.int).length : Int))) = cs.map V.int ∧ ns.length + cs.length ≤ 3 ∧ ∀ n ∈ cs, n ∈ ns := by
  match ns, h1, h2 with
  | [x], _, _ => exact ⟨[x], rfl, by simp, fun n hn => hn⟩
  | [y, z], _, _ => exact ⟨[y], rfl, by simp, fun n hn => by rw [List.mem_singleton] at hn; rw [hn]; exact List.mem_cons_self⟩
  | [_, _, z], _, _ => exact ⟨[], rfl, by simp, fun n hn => nomatch hn⟩
theorem canon_mixed {xs ns : List Int} (h : ∀ n, n ∈ xs ↔ n ∈ ns) (c m v : Int) : mkG c xs m v = mkG c ns m v := by
  unfold mkG
  rw [canon_congr h]
theorem shp_S (r : SRow) : (encS r).canLay0 = true ∧ (encS r).depth ≤ 3 := by
  obtain ⟨h1, h2⟩ := shp_L r.1
  unfold encS
  simp only [PyData.canLay0, PyData.canLayAll0, PyData.depth, PyData.depthAll, h1, Bool.and_self, true_and]
  omega
theorem shp_F (r : RRow) : (encF r).canLay0 = true ∧ (encF r).depth ≤ 3 := by
  obtain ⟨h1, h2⟩ := shp_L r.1
  have h3 : (encM r.2.2).canLay0 = true ∧ (encM r.2.2).depth ≤ 1 := by
    cases r.2.2 <;> (unfold encM; simp [PyData.canLay0, PyData.canLayAll0, PyData.depth, PyData.depthAll] <;> decide +kernel)
  unfold encF
  simp only [PyData.canLay0, PyData.canLayAll0, PyData.depth, PyData.depthAll, h1, h3.1, Bool.and_self, true_and]
  omega
theorem shaped_S (rows : List SRow) : SeqAt.shaped (.list (rows.map encS)) = true := shaped_lst shp_S (by omega) rows
theorem shaped_F (rows : List RRow) : SeqAt.shaped (.list (rows.map encF)) = true := shaped_lst shp_F (by omega) rows
theorem shaped_L (L : Lay) : SeqAt.shaped (encL L) = true := by
  obtain ⟨h1, h2⟩ := shp_L L
  unfold SeqAt.shaped
  rw [h1, Bool.true_and, decide_eq_true_iff]
  omega
theorem eqv_nilG {β : Type} {f : β → PyData} (bs : List β) : PyData.eqv (.list (bs.map f)) (.list []) = decide (bs = []) := by
  cases bs <;> simp [PyData.eqv, PyData.eqvAll]
theorem eqv_layNil (L : Lay) : PyData.eqv (encL L) (.tuple []) = decide (L = []) := by
  unfold encL
  cases L <;> simp [PyData.eqv, PyData.eqvAll]
def forR (ns : List Int) (m v : Int) (r : SRow) : Bool := decide ((r.1.length : Int) > m) || (decide (total r.1 > v) || !(r.1.all fun b => decide (b.2 ∈ ns)))
theorem foreign_not {c m v : Int} {ns : List Int} (hz : ∀ n ∈ ns, 1 ≤ n ∧ n ≤ 3) {rows : List SRow} (h : rows.filter (forR ns m v) ≠ []) : ¬ ServedOk (mkG c ns m v) rows := fun so => by
  obtain ⟨r, hr⟩ := List.exists_mem_of_ne_nil _ h
  obtain ⟨h1, h2⟩ := List.mem_filter.mp hr
  have lay := served_lay so h1
  unfold forR at h2
  rw [Bool.or_eq_true, Bool.or_eq_true, decide_eq_true_iff, decide_eq_true_iff] at h2
  rcases h2 with h2 | h2 | h2
  · have : (r.1.length : Int) ≤ m := lay.m
    omega
  · have : total r.1 ≤ v := lay.v
    omega
  · have : (r.1.all fun b => decide (b.2 ∈ ns)) = true := List.all_eq_true.mpr fun b hb => decide_eq_true ((mem_canon hz).mp (lay.zs b hb))
    rw [this] at h2
    cases h2
theorem make_R2 {C : Addr} {n : Nat} {u : Str} {r : V} {d : PyData} {Q : Addr → Hp → Prop} {E : XK} (hr : Dp K H r d) (hf : fits n (.tuple [d])) (h : ∀ H' x, Same H H' → IsR K H' C x u (tupD d) → Q x H') :
    ∀ x dx, H x = none → H dx = none → dx ≠ x → spRInit K C u n (V.ref x :: [r]) (upd (upd H dx (.own x)) x (.ins C dx [])) (fun v H2 => v = .non ∧ Q x H2) E := fun x dx nx nd _ => by
  have s1 := same_fresh (o := .ins C dx []) (u := .own x) nx nd
  exact ⟨x, dx, r, d, rfl, upd_same, dp_same s1 hr, hf, fun H' v r' bt e d1 => ⟨rfl, h H' x (same_make nx nd bt) ⟨dx, v, r', e, d1⟩⟩⟩
theorem served_noNil {c m v : Int} {ns : List Int} (hm : 1 ≤ m) (hz : ∀ n ∈ ns, 1 ≤ n ∧ n ≤ 3) {rows : List SRow} (hp : ∀ r ∈ rows, ∀ b ∈ r.1, 1 ≤ b.2) (hne : rows.filter (letR ns m v) ≠ []) : ¬ ServedOk (mkG c ns m v) ((rows.filter (letR ns m v)).filter fun r => decide (r.1 ≠ [])) := fun so => by
  obtain ⟨r, hr⟩ := List.exists_mem_of_ne_nil _ hne
  have hw := let_wants (c := c) hm hz hr (hp r (List.mem_filter.mp hr).1)
  obtain ⟨r2, h1, h2⟩ := served_nil so hw
  have := of_decide_eq_true (List.mem_filter.mp h1).2
  exact this h2
theorem forced_noNil {G : Game} {rows : List RRow} : ¬ ForcedOk G (rows.filter fun r => decide (r.1 ≠ [])) := fun fo => by
  obtain ⟨r, h1, h2⟩ := List.mem_map.mp fo.nil
  exact of_decide_eq_true (List.mem_filter.mp h1).2 h2
theorem served_empty {G : Game} (h : Win G []) : ¬ ServedOk G [] := fun so => by
  obtain ⟨z, hz⟩ := win_wants h
  obtain ⟨r, hr, _⟩ := served_nil so hz
  cases hr
/-! ### all but the tables -/
theorem sqT_extN (e : ExtN H H') {x : Addr} {vs : List V} (h : SqT K H x vs) : SqT K H' x vs := by
  rcases h with (h | ⟨o, h⟩) | h
  · exact .inl (.inl (e _ _ h (fun ps z => nomatch z)))
  · exact .inl (.inr ⟨o, e _ _ h (fun ps z => nomatch z)⟩)
  · exact .inr h
mutual
theorem dp_extN (e : ExtN H H') : ∀ {d : PyData} {v : V}, tupOnly d = true → Dp K H v d → Dp K H' v d
  | .none, _, _, h => by cases h; exact .non
  | .bool b, _, _, h => by cases h; exact .bl b
  | .int i, _, _, h => by cases h; exact .int i
  | .str x, _, _, h => by cases h; exact .str x
  | .list ds, _, t, h => by rw [tupOnly] at t; cases t
  | .tuple ds, _, t, h => by
    cases h with
    | tup s a => exact .tup (sqT_extN e s) (dpAll_extN e (tupOnly_tuple t) a)
  | .dict _, _, _, h => by cases h
theorem dpAll_extN (e : ExtN H H') : ∀ {ds : List PyData} {vs : List V}, tupAll ds = true → DpAll K H vs ds → DpAll K H' vs ds
  | [], _, _, h => by cases h; exact .nil
  | d :: ds, _, t, h => by
    cases h with
    | cons h1 h2 => exact .cons (dp_extN e (tupAll_cons t).1 h1) (dpAll_extN e (tupAll_cons t).2 h2)
end
theorem lst_extN (e : ExtN H H') {x : Addr} {vs : List V} (h : H x = some (.lst vs)) : H' x = some (.lst vs) := e _ _ h (fun ps z => nomatch z)
theorem Tn.extN (h : Tn K H p q sa Pt N c m v ns) (e : ExtN H H') (t : Tabs [(Pt, QL)] H') : Tn K H' p q sa Pt N c m v ns := by
  obtain ⟨cs, a1, b1, e1, e2, z⟩ := h.pen
  exact ⟨⟨cs, a1, b1, lst_extN e e1, lst_extN e e2, z⟩, lst_extN e h.s, h.sp, h.fr, h.c, h.v, t⟩
theorem Ls.extN {ta sb : Addr} {m' v' : Int} {ns' : List Int} (h : Ls K H p ta sb m' v' ns' m v ns) (e : ExtN H H') : Ls K H' p ta sb m' v' ns' m v ns := ⟨sqT_extN e h.t, lst_extN e h.s, h.sp, h.fr, h.sub, h.m, h.v⟩
theorem IsR.extN {C x : Addr} {u : Str} {d : PyData} (t : tupOnly d = true) (h : IsR K H C x u d) (e : ExtN H H') : IsR K H' C x u d := by
  obtain ⟨dx, vv, r, e1, hd⟩ := h
  exact ⟨dx, vv, r, e _ _ e1 (fun ps z => nomatch z), dp_extN e t hd⟩
theorem IsSeat.extN {x : Addr} {G : Game} {b : Bool} (h : IsSeat w K H CS CF x G b) (e : ExtN H H') : IsSeat w K H' CS CF x G b := by
  cases h with
  | sv h1 h2 =>
    obtain ⟨rs, rows, Vs, a, z⟩ := h2
    exact .sv h1 ⟨rs, rows, Vs, a.extN (tup_encS _) e, z⟩
  | fo h1 h2 =>
    obtain ⟨rs, rows, a, z⟩ := h2
    exact .fo h1 ⟨rs, rows, a.extN (tup_encF _) e, z⟩
theorem least_sp {x : Addr} {c0 : Int} {Q : VK} {E : XK} (hs : H x = some (.lst (ns.map V.int))) (fr : Fr ns m v) (h : Least ns m v c0) (h7 : c0 ≤ 7) (hv : v ≤ 5) (q : ∀ H', Same H H' → Q (.int c0) H') : spLeastSeats w K [.ref x, .int m, .int v] H Q E :=
  ⟨x, ns, m, v, c0, rfl, sqL_of hs, fr, ⟨h.pos, by omega⟩, fun c h1 h2 => sa7 w (fr.ok ⟨h1, by omega⟩) (by show c ≤ 7; omega) hv, fun c h1 h2 => h.below c h1 h2, h.at_, q⟩
theorem shaped_i (i : Int) : SeqAt.shaped (.int i) = true := by simp [SeqAt.shaped, PyData.canLay0, PyData.depth]
theorem eqv_is (i : Int) (u : Str) : PyData.eqv (.int i) (.str u) = false := by simp [PyData.eqv]
theorem max_ex : ∀ l : List Int, l ≠ [] → ∃ m, m ∈ l ∧ ∀ y ∈ l, y ≤ m
  | [], h => absurd rfl h
  | [x], _ => ⟨x, List.mem_cons_self, fun y hy => by rw [List.mem_singleton] at hy; omega⟩
  | x :: y :: l, _ => by
    obtain ⟨m, h1, h2⟩ := max_ex (y :: l) (by simp)
    by_cases h : x ≤ m
    · exact ⟨m, List.mem_cons_of_mem _ h1, fun z hz => (List.mem_cons.mp hz).elim (fun e => by rw [e]; exact h) (h2 z)⟩
    · exact ⟨x, List.mem_cons_self, fun z hz => (List.mem_cons.mp hz).elim (fun e => by omega) fun e => by have := h2 z e; omega⟩
theorem rep_flat (z : Int) : ∀ k : Nat, (List.replicate k [V.int z]).flatten = (List.replicate k z).map V.int
  | 0 => rfl
  | k + 1 => by
    rw [List.replicate_succ, List.flatten_cons, rep_flat z k, List.replicate_succ, List.map_cons]
    rfl
/-! ### shows_seats of what is known -/
theorem shows_sv {x a : Addr} {rows : List SRow} {Q : VK} {E : XK} (bb : Bool) (hx : IsR K H CS x "served" (.tuple (rows.map encS))) (hl : rows.length ≤ 100000) (hll : ∀ r ∈ rows, r.1.length ≤ 1000) (hs : SqL K H a (ns.map V.int)) (fr : Fr ns m v) (hc : 1 ≤ c ∧ c ≤ 12) (sm : Small (mkG c ns m v))
    (hb : bb = true ↔ ServedOk (mkG c ns m v) rows) (qq : ∀ H', Same H H' → Q (.bl bb) H') : spShows w K CS CF [.int c, .ref a, .int m, .int v, .ref x] H Q E :=
  ⟨c, a, ns, m, v, x, rfl, hs, fr, hc, sm, .inl ⟨rows, hx, hl, hll, fun H' b s h => by
    have e : b = bb := Bool.eq_iff_iff.mpr (h.trans hb.symm)
    rw [e]
    exact qq H' s⟩⟩
theorem shows_fo {x a : Addr} {rows : List RRow} {Q : VK} {E : XK} (bb : Bool) (hx : IsR K H CF x "forced" (.tuple (rows.map encF))) (hl : rows.length ≤ 100000) (hll : ∀ r ∈ rows, r.1.length ≤ 1000) (hs : SqL K H a (ns.map V.int)) (fr : Fr ns m v) (hc : 1 ≤ c ∧ c ≤ 12) (sm : Small (mkG c ns m v))
    (hb : bb = true ↔ ForcedOk (mkG c ns m v) rows) (qq : ∀ H', Same H H' → Q (.bl bb) H') : spShows w K CS CF [.int c, .ref a, .int m, .int v, .ref x] H Q E :=
  ⟨c, a, ns, m, v, x, rfl, hs, fr, hc, sm, .inr ⟨rows, hx, hl, hll, fun H' b s h => by
    have e : b = bb := Bool.eq_iff_iff.mpr (h.trans hb.symm)
    rw [e]
    exact qq H' s⟩⟩
theorem sv_len {G : Game} (k : OkG G) {rs : List RRow} {rows : List SRow} {Vs : List Lay} (h : SvOk G rs rows Vs) : ∀ r ∈ rows, r.1.length ≤ 1000 := fun r hr => by
  have h1 := ((h.re _ (h.row r hr).1).1.lay k).m
  have := k.m
  omega
theorem fo_len {G : Game} (k : OkG G) (sm : Small G) {rs rows : List RRow} (h : RanksOk G rs) (f : FrOk G rs rows) : rows.length ≤ 100000 ∧ ∀ r ∈ rows, r.1.length ≤ 1000 := by
  have lay : ∀ r ∈ rows, IsLay G r.1 := fun r hr => (h.re r (f.sub r hr)).lay k
  refine ⟨?_, fun r hr => ?_⟩
  · have := sm _ f.nd fun L hL => by
      obtain ⟨r, hr, rfl⟩ := List.mem_map.mp hL
      exact lay r hr
    rw [List.length_map] at this
    omega
  · have := (lay r hr).m
    have := k.m
    omega
/-- a seat told of G' is one of any game that has what it needs -/
theorem shows_true {x a : Addr} {G' : Game} {b : Bool} {Q : VK} {E : XK} (k' : OkG G') (sm' : Small G') (h : IsSeat w K H CS CF x G' b) (hs : SqL K H a (ns.map V.int)) (fr : Fr ns m v) (hc : 1 ≤ c ∧ c ≤ 12) (sm : Small (mkG c ns m v))
    (e1 : b = true → ∀ rows, ServedOk G' rows → ServedOk (mkG c ns m v) rows) (e2 : b = false → ∀ rows, ForcedOk G' rows → ForcedOk (mkG c ns m v) rows) (qq : ∀ H', Same H H' → Q (.bl true) H') : spShows w K CS CF [.int c, .ref a, .int m, .int v, .ref x] H Q E := by
  cases h with
  | sv h1 h2 =>
    obtain ⟨rs, rows, Vs, hx, sv, hl⟩ := h2
    exact shows_sv true hx hl (sv_len k' sv) hs fr hc sm ⟨fun _ => e1 rfl rows (sv_served k' sv), fun _ => rfl⟩ qq
  | fo h1 h2 =>
    obtain ⟨rs, rows, hx, rk, fo⟩ := h2
    obtain ⟨l1, l2⟩ := fo_len k' sm' rk fo
    exact shows_fo true hx l1 l2 hs fr hc sm ⟨fun _ => e2 rfl rows (fr_forced k' rk fo), fun _ => rfl⟩ qq
end
end K23
set_option maxHeartbeats 1000000
namespace K23
open PySem PySem.Spec PyProof.Rows L2 KSup NdefX StX KNest LamX
section
variable {P : Program} {w : World} {K : PySem.W.Frag} {mg : Str → Option Value} {base : Heap} {f CS CF CG fS fF fT fN g1 g2 g3 g4 g5 g6 g7 g8 g9 cL Pt : Addr} {fd d1 d2 d3 d4 d5 d6 d7 d8 d9 : FuncData}
theorem ok_law (F : FnP K "law" sLaw f fd) (hcL : fd.code = .ref cL) (TB : TabB base mg cL Pt) (L : Lw P w K mg base CS CF CG fS fF fT fN)
    (D1 : Df P w K mg base 1 "_law_pen" ["script"] (spPen K) g1 d1) (D2 : Df P w K mg base 1 "_law_draw" ["pen", "many"] (spDraw K) g2 d2) (D3 : Df P w K mg base 2 "_law_pick" ["pen", "some"] (spPick K) g3 d3)
    (D4 : Df P w K mg base 11 "seats" ["cells", "sizes", "many", "live"] (spSeats w K CS CF) g4 d4) (D4' : FnP K "seats" sSeats g4 d4)
    (D5 : Df P w K mg base 6 "shows_seats" ["cells", "sizes", "many", "live", "value"] (spShows w K CS CF) g5 d5) (D6 : Df P w K mg base 2 "_law_mixed" ["pen", "some"] (spMixed K) g6 d6)
    (D7 : Df P w K mg base 1 "_law_rows_let" ["rows", "sizes", "many", "live"] (spRowsLet K) g7 d7) (D8 : Df P w K mg base 5 "least_seats" ["sizes", "many", "live"] (spLeastSeats w K) g8 d8)
    (D9 : FnP K "_law_heard" sHeard g9 d9) (mH : mg "_law_heard" = some (.ref g9)) (kH : PySem.W.keepIn K (.ref g9) = true) (bH9 : Binds K d9 ["ask"] []) : FnOk P w K mg base CX0 12 f fd ["script"] (spLaw K Pt) := by
  obtain ⟨GD, kD, bD, mD⟩ := D2
  obtain ⟨GP, kP, bP, mP⟩ := D3
  obtain ⟨GE, kE, bE, mE⟩ := D4
  obtain ⟨GS, kS, bS, mS⟩ := D5
  obtain ⟨GM, kM, bM, mM⟩ := D6
  obtain ⟨GR, kR, bR, mR⟩ := D7
  obtain ⟨GL, kL, bL, mL⟩ := D8
  obtain ⟨G1, k1, b1, m1⟩ := D1
  obtain ⟨ocH, odH, dVH, kVH, docH, pmH, anH, cdH, ctH, oslH, rfl, lkH, hcH, _, _⟩ := D9.ex
  have bH : Binds K (PySem.W.fnOf "_law_heard" "_law_heard" (defArgs sHeard) (defBody sHeard) (defScope sHeard) dVH kVH docH pmH anH cdH ctH) ["ask"] [] := bH9
  have kwE := seats_k D4'
  have T := L.bl
  have MS := L.mk1
  have MF := L.mk2
  have FS := L.in1
  have FF := L.in2
  have GT := L.bt
  have GF := L.bf
  have mCS := L.mS
  have mCF := L.mF
  refine okC F scLaw (fun vs H Q E h => ?_) (fun A outer s H vs Q E hr h => ?_)
  · obtain ⟨a, ns, rfl, _⟩ := h
    rfl
  · obtain ⟨a, ns, rfl, hs, htb, hq⟩ := h
    have hr9 : Room 9 (A.deeper (envOfC _ _ s.heap.objs.size f fd.code)) := hr.mono (by omega)
    have hr64 := hr.units
    have hcode : (envOfC "law" (defScope sLaw) s.heap.objs.size f fd.code).code = .ref cL := hcL
    refine ⟨_, PSs.nox (pss_cons (ps_set (i := 1) scLaw.nd rfl (Or.inr rfl) (pe_call G1 (hr.mono (by omega)) (by rfl) m1 k1 b1 .nil pass0 (pa_cons (pv 0) pa_nil)))
      (pss_cons (ps_for PassesOwn.never rfl (pi_range1 (by rfl) T.range (pa_cons pe_int pa_nil)) (pg_name (i := 2) scLaw.nd rfl (Or.inl rfl))
        (C8.pss_cut (ps_asg (pe_tup (pa_cons (pe_op op_add pe_int (pe_call GD (hr.mono (by omega)) (by rfl) mD kD bD .nil pass0 (pa_cons (pv 1) (pa_cons pe_int pa_nil)))) (pa_cons (pe_op op_add pe_int (pe_call GD (hr.mono (by omega)) (by rfl) mD kD bD .nil pass0 (pa_cons (pv 1) (pa_cons pe_int pa_nil)))) pa_nil))) (pg_tup (t := gCons (gName 3) (gCons (gName 4) gNil)) (n := 2) rfl (pgs_cons (pg_name (i := 3) scLaw.nd rfl (Or.inl rfl)) (pgs_cons (pg_name (i := 4) scLaw.nd rfl (Or.inr rfl)) pgs_nil))))
          (C8.pss_cut (ps_set (i := 5) scLaw.nd rfl (Or.inr rfl) (pe_lc (own := [("size", 15)]) (g := gName 15) (tt := tYes) rfl scLaw.nd (pi_range1 (by rfl) T.range (pa_cons (pe_op op_add pe_int (pe_call GD (hr.mono (by omega)) (by rfl) mD kD bD .nil pass0 (pa_cons (pv 1) (pa_cons pe_int pa_nil)))) pa_nil)) (blkOk_by (N := ["script", "pen", "turn", "cells", "many", "sizes", "live", "less", "told", "its", "mixed", "rows", "foreign", "first", "last", "size", "most_live", "row", "at", "one"]) (sc := defScope sLaw) (by decide +kernel)) (fun _ _ _ _ _ => (pg_name (i := 15) scLaw.nd rfl (Or.inl rfl))) (fun _ _ _ _ _ => pts_nil) (fun _ _ _ _ _ => (pe_op op_add pe_int (pe_call GD (hr.mono (by omega)) (by rfl) mD kD bD .nil pass0 (pa_cons (pv 1) (pa_cons pe_int pa_nil)))))))
          (C8.pss_cut (ps_set (i := 6) scLaw.nd rfl (Or.inr rfl) (pe_op op_add pe_int (pe_call GD (hr.mono (by omega)) (by rfl) mD kD bD .nil pass0 (pa_cons (pv 1) (pa_cons pe_int pa_nil)))))
          (C8.pss_cut (ps_set (i := 7) scLaw.nd rfl (Or.inr rfl) (pe_tup (pa_cons (pe_call GP (hr.mono (by omega)) (by rfl) mP kP bP .nil pass0 (pa_cons (pv 1) (pa_cons (pe_lst (pa_cons (pv 5) (pa_cons (pe_slice sl_list (pv 5) po_none (po_some pe_int)) (pa_cons (pe_slice sl_list (pv 5) (po_some (pe_un un_neg pe_int)) po_none) pa_nil)))) pa_nil))) (pa_cons (pe_callB (call_max2 rfl) (by rfl) T.max (by decide +kernel) (pa_cons pe_int (pa_cons (pe_op op_sub (pv 4) (pe_call GD (hr.mono (by omega)) (by rfl) mD kD bD .nil pass0 (pa_cons (pv 1) (pa_cons pe_int pa_nil)))) pa_nil))) (pa_cons (pe_callB (call_max2 rfl) (by rfl) T.max (by decide +kernel) (pa_cons pe_int (pa_cons (pe_op op_sub (pv 6) (pe_call GD (hr.mono (by omega)) (by rfl) mD kD bD .nil pass0 (pa_cons (pv 1) (pa_cons pe_int pa_nil)))) pa_nil))) pa_nil)))))
          (C8.pss_cut (ps_par (i := 8) (j := 9) rfl scLaw.nd rfl rfl (by decide) rfl rfl (pa_cons (pe_call GE (hr.mono (by omega)) (by rfl) mE kE bE .nil pass0 (pa_cons (pv 3) (pa_cons (pv 5) (pa_cons (pv 4) (pa_cons (pv 6) pa_nil))))) (pa_cons (pe_call GE (hr.mono (by omega)) (by rfl) mE kE bE .nil pass0 (pa_cons (pv 3) (pa_cons (pe_ix (show IxR _ (rIxT K) from ix_tup) (pv 7) pe_int (fun _ _ => rfl)) (pa_cons (pe_ix (show IxR _ (rIxT K) from ix_tup) (pv 7) pe_int (fun _ _ => rfl)) (pa_cons (pe_ix (show IxR _ (rIxT K) from ix_tup) (pv 7) pe_int (fun _ _ => rfl)) pa_nil))))) pa_nil)) (by rfl))
          (C8.pss_cut (ps_if (PW.pt (pw_or (pt_not (pt_val (pe_callB call_isiT (by rfl) T.isi (by decide +kernel) (pa_cons (pv 8) (pa_cons (pe_tup (pa_cons (pe_glob (v := .ref CS) (by rfl) mCS rfl) (pa_cons (pe_glob (v := .ref CF) (by rfl) mCF rfl) pa_nil))) pa_nil))))) (pw_or1 (pt_cmpR (op_neD hr64) (pe_callTy (call_boolO GT GF (hr.mono (by omega)) pass0) (by rfl) T.bool (by decide +kernel) (pa_cons (pv 8) pa_nil)) (pe_callB call_isi (by rfl) T.isi (by decide +kernel) (pa_cons (pv 8) (pa_cons (pe_glob (v := .ref CS) (by rfl) mCS rfl) pa_nil))) (nomark _))))) (pss_one (ps_ret pe_bl)) pss_nil)
          (C8.pss_cut (ps_set (i := 10) scLaw.nd rfl (Or.inl rfl) (pe_call GM (hr.mono (by omega)) (by rfl) mM kM bM .nil pass0 (pa_cons (pv 1) (pa_cons (pe_op op_cat (pv 5) (pe_slice sl_list (pv 5) po_none (po_some (pe_op op_sub pe_int (pe_callB call_len_seq (by rfl) T.len PySem.boot_len (pa_cons (pv 5) pa_nil)))))) pa_nil))))
          (C8.pss_cut (ps_if (PW.pt (pw_or (pt_cmpR (op_neD hr64) (pe_callTy (call_boolO GT GF (hr.mono (by omega)) pass0) (by rfl) T.bool (by decide +kernel) (pa_cons (pe_callK0 GE (hr.mono (by omega)) (by rfl) mE kE kwE pass0 (pk_cons (pv 6) (pk_cons (pv 4) (pk_cons (pv 10) (pk_cons (pv 3) pk_nil))))) pa_nil)) (pe_callTy (call_boolO GT GF (hr.mono (by omega)) pass0) (by rfl) T.bool (by decide +kernel) (pa_cons (pv 8) pa_nil)) (nomark _)) (pw_or1 (pt_cmpR op_notBl (pe_call GS (hr.mono (by omega)) (by rfl) mS kS bS .nil pass0 (pa_cons (pv 3) (pa_cons (pv 10) (pa_cons (pv 4) (pa_cons (pv 6) (pa_cons (pv 8) pa_nil)))))) pe_bl (nomark _))))) (pss_one (ps_ret pe_bl)) pss_nil)
          (C8.pss_cut (ps_if (PW.pt (pw_or (PW.pt (pw_and (pt_own GT GF (hr.mono (by omega)) pass0 (pv 8)) (pw_and1 (pt_not (pt_own GT GF (hr.mono (by omega)) pass0 (pv 9)))))) (pw_or1 (pt_cmpR op_notBl (pe_call GS (hr.mono (by omega)) (by rfl) mS kS bS .nil pass0 (pa_cons (pv 3) (pa_cons (pe_ix (show IxR _ (rIxT K) from ix_tup) (pv 7) pe_int (fun _ _ => rfl)) (pa_cons (pe_ix (show IxR _ (rIxT K) from ix_tup) (pv 7) pe_int (fun _ _ => rfl)) (pa_cons (pe_ix (show IxR _ (rIxT K) from ix_tup) (pv 7) pe_int (fun _ _ => rfl)) (pa_cons (pv 9) pa_nil)))))) pe_bl (nomark _))))) (pss_one (ps_ret pe_bl)) pss_nil)
          (C8.pss_cut (ps_if (pt_own GT GF (hr.mono (by omega)) pass0 (pv 8)) (C8.pss_cut (ps_set (i := 11) scLaw.nd rfl (Or.inl rfl) (pe_call GR (hr.mono (by omega)) (by rfl) mR kR bR .nil pass0 (pa_cons (pe_fld (pv 8) rfl) (pa_cons (pe_ix (show IxR _ (rIxT K) from ix_tup) (pv 7) pe_int (fun _ _ => rfl)) (pa_cons (pe_ix (show IxR _ (rIxT K) from ix_tup) (pv 7) pe_int (fun _ _ => rfl)) (pa_cons (pe_ix (show IxR _ (rIxT K) from ix_tup) (pv 7) pe_int (fun _ _ => rfl)) pa_nil)))))) (C8.pss_cut (ps_if (PW.pt (pw_or (pt_cmpR op_notBl (pe_call GS (hr.mono (by omega)) (by rfl) mS kS bS .nil pass0 (pa_cons (pv 3) (pa_cons (pe_ix (show IxR _ (rIxT K) from ix_tup) (pv 7) pe_int (fun _ _ => rfl)) (pa_cons (pe_ix (show IxR _ (rIxT K) from ix_tup) (pv 7) pe_int (fun _ _ => rfl)) (pa_cons (pe_ix (show IxR _ (rIxT K) from ix_tup) (pv 7) pe_int (fun _ _ => rfl)) (pa_cons (pe_makeR MS FS hr9 (by rfl) mCS pass0 (pa_cons (pv 11) pa_nil)) pa_nil)))))) pe_bl (nomark _)) (pw_or1 (pt_cmpR op_notBl (pe_call GS (hr.mono (by omega)) (by rfl) mS kS bS .nil pass0 (pa_cons (pe_op op_add (pv 3) pe_int) (pa_cons (pv 5) (pa_cons (pv 4) (pa_cons (pv 6) (pa_cons (pv 8) pa_nil)))))) pe_bl (nomark _))))) (pss_one (ps_ret pe_bl)) pss_nil) (C8.pss_cut (ps_setLc (i := 12) (own := [("row", 17)]) (g := gName 17) (tt := _) rfl scLaw.nd rfl rfl (by rfl) (pi_tup (pe_fld (pv 8) rfl)) (blkOk_by (N := ["script", "pen", "turn", "cells", "many", "sizes", "live", "less", "told", "its", "mixed", "rows", "foreign", "first", "last", "size", "most_live", "row", "at", "one"]) (sc := defScope sLaw) (by decide +kernel)) (fun _ _ _ _ _ => (pg_name (i := 17) scLaw.nd rfl (Or.inl rfl))) (fun _ _ _ _ _ => pts_one (PW.pt (pw_or (pt_cmpR op_gt (pe_callB (show CallR _ _ (rLenK K) from call_len_seq) (by rfl) T.len PySem.boot_len (pa_cons (pe_ix (show IxR _ (rIxT K) from ix_tup) (pv 17) pe_int (fun _ _ => rfl)) pa_nil)) (pe_ix (show IxR _ (rIxT K) from ix_tup) (pv 7) pe_int (fun _ _ => rfl)) (nomark _)) (pw_or (pt_cmpR op_gt (pe_callB (show CallR _ _ (rSum K) from cr_sum rfl) (by rfl) T.sum (by decide +kernel) (pa_cons (pe_lc (own := [("at", 18), ("one", 19)]) (g := gTup K 2 (gCons (gName 18) (gCons (gName 19) gNil))) (tt := tYes) rfl scLaw.nd (show PI _ _ _ (iTup K (tOp (rIxT K) (tVar 17) (tC (V.int 0)))) from pi_tup (pe_ix (show IxR _ (rIxT K) from ix_tup) (pv 17) pe_int (fun _ _ => rfl))) (blkOk_by (N := ["script", "pen", "turn", "cells", "many", "sizes", "live", "less", "told", "its", "mixed", "rows", "foreign", "first", "last", "size", "most_live", "row", "at", "one"]) (sc := scForeign) (by decide +kernel)) (fun _ _ _ _ _ => pg_tup rfl (pgs_cons (pg_name (i := 18) scLaw.nd rfl (Or.inl rfl)) (pgs_cons (pg_name (i := 19) scLaw.nd rfl (Or.inl rfl)) pgs_nil))) (fun _ _ _ _ _ => pts_nil) (fun _ _ _ _ _ => (pv 19))) pa_nil)) (pe_ix (show IxR _ (rIxT K) from ix_tup) (pv 7) pe_int (fun _ _ => rfl)) (nomark _)) (pw_or1 (pt_cmpR (show OpR _ _ (rNeD K) from op_neD hr64) (pe_lc (own := [("at", 18), ("one", 19)]) (g := gTup K 2 (gCons (gName 18) (gCons (gName 19) gNil))) (tt := _) rfl scLaw.nd (show PI _ _ _ (iTup K (tOp (rIxT K) (tVar 17) (tC (V.int 0)))) from pi_tup (pe_ix (show IxR _ (rIxT K) from ix_tup) (pv 17) pe_int (fun _ _ => rfl))) (blkOk_by (N := ["script", "pen", "turn", "cells", "many", "sizes", "live", "less", "told", "its", "mixed", "rows", "foreign", "first", "last", "size", "most_live", "row", "at", "one"]) (sc := scForeign) (by decide +kernel)) (fun _ _ _ _ _ => pg_tup rfl (pgs_cons (pg_name (i := 18) scLaw.nd rfl (Or.inl rfl)) (pgs_cons (pg_name (i := 19) scLaw.nd rfl (Or.inl rfl)) pgs_nil))) (fun _ _ _ _ _ => pts_one (pt_cmpR (show OpR _ _ (rIn K true) from op_notIn_seq) (pv 19) (pe_ix (show IxR _ (rIxT K) from ix_tup) (pv 7) pe_int (fun _ _ => rfl)) (by with_unfolding_all rfl))) (fun _ _ _ _ _ => (pv 19))) (pe_lst pa_nil) (nomark _))))))) (fun _ _ _ _ _ => (pv 17))) (C8.pss_cut (ps_if (PW.pt (pw_and (pt_cmpR (op_neD hr64) (pv 12) (pe_lst pa_nil) (nomark _)) (pw_and1 (pt_cmpR op_notBl (pe_call GS (hr.mono (by omega)) (by rfl) mS kS bS .nil pass0 (pa_cons (pv 3) (pa_cons (pe_ix (show IxR _ (rIxT K) from ix_tup) (pv 7) pe_int (fun _ _ => rfl)) (pa_cons (pe_ix (show IxR _ (rIxT K) from ix_tup) (pv 7) pe_int (fun _ _ => rfl)) (pa_cons (pe_ix (show IxR _ (rIxT K) from ix_tup) (pv 7) pe_int (fun _ _ => rfl)) (pa_cons (pv 8) pa_nil)))))) pe_bl (nomark _))))) (pss_one (ps_ret pe_bl)) pss_nil) (pss_one (ps_if (PW.pt (pw_and (pt_cmpR (op_neD hr64) (pv 11) (pe_lst pa_nil) (nomark _)) (pw_and1 (pt_cmpR op_notBl (pe_call GS (hr.mono (by omega)) (by rfl) mS kS bS .nil pass0 (pa_cons (pv 3) (pa_cons (pe_ix (show IxR _ (rIxT K) from ix_tup) (pv 7) pe_int (fun _ _ => rfl)) (pa_cons (pe_ix (show IxR _ (rIxT K) from ix_tup) (pv 7) pe_int (fun _ _ => rfl)) (pa_cons (pe_ix (show IxR _ (rIxT K) from ix_tup) (pv 7) pe_int (fun _ _ => rfl)) (pa_cons (pe_makeR MS FS hr9 (by rfl) mCS pass0 (pa_cons (pe_lc (own := [("row", 17)]) (g := gName 17) (tt := _) rfl scLaw.nd (pi_list (pv 11)) (blkOk_by (N := ["script", "pen", "turn", "cells", "many", "sizes", "live", "less", "told", "its", "mixed", "rows", "foreign", "first", "last", "size", "most_live", "row", "at", "one"]) (sc := defScope sLaw) (by decide +kernel)) (fun _ _ _ _ _ => (pg_name (i := 17) scLaw.nd rfl (Or.inl rfl))) (fun _ _ _ _ _ => pts_one (pt_cmpR (show OpR _ _ (rNeD K) from op_neD hr64) (pe_ix (show IxR _ (rIxT K) from ix_tup) (pv 17) pe_int (fun _ _ => rfl)) (pe_tup pa_nil) (nomark _))) (fun _ _ _ _ _ => (pv 17))) pa_nil)) pa_nil)))))) pe_bl (nomark _))))) (pss_one (ps_ret pe_bl)) pss_nil)))))) pss_nil)
          (C8.pss_cut (ps_if (pt_not (pt_own GT GF (hr.mono (by omega)) pass0 (pv 9))) (C8.pss_cut (ps_if (PW.pt (pw_or (pt_cmpR op_notBl (pe_call GS (hr.mono (by omega)) (by rfl) mS kS bS .nil pass0 (pa_cons (pv 3) (pa_cons (pv 5) (pa_cons (pv 4) (pa_cons (pv 6) (pa_cons (pv 9) pa_nil)))))) pe_bl (nomark _)) (pw_or1 (pt_cmpR op_notBl (pe_call GS (hr.mono (by omega)) (by rfl) mS kS bS .nil pass0 (pa_cons (pv 3) (pa_cons (pv 5) (pa_cons (pv 4) (pa_cons (pv 6) (pa_cons (pe_makeR MS FS hr9 (by rfl) mCS pass0 (pa_cons (pe_lst pa_nil) pa_nil)) pa_nil)))))) pe_bl (nomark _))))) (pss_one (ps_ret pe_bl)) pss_nil) (pss_one (ps_if (PW.pt (pw_and (pt_cmpR (op_neD hr64) (pe_lc (own := [("row", 17)]) (g := gName 17) (tt := _) rfl scLaw.nd (pi_tup (pe_fld (pv 9) rfl)) (blkOk_by (N := ["script", "pen", "turn", "cells", "many", "sizes", "live", "less", "told", "its", "mixed", "rows", "foreign", "first", "last", "size", "most_live", "row", "at", "one"]) (sc := defScope sLaw) (by decide +kernel)) (fun _ _ _ _ _ => (pg_name (i := 17) scLaw.nd rfl (Or.inl rfl))) (fun _ _ _ _ _ => pts_one (pt_cmpR (show OpR _ _ (rNeD K) from op_neD hr64) (pe_ix (show IxR _ (rIxT K) from ix_tup) (pv 17) pe_int (fun _ _ => rfl)) (pe_tup pa_nil) (nomark _))) (fun _ _ _ _ _ => (pv 17))) (pe_lst pa_nil) (nomark _)) (pw_and1 (pt_cmpR op_notBl (pe_call GS (hr.mono (by omega)) (by rfl) mS kS bS .nil pass0 (pa_cons (pv 3) (pa_cons (pv 5) (pa_cons (pv 4) (pa_cons (pv 6) (pa_cons (pe_makeR MF FF hr9 (by rfl) mCF pass0 (pa_cons (pe_lc (own := [("row", 17)]) (g := gName 17) (tt := _) rfl scLaw.nd (pi_tup (pe_fld (pv 9) rfl)) (blkOk_by (N := ["script", "pen", "turn", "cells", "many", "sizes", "live", "less", "told", "its", "mixed", "rows", "foreign", "first", "last", "size", "most_live", "row", "at", "one"]) (sc := defScope sLaw) (by decide +kernel)) (fun _ _ _ _ _ => (pg_name (i := 17) scLaw.nd rfl (Or.inl rfl))) (fun _ _ _ _ _ => pts_one (pt_cmpR (show OpR _ _ (rNeD K) from op_neD hr64) (pe_ix (show IxR _ (rIxT K) from ix_tup) (pv 17) pe_int (fun _ _ => rfl)) (pe_tup pa_nil) (nomark _))) (fun _ _ _ _ _ => (pv 17))) pa_nil)) pa_nil)))))) pe_bl (nomark _))))) (pss_one (ps_ret pe_bl)) pss_nil))) pss_nil)
          (C8.pss_cut (ps_par (i := 13) (j := 14) rfl scLaw.nd rfl rfl (by decide) rfl rfl (pa_cons (pe_lamcall (k := 5) (T := [(Pt, QL)]) (TT := TH) (by rfl) mH kH lkH hcH bH scHeard rfl (Or.inl rfl) (heard_gives L.mG) TB hcode (by exact List.mem_singleton.mpr rfl) (fun p hp _ => by rw [List.mem_singleton.mp hp] <;> rfl) (hr.mono (by omega)) (lamS_by (sc := defScope sLaw) (by decide +kernel)) rfl (fun _ _ _ _ _ => rfl)
            (fun A' outer' s' H' E' f' c' hrr => (pe_call GL (hrr.mono (by omega)) (by rfl) mL kL bL .nil pass0 (pa_cons (pe_ix (show IxR _ (rIxT K) from ix_tup) (pv 7) pe_int (fun _ _ => rfl)) (pa_cons (pe_ix (show IxR _ (rIxT K) from ix_tup) (pv 7) pe_int (fun _ _ => rfl)) (pa_cons (pe_ix (show IxR _ (rIxT K) from ix_tup) (pv 7) pe_int (fun _ _ => rfl)) pa_nil)))))) (pa_cons (LamD.pe_lamcallD (k := 5) (x1 := "a1") (n := 0) (T := [(Pt, QL)]) (TT := TH) (by rfl) mH kH lkH hcH bH scHeard rfl (Or.inl rfl) (heard_gives L.mG) TB hcode (by exact List.mem_singleton.mpr rfl) (fun p hp _ => by rw [List.mem_singleton.mp hp] <;> rfl) (hr.mono (by omega)) (LamD.lamDS_by (N := ["script", "pen", "turn", "cells", "many", "sizes", "live", "less", "told", "its", "mixed", "rows", "foreign", "first", "last", "size", "most_live", "row", "at", "one"]) (sc := defScope sLaw) (by decide +kernel)) rfl rfl (by rfl) (fun _ _ _ _ _ _ _ _ _ hT => BindsTo.of_defaults rfl hT rfl rfl rfl)
            (fun A' outer' s' H' E' f' c' hrr => (pe_call GL (hrr.mono (by omega)) (by rfl) mL kL bL .nil pass0 (pa_cons (pv 5) (pa_cons (pv 4) (pa_cons (pv 6) pa_nil)))))) pa_nil)) (by rfl))
          (C8.pss_cut (ps_if (PW.pt (pw_or (pt_cmpR (op_eqD hr64) (pe_ix ix_list (pv 13) pe_int (fun _ _ => rfl)) pe_str (nomark _)) (pw_or (pt_cmpR (op_eqD hr64) (pe_ix ix_list (pv 14) pe_int (fun _ _ => rfl)) pe_str (nomark _)) (pw_or (pt_cmpR op_gt (pe_ix ix_list (pv 13) pe_int (fun _ _ => rfl)) (pe_ix ix_list (pv 14) pe_int (fun _ _ => rfl)) (nomark _)) (pw_or (pt_cmpR (op_neD hr64) (pe_cmpR op_le (pe_ix ix_list (pv 14) pe_int (fun _ _ => rfl)) (pv 3) (nomark _)) (pe_callTy (call_boolO GT GF (hr.mono (by omega)) pass0) (by rfl) T.bool (by decide +kernel) (pa_cons (pv 8) pa_nil)) (nomark _)) (pw_or1 (pt_cmpR (op_neD hr64) (pe_cmpR op_le (pe_ix ix_list (pv 13) pe_int (fun _ _ => rfl)) (pv 3) (nomark _)) (pe_callTy (call_boolO GT GF (hr.mono (by omega)) pass0) (by rfl) T.bool (by decide +kernel) (pa_cons (pv 9) pa_nil)) (nomark _)))))))) (pss_one (ps_ret pe_bl)) pss_nil)
          (C8.pss_cut (ps_par (i := 15) (j := 16) rfl scLaw.nd rfl rfl (by decide) rfl rfl (pa_cons (pe_op op_add pe_int (pe_call GD (hr.mono (by omega)) (by rfl) mD kD bD .nil pass0 (pa_cons (pv 1) (pa_cons pe_int pa_nil)))) (pa_cons (pe_op op_add pe_int (pe_call GD (hr.mono (by omega)) (by rfl) mD kD bD .nil pass0 (pa_cons (pv 1) (pa_cons pe_int pa_nil)))) pa_nil)) (by rfl))
          (C8.pss_cut (ps_if (pt_cmpR op_ne (pe_call GL (hr.mono (by omega)) (by rfl) mL kL bL .nil pass0 (pa_cons (pe_op op_rep (pe_lst (pa_cons (pv 15) pa_nil)) (pe_op op_add pe_int (pe_call GD (hr.mono (by omega)) (by rfl) mD kD bD .nil pass0 (pa_cons (pv 1) (pa_cons pe_int pa_nil))))) (pa_cons (pv 4) (pa_cons (pv 16) pa_nil)))) (pe_callB (call_max2 rfl) (by rfl) T.max (by decide +kernel) (pa_cons pe_int (pa_cons (pe_op op_mul (pv 15) (pe_callB (call_min2 rfl) (by rfl) T.min (by decide +kernel) (pa_cons (pv 4) (pa_cons (pe_op op_fdivN (pv 16) (pv 15)) pa_nil)))) pa_nil))) (nomark _)) (pss_one (ps_ret pe_bl)) pss_nil)
          (pss_one (ps_if (pt_cmpR op_ne (pe_call GL (hr.mono (by omega)) (by rfl) mL kL bL .nil pass0 (pa_cons (pv 5) (pa_cons pe_int (pa_cons (pv 6) pa_nil)))) (pe_callB (cr_max rfl) (by rfl) T.max (by decide +kernel) (pa_cons (pe_op op_cat (pe_lst (pa_cons pe_int pa_nil)) (pe_lc (own := [("one", 19)]) (g := gName 19) (tt := _) rfl scLaw.nd (pi_list (pv 5)) (blkOk_by (N := ["script", "pen", "turn", "cells", "many", "sizes", "live", "less", "told", "its", "mixed", "rows", "foreign", "first", "last", "size", "most_live", "row", "at", "one"]) (sc := defScope sLaw) (by decide +kernel)) (fun _ _ _ _ _ => (pg_name (i := 19) scLaw.nd rfl (Or.inl rfl))) (fun _ _ _ _ _ => pts_one (pt_cmpR op_le (pv 19) (pv 6) (nomark _))) (fun _ _ _ _ _ => (pv 19)))) pa_nil)) (nomark _)) (pss_one (ps_ret pe_bl)) pss_nil))))))))))))))))))
      (pss_one (ps_ret pe_bl)))), ?_⟩
    refine ⟨_, rfl, a, ns, rfl, hs, fun H1 p q s1 np nq hp => ?_⟩
    refine ⟨2, rfl, by omega, by omega, ?_⟩
    refine for_range (lo := 0) (n := 2) (fun (t : Nat) σ H2 => (∃ x2 x3 x4 x5 x6 x7 x8 x9 x10 x11 x12 x13 x14 x15 x16 x17 x18 x19, σ = [some (.ref a), some (.ref p), x2, x3, x4, x5, x6, x7, x8, x9, x10, x11, x12, x13, x14, x15, x16, x17, x18, x19]) ∧ (∃ N, PenAt H2 p q N ∧ N ≤ 30 * t) ∧ Tabs [(Pt, QL)] H2) ?_ (fun t σ H2 ht hh => ?_) (fun σ H2 _ => hq _)
    · refine ⟨⟨_, _, _, _, _, _, _, _, _, _, _, _, _, _, _, _, _, _, rfl⟩, ⟨0, hp, by omega⟩, fun pr hpr => ?_⟩
      rw [List.mem_singleton.mp hpr]
      exact TabS.nil (s1 _ _ htb)
    · obtain ⟨⟨x2, x3, x4, x5, x6, x7, x8, x9, x10, x11, x12, x13, x14, x15, x16, x17, x18, x19, rfl⟩, ⟨N, hp2, hN⟩, tab2⟩ := hh
      have hN0 := hp2.pos
      -- cells, many
      refine ⟨fun σ' H' => ∃ c m : Int, σ' = [some (.ref a), some (.ref p), some (.int (0 + (t : Int))), some (.int c), some (.int m), x5, x6, x7, x8, x9, x10, x11, x12, x13, x14, x15, x16, x17, x18, x19] ∧ PenAt H' p q (N + 2) ∧ Tabs [(Pt, QL)] H' ∧ (1 ≤ c ∧ c ≤ 6) ∧ (1 ≤ m ∧ m ≤ 4), ?_, ?_⟩
      · refine ⟨_, rfl, p, q, 6, N, rfl, hp2, by omega, by omega, by omega, fun H3 r1 b1 q1 r1a r1b => ?_⟩
        refine ⟨_, _, rfl, rfl, ?_⟩
        refine ⟨_, rfl, p, q, 4, N + 1, rfl, q1, by omega, by omega, by omega, fun H4 r2 b2 q2 r2a r2b => ?_⟩
        refine ⟨_, _, rfl, rfl, ?_⟩
        refine ⟨by rw [sizeLine_eq]; show 2 ≤ 16777216; omega, fun y ny => ?_⟩
        refine ⟨_, _, rfl, .inl (.inl upd_same), rfl, _, _, rfl, _, _, rfl, rfl, ?_⟩
        have e3 : N + 1 + 1 = N + 2 := by omega
        rw [e3] at q2
        exact ⟨1 + r1, 1 + r2, rfl, q2.same (same_upd ny), tabs_same (tabs_but (tabs_but tab2 b1 hp2.lst) b2 q1.lst) (same_upd ny), by omega, by omega⟩
      rintro σ' H3 ⟨c, m, rfl, hp3, tab3, hc, hm⟩
      -- the sizes
      refine ⟨fun σ' H' => ∃ (sa : Addr) (ns : List Int) (N1 : Int), σ' = [some (.ref a), some (.ref p), some (.int (0 + (t : Int))), some (.int c), some (.int m), some (.ref sa), x6, x7, x8, x9, x10, x11, x12, x13, x14, x15, x16, x17, x18, x19] ∧ PenAt H' p q N1 ∧ N1 ≤ N + 6 ∧ Tabs [(Pt, QL)] H' ∧ H' sa = some (.lst (ns.map V.int)) ∧ sa ≠ p ∧ 1 ≤ ns.length ∧ ns.length ≤ 3 ∧ ∀ z ∈ ns, 1 ≤ z ∧ z ≤ 3, ?_, ?_⟩
      · refine ⟨_, rfl, p, q, 3, N + 2, rfl, hp3, by omega, by omega, by omega, fun H4 r4 b4 q4 r4a r4b => ⟨_, _, rfl, rfl, 1 + r4, rfl, by omega, by omega, fun D nD => ?_⟩⟩
        have tab4 := tabs_but tab3 b4 hp3.lst
        have hDp : D ≠ p := fun z => by
          obtain ⟨_, e⟩ := q4.lst
          rw [← z, nD] at e
          cases e
        have hDq : D ≠ q := fun z => by
          obtain ⟨_, _, _, _, e, _⟩ := q4
          rw [← z, nD] at e
          cases e
        refine lc_it walk_range (fun i H' => ∃ ns : List Int, H' D = some (.lst (ns.map V.int)) ∧ ns.length = i ∧ (∀ n ∈ ns, 1 ≤ n ∧ n ≤ 3) ∧ PenAt H' p q (N + 3 + i) ∧ Tabs [(Pt, QL)] H') ⟨[], upd_same, rfl, fun _ h => by simp at h, ?_, tabs_same tab4 (same_upd nD)⟩ (fun _ _ _ _ => trivial) (fun i x H5 H6 hi q y => ?_) (fun H5 qq => ?_)
        · have e : N + 3 + ((0 : Nat) : Int) = N + 2 + 1 := by omega
          rw [e]
          exact q4.same (same_upd nD)
        · obtain ⟨rfl, rfl⟩ := y
          obtain ⟨ns, hD, hl, hz, pen, tab⟩ := q
          refine ⟨wipe_one _ 15 _, ?_⟩
          dsimp only [tYes]
          rw [if_pos rfl]
          refine ⟨_, rfl, p, q, 3, N + 3 + i, rfl, pen, by omega, by omega, by omega, fun H7 r7 b7 q7 r7a r7b => ⟨_, _, rfl, rfl, ns.map V.int, b7 _ _ hDp hD, by rw [List.length_map, sizeLine_eq]; omega, ns ++ [1 + r7], by rw [List.map_append]; exact upd_same, by simp [hl], fun n hn => ?_, ?_, ?_⟩⟩
          · rcases List.mem_append.mp hn with hn | hn
            · exact hz n hn
            · rw [List.mem_singleton] at hn
              omega
          · obtain ⟨ms, y1, y2, e1, e2, z⟩ := q7
            have e : N + 3 + ((i + 1 : Nat) : Int) = N + 3 + i + 1 := by omega
            rw [e]
            exact ⟨ms, y1, y2, by rw [upd_ne (Ne.symm hDp)]; exact e1, by rw [upd_ne (Ne.symm hDq)]; exact e2, z⟩
          · exact tabs_but (p := D) (tabs_but tab b7 pen.lst) but_upd ⟨_, b7 _ _ hDp hD⟩
        · obtain ⟨ns, hD, hl, hz, pen, tab⟩ := qq
          exact ⟨D, ns, _, rfl, pen, by omega, tab, hD, hDp, by omega, by omega, hz⟩
      rintro σ' H4 ⟨sa, ns, N1, rfl, hp4, hN1, tab4, hsa, hsp, l1, l2, hz⟩
      have hN10 := hp4.pos
      -- live
      refine ⟨fun σ' H' => ∃ v : Int, σ' = [some (.ref a), some (.ref p), some (.int (0 + (t : Int))), some (.int c), some (.int m), some (.ref sa), some (.int v), x7, x8, x9, x10, x11, x12, x13, x14, x15, x16, x17, x18, x19] ∧ Tn K H' p q sa Pt (N1 + 1) c m v ns, ?_, ?_⟩
      · refine ⟨_, rfl, p, q, 5, N1, rfl, hp4, by omega, by omega, by omega, fun H5 r5 b5 q5 r5a r5b => ⟨_, _, rfl, rfl, ?_⟩⟩
        exact ⟨1 + r5, rfl, q5, b5 _ _ hsp hsa, hsp, ⟨l1, l2, hz, hm, by omega⟩, hc, by omega, tabs_but tab4 b5 hp4.lst⟩
      rintro σ' H5 ⟨v, rfl, tn⟩
      have hv1 := tn.fr.v
      have hv5 := tn.v
      have hc1 : 1 ≤ c ∧ c ≤ 12 := by omega
      have okg := tn.ok
      have sa7 := sa7 w okg (by show c ≤ 7; omega) hv5
      -- less
      refine ⟨fun σ' H' => ∃ (ta sb : Addr) (ns' : List Int) (m' v' : Int), σ' = [some (.ref a), some (.ref p), some (.int (0 + (t : Int))), some (.int c), some (.int m), some (.ref sa), some (.int v), some (.ref ta), x8, x9, x10, x11, x12, x13, x14, x15, x16, x17, x18, x19] ∧ Tn K H' p q sa Pt (N1 + 4) c m v ns ∧ Ls K H' p ta sb m' v' ns' m v ns, ?_, ?_⟩
      · refine ⟨_, rfl, _, rfl, _, rfl, _, rfl, sa, _, rfl, sqL_of tn.s, fun u1 nu1 => ?_⟩
        have s6 := same_upd (o := .lst (cutV (ns.map V.int) none (some 1))) nu1
        refine ⟨_, rfl, _, rfl, _, rfl, sa, _, rfl, sqL_of (s6 _ _ tn.s), fun u2 nu2 => ?_⟩
        have s7 := same_upd (o := .lst (cutV (ns.map V.int) (some (-1)) none)) nu2
        refine ⟨by rw [sizeLine_eq]; show 3 ≤ 16777216; omega, fun l nl => ?_⟩
        have s8 := same_upd (o := .lst [.ref sa, .ref u1, .ref u2]) nl
        have tn8 := tn.same ((s6.trans s7).trans s8)
        have hu1 := s8 _ _ (s7 _ _ (upd_same (H := H5) (a := u1) (o := .lst (cutV (ns.map V.int) none (some 1)))))
        have hu2 := s8 _ _ (upd_same (H := upd H5 u1 (.lst (cutV (ns.map V.int) none (some 1)))) (a := u2) (o := .lst (cutV (ns.map V.int) (some (-1)) none)))
        have hlp : l ≠ p := fun z => by
          obtain ⟨_, e⟩ := (tn.same (s6.trans s7)).pen.lst
          rw [← z, nl] at e
          cases e
        have hu1p : u1 ≠ p := fun z => by
          obtain ⟨_, e⟩ := tn.pen.lst
          rw [← z, nu1] at e
          cases e
        have hu2p : u2 ≠ p := fun z => by
          obtain ⟨_, e⟩ := (tn.same s6).pen.lst
          rw [← z, nu2] at e
          cases e
        refine ⟨p, q, l, N1 + 1, [.ref sa, .ref u1, .ref u2], rfl, tn8.pen, by omega, upd_same, hlp, by simp, by simp, fun H7 ix vv b7 q7 hvv => ?_⟩
        obtain ⟨c1, hcut1, c1l, c1s⟩ := cut_first l1
        obtain ⟨c2, hcut2, c2l, c2s⟩ := cut_last l1 l2
        have pk : ∃ (sb : Addr) (ns' : List Int), vv = .ref sb ∧ H7 sb = some (.lst (ns'.map V.int)) ∧ sb ≠ p ∧ 1 ≤ ns'.length ∧ ns'.length ≤ 3 ∧ ∀ n ∈ ns', n ∈ ns := by
          match ix, hvv with
          | 0, e => cases e; exact ⟨sa, ns, rfl, b7 _ _ hsp tn8.s, hsp, l1, l2, fun _ h => h⟩
          | 1, e => cases e; exact ⟨u1, c1, rfl, (b7 _ _ hu1p hu1).trans (by rw [hcut1]), hu1p, by omega, by omega, c1s⟩
          | 2, e => cases e; exact ⟨u2, c2, rfl, (b7 _ _ hu2p hu2).trans (by rw [hcut2]), hu2p, by omega, by omega, c2s⟩
        obtain ⟨sb, ns', rfl, hsb, hsbp, k1, k2, ksub⟩ := pk
        have tn9 := tn8.but b7 q7
        refine ⟨_, rfl, _, rfl, p, q, 2, N1 + 2, rfl, by rw [show N1 + 2 = N1 + 1 + 1 by omega]; exact q7, by omega, by omega, by omega, fun H8 r8 b8 q8 r8a r8b => ⟨_, _, rfl, rfl, ?_⟩⟩
        refine ⟨_, _, rfl, ?_⟩
        have tn10 := tn9.but b8 q8
        refine ⟨_, rfl, _, rfl, p, q, 3, N1 + 3, rfl, by rw [show N1 + 3 = N1 + 2 + 1 by omega]; exact q8, by omega, by omega, by omega, fun H9 r9 b9 q9 r9a r9b => ⟨_, _, rfl, rfl, ?_⟩⟩
        refine ⟨_, _, rfl, ?_⟩
        have tn11 := tn10.but b9 q9
        rw [show N1 + 3 + 1 = N1 + 4 by omega] at tn11
        refine ⟨by rw [sizeLine_eq]; show 3 ≤ 16777216; omega, fun ta nta => ?_⟩
        have s12 := same_upd (o := .tup [.ref sb, .int (if m - r8 > 1 then m - r8 else 1), .int (if v - r9 > 1 then v - r9 else 1)]) nta
        have hm1 := tn.fr.m
        refine ⟨ta, sb, ns', _, _, rfl, tn11.same s12, sqT_of upd_same, s12 _ _ (b9 _ _ hsbp (b8 _ _ hsbp hsb)), hsbp, ⟨k1, k2, fun n hn => hz n (ksub n hn), ?_, ?_⟩, ksub, ?_, ?_⟩
        · split <;> omega
        · split <;> omega
        · split <;> omega
        · split <;> omega
      rintro σ' H6 ⟨ta, sb, ns', m', v', rfl, tn, ls⟩
      have okg' : OkG (mkG c ns' m' v') := ls.fr.ok hc1
      have sa7' := K23.sa7 w okg' (by show c ≤ 7; omega) (by have := ls.v; show v' ≤ 5; omega)
      -- told, its
      refine ⟨fun σ' H' => ∃ (tx ix : Addr) (tb ib : Bool), σ' = [some (.ref a), some (.ref p), some (.int (0 + (t : Int))), some (.int c), some (.int m), some (.ref sa), some (.int v), some (.ref ta), some (.ref tx), some (.ref ix), x10, x11, x12, x13, x14, x15, x16, x17, x18, x19] ∧ Tn K H' p q sa Pt (N1 + 4) c m v ns ∧ Ls K H' p ta sb m' v' ns' m v ns ∧ IsSeat w K H' CS CF tx (mkG c ns m v) tb ∧ IsSeat w K H' CS CF ix (mkG c ns' m' v') ib, ?_, ?_⟩
      · refine ⟨_, rfl, _, rfl, _, rfl, _, rfl, c, sa, ns, m, v, rfl, sqL_of tn.s, tn.fr, hc1, sa7.1, sa7.2, fun H7 tx s7 ht => ?_⟩
        obtain ⟨tb, hst⟩ := ret_seat ht
        have ls7 := ls.same s7
        refine ⟨_, rfl, _, rfl, ta, _, 0, .ref sb, rfl, rfl, ls7.t, rfl, _, rfl, ta, _, 1, .int m', rfl, rfl, ls7.t, rfl, _, rfl, ta, _, 2, .int v', rfl, rfl, ls7.t, rfl, ?_⟩
        refine ⟨c, sb, ns', m', v', rfl, sqL_of ls7.s, ls.fr, hc1, sa7'.1, sa7'.2, fun H8 ix s8 hi => ⟨_, _, rfl, ?_⟩⟩
        obtain ⟨ib, hsi⟩ := ret_seat hi
        exact ⟨tx, ix, tb, ib, rfl, tn.same (s7.trans s8), ls7.same s8, hst.same s8, hsi⟩
      rintro σ' H7 ⟨tx, ix, tb, ib, rfl, tn, ls, st, si⟩
      refine ⟨fun σ' H' => σ' = [some (.ref a), some (.ref p), some (.int (0 + (t : Int))), some (.int c), some (.int m), some (.ref sa), some (.int v), some (.ref ta), some (.ref tx), some (.ref ix), x10, x11, x12, x13, x14, x15, x16, x17, x18, x19] ∧ Same H7 H', ?_, ?_⟩
      · refine ⟨_, rfl, by rw [sizeLine_eq]; show 2 ≤ 16777216; omega, fun tp ntp => ?_⟩
        have s8 := same_upd (o := .tup [.ref CS, .ref CF]) ntp
        have st8 := st.same s8
        obtain ⟨C, ty, k1, k2⟩ := seat_isi L st8
        refine ⟨_, tp, _, _, _, true, rfl, upd_same, .cons (.own _) (.cons (.own _) .nil), ty, k2, _, rfl, iteF ?_⟩
        refine ⟨_, rfl, ?_⟩
        dsimp only [tNil]
        refine seat_bool L st8 ⟨_, rfl, _, _, _, _, _, rfl, .own _, ty, k1, ?_⟩
        refine ⟨.bool tb, .bool tb, .bl _, .bl _, shaped_bool _, shaped_bool _, _, rfl, ?_⟩
        rw [eqv_bool, decide_eq_true rfl]
        exact iteF ⟨rfl, s8⟩
      rintro σ' H8 ⟨rfl, s8⟩
      replace tn := tn.same s8
      replace ls := ls.same s8
      replace st := st.same s8
      replace si := si.same s8
      -- mixed
      refine ⟨fun σ' H' => ∃ (xa : Addr) (xs : List Int), σ' = [some (.ref a), some (.ref p), some (.int (0 + (t : Int))), some (.int c), some (.int m), some (.ref sa), some (.int v), some (.ref ta), some (.ref tx), some (.ref ix), some (.ref xa), x11, x12, x13, x14, x15, x16, x17, x18, x19] ∧ Tn K H' p q sa Pt (N1 + 4 + xs.length) c m v ns ∧ Ls K H' p ta sb m' v' ns' m v ns ∧ IsSeat w K H' CS CF tx (mkG c ns m v) tb ∧ IsSeat w K H' CS CF ix (mkG c ns' m' v') ib ∧ H' xa = some (.lst (xs.map V.int)) ∧ 1 ≤ xs.length ∧ xs.length ≤ 3 ∧ ∀ n, n ∈ xs ↔ n ∈ ns, ?_, ?_⟩
      · refine ⟨_, rfl, _, rfl, _, rfl, _, rfl, sa, _, rfl, .inl (sqL_of tn.s), ?_⟩
        refine ⟨_, _, rfl, rfl, _, rfl, sa, _, rfl, sqL_of tn.s, fun u nu => ?_⟩
        obtain ⟨cs, hcs, hcl, hcm⟩ := cut_rest tn.fr.l1 tn.fr.l2
        rw [hcs]
        have s9 := same_upd (o := .lst (cs.map V.int)) nu
        refine ⟨sa, u, _, _, rfl, rfl, s9 _ _ tn.s, upd_same, ?_, fun y ny => ?_⟩
        · rw [List.length_map, List.length_map, sizeLine_eq]
          omega
        have s10 := same_upd (o := .lst (ns.map V.int ++ cs.map V.int)) ny
        have tn10 := tn.same (s9.trans s10)
        have hyp : y ≠ p := fun z => by
          obtain ⟨_, e⟩ := (tn.same s9).pen.lst
          rw [← z, ny] at e
          cases e
        have hl1 := tn.fr.l1
        refine ⟨p, q, y, N1 + 4, ns ++ cs, rfl, tn10.pen, by rw [List.length_append]; omega, by rw [List.map_append]; exact upd_same, hyp, fun H11 xa xs b11 q11 hxa _ pm => ?_⟩
        have hxl := pm.length_eq
        rw [List.length_append] at hxl
        have q11' : PenAt H11 p q (N1 + 4 + xs.length) := by
          rw [pm.length_eq]
          exact q11
        refine ⟨xa, xs, rfl, tn10.but b11 q11', (ls.same (s9.trans s10)).but b11 tn10.pen.lst, (st.same (s9.trans s10)).but b11 tn10.pen.lst, (si.same (s9.trans s10)).but b11 tn10.pen.lst, hxa, by omega, by omega, fun n => ?_⟩
        rw [pm.mem_iff, List.mem_append]
        exact ⟨fun h => h.elim id (hcm n), .inl⟩
      rintro σ' H9 ⟨xa, xs, rfl, tn, ls, st, si, hxa, x1, x2', hxm⟩
      have frx : Fr xs m v := ⟨x1, x2', fun n hn => hz n ((hxm n).mp hn), tn.fr.m, tn.fr.v⟩
      have eG := canon_mixed hxm c m v
      -- the same, sizes in another order
      refine ⟨fun σ' H' => σ' = [some (.ref a), some (.ref p), some (.int (0 + (t : Int))), some (.int c), some (.int m), some (.ref sa), some (.int v), some (.ref ta), some (.ref tx), some (.ref ix), some (.ref xa), x11, x12, x13, x14, x15, x16, x17, x18, x19] ∧ Same H9 H', ?_, ?_⟩
      · refine ⟨_, rfl, _, rfl, _, rfl, _, rfl, rfl, ?_⟩
        dsimp only [perm4]
        refine ⟨c, xa, xs, m, v, rfl, sqL_of hxa, frx, hc1, by rw [eG]; exact sa7.1, by rw [eG]; exact sa7.2, fun H10 kx s10 hk => ?_⟩
        rw [eG] at hk
        obtain ⟨kb', hsk⟩ := ret_seat hk
        have ekb : kb' = tb := Bool.eq_iff_iff.mpr (hsk.iff.trans st.iff.symm)
        subst ekb
        have st10 := st.same s10
        dsimp only [tNil]
        refine seat_bool L hsk ?_
        refine ⟨_, rfl, ?_⟩
        dsimp only [tNil]
        refine seat_bool L st10 ?_
        refine ⟨.bool kb', .bool kb', .bl _, .bl _, shaped_bool _, shaped_bool _, _, rfl, ?_⟩
        rw [eqv_bool, decide_eq_true rfl]
        refine iteF ?_
        refine ⟨_, rfl, _, rfl, _, rfl, _, rfl, _, rfl, ?_⟩
        dsimp only [tNil]
        refine shows_true okg sa7.1 st10 (sqL_of (s10 _ _ hxa)) frx hc1 (by rw [eG]; exact sa7.1) (fun _ rows h => by rw [eG]; exact h) (fun _ rows h => by rw [eG]; exact h) fun H11 s11 => ?_
        exact ⟨_, _, rfl, rfl, _, rfl, iteF ⟨rfl, s10.trans s11⟩⟩
      rintro σ' H10 ⟨rfl, s10⟩
      replace tn := tn.same s10
      replace ls := ls.same s10
      replace st := st.same s10
      replace si := si.same s10
      have less1 := ls.less tn.fr c
      -- told and not its
      refine ⟨fun σ' H' => σ' = [some (.ref a), some (.ref p), some (.int (0 + (t : Int))), some (.int c), some (.int m), some (.ref sa), some (.int v), some (.ref ta), some (.ref tx), some (.ref ix), some (.ref xa), x11, x12, x13, x14, x15, x16, x17, x18, x19] ∧ Same H10 H', ?_, ?_⟩
      · refine ⟨_, rfl, ?_⟩
        refine seat_tru L st ?_
        cases tb with
        | true =>
          have eib : ib = true := si.iff.mpr fun hw => st.iff.mp rfl (win_less okg' less1 hw (isLay_nil okg'))
          subst eib
          refine iteT ⟨_, rfl, seat_tru L si (iteF ?_)⟩
          refine ⟨_, rfl, _, rfl, ta, _, 0, .ref sb, rfl, rfl, ls.t, rfl, _, rfl, ta, _, 1, .int m', rfl, rfl, ls.t, rfl, _, rfl, ta, _, 2, .int v', rfl, rfl, ls.t, rfl, _, rfl, ?_⟩
          dsimp only [tNil]
          refine shows_true okg' sa7'.1 si (sqL_of ls.s) ls.fr hc1 sa7'.1 (fun _ _ h => h) (fun _ _ h => h) fun H11 s11 => ?_
          exact ⟨_, _, rfl, rfl, _, rfl, iteF ⟨rfl, s11⟩⟩
        | false =>
          refine iteF ?_
          refine ⟨_, rfl, _, rfl, ta, _, 0, .ref sb, rfl, rfl, ls.t, rfl, _, rfl, ta, _, 1, .int m', rfl, rfl, ls.t, rfl, _, rfl, ta, _, 2, .int v', rfl, rfl, ls.t, rfl, _, rfl, ?_⟩
          dsimp only [tNil]
          refine shows_true okg' sa7'.1 si (sqL_of ls.s) ls.fr hc1 sa7'.1 (fun _ _ h => h) (fun _ _ h => h) fun H11 s11 => ?_
          exact ⟨_, _, rfl, rfl, _, rfl, iteF ⟨rfl, s11⟩⟩
      rintro σ' H11 ⟨rfl, s11⟩
      replace tn := tn.same s11
      replace ls := ls.same s11
      replace st := st.same s11
      replace si := si.same s11
      -- if told
      refine ⟨fun σ' H' => ∃ y11 y12, σ' = [some (.ref a), some (.ref p), some (.int (0 + (t : Int))), some (.int c), some (.int m), some (.ref sa), some (.int v), some (.ref ta), some (.ref tx), some (.ref ix), some (.ref xa), y11, y12, x13, x14, x15, x16, x17, x18, x19] ∧ Same H11 H', ?_, ?_⟩
      · refine ⟨_, rfl, ?_⟩
        refine seat_tru L st ?_
        cases tb with
        | false => exact iteF ⟨_, _, rfl, Same.refl _⟩
        | true =>
          refine iteT ?_
          cases st with
          | sv hnw hsv =>
          obtain ⟨rs, rows, Vs, hx, sv, hl⟩ := hsv
          have so := sv_served okg sv
          have hll := sv_len okg sv
          have hxx := hx
          obtain ⟨dx, tv, tr, e1, d1⟩ := hx
          -- rows
          refine ⟨fun σ' H' => ∃ (ra : Addr) (rxs : List V), σ' = [some (.ref a), some (.ref p), some (.int (0 + (t : Int))), some (.int c), some (.int m), some (.ref sa), some (.int v), some (.ref ta), some (.ref tx), some (.ref ix), some (.ref xa), some (.ref ra), x12, x13, x14, x15, x16, x17, x18, x19] ∧ Same H11 H' ∧ H' ra = some (.lst rxs) ∧ DpAll K H' rxs ((rows.filter (letR ns' m' v')).map encS), ?_, ?_⟩
          · refine ⟨_, rfl, tx, CS, dx, _, _, rfl, e1, L.kb.pS.cl, L.kb.pS.r, rfl, _, rfl, ta, _, 0, .ref sb, rfl, rfl, ls.t, rfl, _, rfl, ta, _, 1, .int m', rfl, rfl, ls.t, rfl, _, rfl, ta, _, 2, .int v', rfl, rfl, ls.t, rfl, ?_⟩
            refine ⟨tr, sb, ns', m', v', rows, rfl, d1, hl, hll, sqL_of ls.s, fun H12 ra rxs s12 hra _ dra => ?_⟩
            exact ⟨ra, rxs, rfl, s12, hra, dra⟩
          rintro σ' H12 ⟨ra, rxs, rfl, s12, hra, dra⟩
          have ls12 := ls.same s12
          have tn12 := tn.same s12
          have hx12 := IsR.same s12 hxx
          have lets := served_let ls.fr.z okg' less1 so
          have hlen12 : (rows.filter (letR ns' m' v')).length ≤ 100000 := Nat.le_trans (List.length_filter_le _ _) hl
          refine ⟨fun σ' H' => σ' = [some (.ref a), some (.ref p), some (.int (0 + (t : Int))), some (.int c), some (.int m), some (.ref sa), some (.int v), some (.ref ta), some (.ref tx), some (.ref ix), some (.ref xa), some (.ref ra), x12, x13, x14, x15, x16, x17, x18, x19] ∧ Same H12 H', ?_, ?_⟩
          · refine ⟨_, rfl, _, rfl, ta, _, 0, .ref sb, rfl, rfl, ls12.t, rfl, _, rfl, ta, _, 1, .int m', rfl, rfl, ls12.t, rfl, _, rfl, ta, _, 2, .int v', rfl, rfl, ls12.t, rfl, _, rfl, ?_⟩
            dsimp only [tNil]
            refine make_R2 (C := CS) (u := "served") (n := 5) (d := .list ((rows.filter (letR ns' m' v')).map encS)) (.lst (sqL_of hra) dra) (fits_rows (by omega) fun r hr => fits_encS 0 (hll r (List.mem_filter.mp hr).1)) fun H13 y s13 hy => ?_
            rw [tupD_list tupOnly_encS] at hy
            refine shows_sv true hy hlen12 (fun r hr => hll r (List.mem_filter.mp hr).1) (sqL_of (ls12.same s13).s) ls.fr hc1 sa7'.1 ⟨fun _ => lets, fun _ => rfl⟩ fun H14 s14 => ?_
            refine ⟨_, _, rfl, rfl, _, rfl, iteF ?_⟩
            have s134 := s13.trans s14
            refine ⟨_, rfl, _, _, rfl, rfl, _, rfl, _, rfl, _, rfl, _, rfl, ?_⟩
            dsimp only [tNil]
            have okc : OkG (mkG (c + 1) ns m v) := tn.fr.ok (by have := tn.c; omega)
            refine shows_sv true (IsR.same s134 hx12) hl hll (sqL_of (tn12.same s134).s) tn.fr (by have := tn.c; omega) (K23.sa7 w okc (by show c + 1 ≤ 7; have := tn.c; omega) hv5).1 ⟨fun _ => served_wid (mkG_wid (by omega)) so, fun _ => rfl⟩ fun H15 s15 => ?_
            exact ⟨_, _, rfl, rfl, _, rfl, iteF ⟨rfl, s134.trans s15⟩⟩
          rintro σ' H13 ⟨rfl, s13⟩
          have ls13 := ls12.same s13
          have hx13 := IsR.same s13 hx12
          have hra13 := s13 _ _ hra
          have dra13 := dpAll_same s13 dra
          -- foreign
          refine ⟨fun σ' H' => ∃ (fa : Addr) (fxs : List V), σ' = [some (.ref a), some (.ref p), some (.int (0 + (t : Int))), some (.int c), some (.int m), some (.ref sa), some (.int v), some (.ref ta), some (.ref tx), some (.ref ix), some (.ref xa), some (.ref ra), some (.ref fa), x13, x14, x15, x16, x17, x18, x19] ∧ Same H13 H' ∧ H' fa = some (.lst fxs) ∧ DpAll K H' fxs ((rows.filter (forR ns' m' v')).map encS), ?_, ?_⟩
          · obtain ⟨dx', tv', tr', e1', d1'⟩ := hx13
            have d1c := d1'
            cases d1' with
            | @tup rp rxs' _ sq' da' =>
            refine ⟨_, rfl, tx, CS, dx', _, _, rfl, e1', L.kb.pS.cl, L.kb.pS.r, rfl, rp, rfl, ⟨_, sq'⟩, fun D nD => ?_⟩
            refine lcB_T (K := K) (bs := rows) (enc := encS) (keep := forR ns' m' v') (F := encS) (by omega) sq' nD da' (fun r _ _ => tupOnly_encS r) (fun x r H14 s14 hx hmem R S hR hS => ?_) (fun H14 zs s14 eD hzs => ?_)
            · refine ⟨wipe_one _ 17 _, ?_⟩
              have lsT := (ls13.same s14).t
              have hx0 := hx
              obtain ⟨p1, l1, rfl, sp1, dl1⟩ := dp_encS hx
              obtain ⟨lp, lx, rfl, sl1, dlx⟩ := dp_encL dl1
              have hlen := dpAll_len dlx
              rw [List.length_map] at hlen
              have hr1000 := hll r hmem
              have hfor : forR ns' m' v' r = (decide ((r.1.length : Int) > m') || (decide (total r.1 > v') || !(r.1.all fun b => decide (b.2 ∈ ns')))) := rfl
              refine ⟨_, rfl, p1, _, 0, .ref lp, rfl, rfl, sp1, rfl, lp, lx, rfl, .inr sl1, _, rfl, ta, _, 1, .int m', rfl, rfl, lsT, rfl, _, _, rfl, rfl, _, rfl, ?_⟩
              rw [hlen]
              by_cases h1 : (r.1.length : Int) > m'
              case pos =>
                rw [decide_eq_true h1]
                exact iteT (iteT ⟨_, rfl, hR _ _ (Same.refl _) (by rw [hfor, decide_eq_true h1, Bool.true_or]) hx0⟩)
              rw [decide_eq_false h1]
              refine iteF ?_
              refine ⟨_, rfl, p1, _, 0, .ref lp, rfl, rfl, sp1, rfl, lp, rfl, ⟨_, sl1⟩, fun D1 nD1 => ?_⟩
              refine lcB_T (K := K) (bs := r.1) (enc := encB) (keep := fun _ => true) (F := fun b => .int b.2) (by omega) sl1 nD1 dlx (fun b _ _ => rfl) (fun x b H15 s15 hx hmem R S hR hS => ?_) (fun H15 zs2 s15 eD1 hzs => ?_)
              · obtain ⟨q2, rfl, sq2⟩ := dp_encB hx
                refine ⟨q2, _, rfl, sq2, rfl, _, _, rfl, _, _, rfl, rfl, wipe_two _ 18 19 _ _, ?_⟩
                dsimp only [tYes]
                rw [if_pos rfl]
                exact ⟨_, rfl, hR _ _ (Same.refl _) rfl (.int _)⟩
              rw [filter_ttB] at hzs
              have ez : zs2 = (r.1.map (·.2)).map V.int := ints_of (by rw [List.map_map]; exact hzs)
              subst ez
              refine ⟨D1, _, rfl, sqL_of eD1, _, rfl, ta, _, 2, .int v', rfl, rfl, sqT_same s15 lsT, rfl, _, _, rfl, rfl, _, rfl, ?_⟩
              by_cases h2 : total r.1 > v'
              case pos =>
                rw [show decide ((r.1.map (·.2)).sum > v') = true from decide_eq_true h2]
                exact iteT (iteT ⟨_, rfl, hR _ _ s15 (by rw [hfor, decide_eq_true h2, Bool.true_or, Bool.or_true]) (dp_same s15 hx0)⟩)
              rw [show decide ((r.1.map (·.2)).sum > v') = false from decide_eq_false h2]
              refine iteF ?_
              refine ⟨_, rfl, p1, _, 0, .ref lp, rfl, rfl, sqT_same s15 sp1, rfl, lp, rfl, ⟨_, sqT_same s15 sl1⟩, fun D2 nD2 => ?_⟩
              refine lcB_T (K := K) (bs := r.1) (enc := encB) (keep := fun b => decide (b.2 ∉ ns')) (F := fun b => .int b.2) (by omega) (sqT_same s15 sl1) nD2 (dpAll_same s15 dlx) (fun b _ _ => rfl) (fun x b H16 s16 hx hmem R S hR hS => ?_) (fun H16 zs3 s16 eD2 hzs3 => ?_)
              · obtain ⟨q2, rfl, sq2⟩ := dp_encB hx
                refine ⟨q2, _, rfl, sq2, rfl, _, _, rfl, _, _, rfl, rfl, wipe_two _ 18 19 _ _, ?_⟩
                refine ⟨_, rfl, _, rfl, ta, _, 0, .ref sb, rfl, rfl, sqT_same (s15.trans s16) lsT, rfl, sb, _, rfl, .inl (sqL_of ((s15.trans s16) _ _ (s14 _ _ ls13.s))), rfl, flat_ints _, _, rfl, ?_⟩
                rw [if_pos rfl, inV_int]
                by_cases c2 : b.2 ∈ ns'
                · rw [decide_eq_true c2]
                  exact iteF (hS _ (Same.refl _) (decide_eq_false (fun h => h c2)))
                · rw [decide_eq_false c2]
                  exact iteT ⟨_, rfl, hR _ _ (Same.refl _) (decide_eq_true c2) (.int _)⟩
              refine ⟨by rw [sizeLine_eq]; show 0 ≤ 16777216; omega, fun e1 ne1 => ?_⟩
              have s17 := same_upd (o := .lst []) ne1
              have s167 := s16.trans s17
              refine ⟨.list (((r.1.filter fun b => decide (b.2 ∉ ns')).map (·.2)).map PyData.int), .list [], .lst (sqL_of (s17 _ _ eD2)) (dpAll_same s17 (by rw [List.map_map]; exact hzs3)), .lst (sqL_of upd_same) .nil, shaped_ints _, by decide +kernel, _, rfl, ?_⟩
              rw [eqv_nilI]
              by_cases c2 : ∀ b ∈ r.1, b.2 ∈ ns'
              case neg =>
                have h2' : (r.1.all fun b => decide (b.2 ∈ ns')) = false := by
                  cases h : (r.1.all fun b => decide (b.2 ∈ ns')) with
                  | false => rfl
                  | true => exact absurd (fun b hb => of_decide_eq_true (List.all_eq_true.mp h b hb)) c2
                have h3 : ¬ ((r.1.filter fun b => decide (b.2 ∉ ns')).map (·.2)) = [] := fun h => c2 fun b hb => by
                  have h5 := List.filter_eq_nil_iff.mp (List.map_eq_nil_iff.mp h) b hb
                  simpa using h5
                rw [decide_eq_false h3]
                exact iteT ⟨_, rfl, hR _ _ (s15.trans s167) (by rw [hfor, h2', Bool.not_false, Bool.or_true, Bool.or_true]) (dp_same (s15.trans s167) hx0)⟩
              have h2' : (r.1.all fun b => decide (b.2 ∈ ns')) = true := List.all_eq_true.mpr fun b hb => decide_eq_true (c2 b hb)
              have h3 : ((r.1.filter fun b => decide (b.2 ∉ ns')).map (·.2)) = [] := by
                rw [List.filter_eq_nil_iff.mpr fun b hb => by simpa using c2 b hb]
                rfl
              rw [decide_eq_true h3]
              exact iteF (hS _ (s15.trans s167) (by rw [hfor, decide_eq_false h1, decide_eq_false h2, h2'] <;> rfl))
            · exact ⟨D, zs, rfl, s14, eD, hzs⟩
          rintro σ' H14 ⟨fa, fxs, rfl, s14, hfa, dfa⟩
          have ls14 := ls13.same s14
          have hx14 := IsR.same s14 hx13
          have hra14 := s14 _ _ hra13
          have dra14 := dpAll_same s14 dra13
          -- foreign ones show nothing
          refine ⟨fun σ' H' => σ' = [some (.ref a), some (.ref p), some (.int (0 + (t : Int))), some (.int c), some (.int m), some (.ref sa), some (.int v), some (.ref ta), some (.ref tx), some (.ref ix), some (.ref xa), some (.ref ra), some (.ref fa), x13, x14, x15, x16, x17, x18, x19] ∧ Same H14 H', ?_, ?_⟩
          · refine ⟨_, rfl, by rw [sizeLine_eq]; show 0 ≤ 16777216; omega, fun e1 ne1 => ?_⟩
            have s15 := same_upd (o := .lst []) ne1
            refine ⟨.list ((rows.filter (forR ns' m' v')).map encS), .list [], .lst (sqL_of (s15 _ _ hfa)) (dpAll_same s15 dfa), .lst (sqL_of upd_same) .nil, shaped_S _, by decide +kernel, _, rfl, ?_⟩
            rw [eqv_nilG]
            by_cases hne : rows.filter (forR ns' m' v') = []
            · rw [decide_eq_true hne]
              exact iteF (iteF ⟨rfl, s15⟩)
            rw [decide_eq_false hne]
            refine iteT ?_
            have ls15 := ls14.same s15
            refine ⟨_, rfl, _, rfl, ta, _, 0, .ref sb, rfl, rfl, ls15.t, rfl, _, rfl, ta, _, 1, .int m', rfl, rfl, ls15.t, rfl, _, rfl, ta, _, 2, .int v', rfl, rfl, ls15.t, rfl, _, rfl, ?_⟩
            dsimp only [tNil]
            refine shows_sv false (IsR.same s15 hx14) hl hll (sqL_of ls15.s) ls.fr hc1 sa7'.1 ⟨(fun h => nomatch h), fun h => absurd h (foreign_not ls.fr.z hne)⟩ fun H16 s16 => ?_
            exact ⟨_, _, rfl, rfl, _, rfl, iteF ⟨rfl, s15.trans s16⟩⟩
          rintro σ' H15 ⟨rfl, s15⟩
          have ls15 := ls14.same s15
          have hra15 := s15 _ _ hra14
          have dra15 := dpAll_same s15 dra14
          -- without the rows of no blocks
          refine ⟨_, rfl, by rw [sizeLine_eq]; show 0 ≤ 16777216; omega, fun e1 ne1 => ?_⟩
          have s16 := same_upd (o := .lst []) ne1
          refine ⟨.list ((rows.filter (letR ns' m' v')).map encS), .list [], .lst (sqL_of (s16 _ _ hra15)) (dpAll_same s16 dra15), .lst (sqL_of upd_same) .nil, shaped_S _, by decide +kernel, _, rfl, ?_⟩
          rw [eqv_nilG]
          have s126 := (((s12.trans s13).trans s14).trans s15).trans s16
          by_cases hne : rows.filter (letR ns' m' v') = []
          · rw [decide_eq_true hne]
            exact iteF (iteF ⟨_, _, rfl, s126⟩)
          rw [decide_eq_false hne]
          refine iteT ?_
          have ls16 := ls15.same s16
          have dra16 := dpAll_same s16 dra15
          have hra16 := s16 _ _ hra15
          refine ⟨_, rfl, _, rfl, ta, _, 0, .ref sb, rfl, rfl, ls16.t, rfl, _, rfl, ta, _, 1, .int m', rfl, rfl, ls16.t, rfl, _, rfl, ta, _, 2, .int v', rfl, rfl, ls16.t, rfl, _, rfl, ?_⟩
          refine ⟨ra, rfl, ⟨_, sqL_of hra16⟩, fun D nD => ?_⟩
          have hflen : (rows.filter (letR ns' m' v')).length ≤ 1000000 := by omega
          refine lcB_L (K := K) (bs := rows.filter (letR ns' m' v')) (enc := encS) (keep := fun r => decide (r.1 ≠ [])) (F := encS) hflen (sqL_of hra16) nD dra16 (fun r _ _ => tupOnly_encS r) (fun x r H17 s17 hx hmem R S hR hS => ?_) (fun H17 zs s17 eD hzs => ?_)
          · refine ⟨wipe_one _ 17 _, ?_⟩
            have hx0 := hx
            obtain ⟨p1, l1, rfl, sp1, dl1⟩ := dp_encS hx
            refine ⟨_, rfl, p1, _, 0, l1, rfl, rfl, sp1, rfl, by rw [sizeLine_eq]; show 0 ≤ 16777216; omega, fun e0 ne0 => ?_⟩
            have s18 := same_upd (o := .tup []) ne0
            refine ⟨encL r.1, .tuple [], dp_same s18 dl1, .tup (sqT_of upd_same) .nil, shaped_L _, by decide +kernel, _, rfl, ?_⟩
            rw [eqv_layNil]
            by_cases hnil : r.1 = []
            · rw [decide_eq_true hnil]
              exact iteF (hS _ s18 (decide_eq_false fun h => h hnil))
            · rw [decide_eq_false hnil]
              exact iteT ⟨_, rfl, hR _ _ s18 (decide_eq_true hnil) (dp_same s18 hx0)⟩
          dsimp only [tNil]
          refine make_R2 (C := CS) (u := "served") (n := 5) (d := .list (((rows.filter (letR ns' m' v')).filter fun r => decide (r.1 ≠ [])).map encS)) (.lst (sqL_of eD) hzs) (fits_rows (Nat.le_trans (List.length_filter_le _ _) hflen) fun r hr => fits_encS 0 (hll r (List.mem_filter.mp (List.mem_filter.mp hr).1).1)) fun H18 y s18 hy => ?_
          rw [tupD_list tupOnly_encS] at hy
          have hpos : ∀ r ∈ rows, ∀ b ∈ r.1, 1 ≤ b.2 := fun r hr => (served_lay so hr).pos okg
          have s168 := s17.trans s18
          refine shows_sv false hy (Nat.le_trans (List.length_filter_le _ _) hlen12) (fun r hr => hll r (List.mem_filter.mp (List.mem_filter.mp hr).1).1) (sqL_of (ls16.same s168).s) ls.fr hc1 sa7'.1 ⟨(fun h => nomatch h), fun h => absurd h (served_noNil ls.fr.m.1 ls.fr.z hpos hne)⟩ fun H19 s19 => ?_
          exact ⟨_, _, rfl, rfl, _, rfl, iteF ⟨_, _, rfl, (s126.trans s168).trans s19⟩⟩
      rintro σ' H12 ⟨y11, y12, rfl, s12⟩
      replace tn := tn.same s12
      replace ls := ls.same s12
      replace st := st.same s12
      replace si := si.same s12
      -- if not its
      refine ⟨fun σ' H' => σ' = [some (.ref a), some (.ref p), some (.int (0 + (t : Int))), some (.int c), some (.int m), some (.ref sa), some (.int v), some (.ref ta), some (.ref tx), some (.ref ix), some (.ref xa), y11, y12, x13, x14, x15, x16, x17, x18, x19] ∧ Same H12 H', ?_, ?_⟩
      · refine ⟨_, rfl, ?_⟩
        refine seat_tru L si ?_
        cases ib with
        | true => exact iteF ⟨rfl, Same.refl _⟩
        | false =>
          refine iteT ?_
          have hwin : Win (mkG c ns m v) [] := by
            cases si with
            | fo hw _ => exact win_less okg' less1 hw (isLay_nil okg')
          have si0 := si
          cases si with
          | fo hw hfo =>
          obtain ⟨rs, rows, hx, rk, fo⟩ := hfo
          obtain ⟨hl, hll⟩ := fo_len okg' sa7'.1 rk fo
          have fok := fr_forced okg' rk fo
          refine ⟨fun σ' H' => σ' = [some (.ref a), some (.ref p), some (.int (0 + (t : Int))), some (.int c), some (.int m), some (.ref sa), some (.int v), some (.ref ta), some (.ref tx), some (.ref ix), some (.ref xa), y11, y12, x13, x14, x15, x16, x17, x18, x19] ∧ Same H12 H', ?_, ?_⟩
          · refine ⟨_, rfl, _, rfl, _, rfl, _, rfl, _, rfl, ?_⟩
            dsimp only [tNil]
            refine shows_fo true hx hl hll (sqL_of tn.s) tn.fr hc1 sa7.1 ⟨fun _ => forced_less less1 fok, fun _ => rfl⟩ fun H13 s13 => ?_
            refine ⟨_, _, rfl, rfl, _, rfl, iteF ?_⟩
            refine ⟨_, rfl, _, rfl, _, rfl, _, rfl, by rw [sizeLine_eq]; show 0 ≤ 16777216; omega, fun e1 ne1 => ?_⟩
            have s14 := same_upd (o := .lst []) ne1
            dsimp only [tNil]
            refine make_R2 (C := CS) (u := "served") (n := 5) (d := .list (([] : List SRow).map encS)) (.lst (sqL_of upd_same) .nil) (fits_rows (by simp) fun r hr => nomatch hr) fun H15 y s15 hy => ?_
            rw [tupD_list tupOnly_encS] at hy
            have s135 := (s13.trans s14).trans s15
            refine shows_sv false hy (by simp) (fun r hr => nomatch hr) (sqL_of (tn.same s135).s) tn.fr hc1 sa7.1 ⟨(fun h => nomatch h), fun h => absurd h (served_empty hwin)⟩ fun H16 s16 => ?_
            exact ⟨_, _, rfl, rfl, _, rfl, iteF ⟨rfl, s135.trans s16⟩⟩
          rintro σ' H13 ⟨rfl, s13⟩
          have hx13 := IsR.same s13 hx
          have hxx := hx13
          obtain ⟨dx', tv', tr', e1', d1'⟩ := hx13
          cases d1' with
          | @tup rp rxs' _ sq' da' =>
          refine ⟨_, rfl, ix, CF, dx', _, _, rfl, e1', L.kb.pF.cl, L.kb.pF.r, rfl, rp, rfl, ⟨_, sq'⟩, fun D nD => ?_⟩
          refine lcB_T (K := K) (bs := rows) (enc := encF) (keep := fun r => decide (r.1 ≠ [])) (F := encF) (by omega) sq' nD da' (fun r _ _ => tupOnly_encF r) (fun x r H17 s17 hx hmem R S hR hS => ?_) (fun H14 zs sH14 eD hzs => ?_)
          · refine ⟨wipe_one _ 17 _, ?_⟩
            have hx0 := hx
            obtain ⟨p1, l1, m1', rfl, sp1, dl1, _⟩ := dp_encF hx
            refine ⟨_, rfl, p1, _, 0, l1, rfl, rfl, sp1, rfl, by rw [sizeLine_eq]; show 0 ≤ 16777216; omega, fun e0 ne0 => ?_⟩
            have s18 := same_upd (o := .tup []) ne0
            refine ⟨encL r.1, .tuple [], dp_same s18 dl1, .tup (sqT_of upd_same) .nil, shaped_L _, by decide +kernel, _, rfl, ?_⟩
            rw [eqv_layNil]
            by_cases hnil : r.1 = []
            · rw [decide_eq_true hnil]
              exact iteF (hS _ s18 (decide_eq_false fun h => h hnil))
            · rw [decide_eq_false hnil]
              exact iteT ⟨_, rfl, hR _ _ s18 (decide_eq_true hnil) (dp_same s18 hx0)⟩
          refine ⟨by rw [sizeLine_eq]; show 0 ≤ 16777216; omega, fun e1 ne1 => ?_⟩
          have s15 := same_upd (o := .lst []) ne1
          refine ⟨.list ((rows.filter fun r : RRow => decide (r.1 ≠ [])).map encF), .list [], .lst (sqL_of (s15 _ _ eD)) (dpAll_same s15 hzs), .lst (sqL_of upd_same) .nil, shaped_F _, by decide +kernel, _, rfl, ?_⟩
          rw [eqv_nilG]
          have s145 := sH14.trans s15
          by_cases hne : (rows.filter fun r : RRow => decide (r.1 ≠ [])) = []
          · rw [decide_eq_true hne]
            exact iteF (iteF ⟨rfl, s13.trans s145⟩)
          rw [decide_eq_false hne]
          refine iteT ?_
          refine ⟨_, rfl, _, rfl, _, rfl, _, rfl, _, rfl, ix, CF, dx', _, _, rfl, s145 _ _ e1', L.kb.pF.cl, L.kb.pF.r, rfl, rp, rfl, ⟨_, sqT_same s145 sq'⟩, fun D2 nD2 => ?_⟩
          refine lcB_T (K := K) (bs := rows) (enc := encF) (keep := fun r => decide (r.1 ≠ [])) (F := encF) (by omega) (sqT_same s145 sq') nD2 (dpAll_same s145 da') (fun r _ _ => tupOnly_encF r) (fun x r H17 s17 hx hmem R S hR hS => ?_) (fun H16 zs2 sH16 eD2 hzs2 => ?_)
          · refine ⟨wipe_one _ 17 _, ?_⟩
            have hx0 := hx
            obtain ⟨p1, l1, m1', rfl, sp1, dl1, _⟩ := dp_encF hx
            refine ⟨_, rfl, p1, _, 0, l1, rfl, rfl, sp1, rfl, by rw [sizeLine_eq]; show 0 ≤ 16777216; omega, fun e0 ne0 => ?_⟩
            have s18 := same_upd (o := .tup []) ne0
            refine ⟨encL r.1, .tuple [], dp_same s18 dl1, .tup (sqT_of upd_same) .nil, shaped_L _, by decide +kernel, _, rfl, ?_⟩
            rw [eqv_layNil]
            by_cases hnil : r.1 = []
            · rw [decide_eq_true hnil]
              exact iteF (hS _ s18 (decide_eq_false fun h => h hnil))
            · rw [decide_eq_false hnil]
              exact iteT ⟨_, rfl, hR _ _ s18 (decide_eq_true hnil) (dp_same s18 hx0)⟩
          dsimp only [tNil]
          refine make_R2 (C := CF) (u := "forced") (n := 5) (d := .list ((rows.filter fun r : RRow => decide (r.1 ≠ [])).map encF)) (.lst (sqL_of eD2) hzs2) (fits_rows (Nat.le_trans (List.length_filter_le _ _) (by omega)) fun r hr => fits_encF 0 (hll r (List.mem_filter.mp hr).1)) fun H18 y s18 hy => ?_
          rw [tupD_list tupOnly_encF] at hy
          have s138 := ((s13.trans s145).trans sH16).trans s18
          refine shows_fo false hy (Nat.le_trans (List.length_filter_le _ _) hl) (fun r hr => hll r (List.mem_filter.mp hr).1) (sqL_of (tn.same s138).s) tn.fr hc1 sa7.1 ⟨(fun h => nomatch h), fun h => absurd h forced_noNil⟩ fun H19 s19 => ?_
          exact ⟨_, _, rfl, rfl, _, rfl, iteF ⟨rfl, s138.trans s19⟩⟩
      rintro σ' H13 ⟨rfl, s13⟩
      replace tn := tn.same s13
      replace ls := ls.same s13
      replace st := st.same s13
      replace si := si.same s13
      obtain ⟨l0, hl0, least⟩ := least_ex tn.fr hv5
      obtain ⟨f0, hf0, leastF⟩ := least_ex ls.fr (by have := ls.v; omega)
      -- the least numbers
      refine ⟨fun σ' H' => ∃ fa la : Addr, σ' = [some (.ref a), some (.ref p), some (.int (0 + (t : Int))), some (.int c), some (.int m), some (.ref sa), some (.int v), some (.ref ta), some (.ref tx), some (.ref ix), some (.ref xa), y11, y12, some (.ref fa), some (.ref la), x15, x16, x17, x18, x19] ∧ Tn K H' p q sa Pt (N1 + 4 + xs.length) c m v ns ∧ IsSeat w K H' CS CF tx (mkG c ns m v) tb ∧ IsSeat w K H' CS CF ix (mkG c ns' m' v') ib ∧ H' fa = some (.lst [.int f0]) ∧ H' la = some (.lst [.int l0]), ?_, ?_⟩
      · refine ⟨tn.tab, fun H14 e14 tab14 H15 s15 Q' hQ' => ?_⟩
        have ls15 := (ls.extN e14).same s15
        have tn15 := (tn.extN e14 tab14).same s15
        have st15 := (st.extN e14).same s15
        have si15 := (si.extN e14).same s15
        refine ⟨_, rfl, ta, _, 0, .ref sb, rfl, rfl, ls15.t, rfl, _, rfl, ta, _, 1, .int m', rfl, rfl, ls15.t, rfl, _, rfl, ta, _, 2, .int v', rfl, rfl, ls15.t, rfl, ?_⟩
        refine least_sp (E := C8.E0) ls15.s ls.fr leastF hf0 (by have := ls.v; omega) fun H16 s16 => hQ' _ _ fun fa nfa => ?_
        have s17 := same_upd (o := .lst [.int f0]) nfa
        have s167 := s16.trans s17
        have tn17 := tn15.same s167
        refine ⟨tn17.tab, fun H18 e18 tab18 H19 s19 Q2 hQ2 => ?_⟩
        have tn19 := (tn17.extN e18 tab18).same s19
        have hfa19 := s19 _ _ (lst_extN e18 (upd_same (H := H16) (a := fa) (o := .lst [.int f0])))
        refine ⟨_, rfl, _, rfl, _, rfl, ?_⟩
        refine least_sp (E := C8.E0) tn19.s tn.fr least hl0 hv5 fun H20 s20 => hQ2 _ _ fun la nla => ⟨_, _, rfl, ?_⟩
        have s21 := same_upd (o := .lst [.int l0]) nla
        have s201 := s20.trans s21
        exact ⟨fa, la, rfl, tn19.same s201, (((st15.same s167).extN e18).same s19).same s201, (((si15.same s167).extN e18).same s19).same s201, s201 _ _ hfa19, upd_same⟩
      rintro σ' H14 ⟨fa, la, rfl, tn, st, si, hfa, hla⟩
      refine ⟨fun σ' H' => σ' = [some (.ref a), some (.ref p), some (.int (0 + (t : Int))), some (.int c), some (.int m), some (.ref sa), some (.int v), some (.ref ta), some (.ref tx), some (.ref ix), some (.ref xa), y11, y12, some (.ref fa), some (.ref la), x15, x16, x17, x18, x19] ∧ Same H14 H', ?_, ?_⟩
      · refine ⟨_, rfl, fa, _, 0, .int f0, rfl, rfl, sqL_of hfa, rfl, .int f0, .str "many", .int _, .str _, shaped_i _, by decide +kernel, _, rfl, ?_⟩
        rw [eqv_is]
        refine iteF ?_
        refine ⟨_, rfl, la, _, 0, .int l0, rfl, rfl, sqL_of hla, rfl, .int l0, .str "many", .int _, .str _, shaped_i _, by decide +kernel, _, rfl, ?_⟩
        rw [eqv_is]
        refine iteF ?_
        have hfl := leastF.le least ls.fr (by omega) (ls.less tn.fr l0)
        refine ⟨_, rfl, fa, _, 0, .int f0, rfl, rfl, sqL_of hfa, rfl, _, rfl, la, _, 0, .int l0, rfl, rfl, sqL_of hla, rfl, _, _, rfl, rfl, _, rfl, ?_⟩
        rw [decide_eq_false (by omega : ¬ f0 > l0)]
        refine iteF ?_
        refine ⟨_, rfl, la, _, 0, .int l0, rfl, rfl, sqL_of hla, rfl, _, rfl, _, _, rfl, rfl, _, rfl, ?_⟩
        dsimp only [tNil]
        refine seat_bool L st ⟨.bool (decide (l0 ≤ c)), .bool tb, .bl _, .bl _, shaped_bool _, shaped_bool _, _, rfl, ?_⟩
        have e1 : decide (l0 ≤ c) = tb := Bool.eq_iff_iff.mpr (by rw [decide_eq_true_iff, least.le_iff hc.1, st.iff])
        rw [eqv_bool, decide_eq_true e1]
        refine iteF ?_
        refine ⟨_, rfl, fa, _, 0, .int f0, rfl, rfl, sqL_of hfa, rfl, _, rfl, _, _, rfl, rfl, _, rfl, ?_⟩
        dsimp only [tNil]
        refine seat_bool L si ⟨.bool (decide (f0 ≤ c)), .bool ib, .bl _, .bl _, shaped_bool _, shaped_bool _, _, rfl, ?_⟩
        have e2 : decide (f0 ≤ c) = ib := Bool.eq_iff_iff.mpr (by rw [decide_eq_true_iff, leastF.le_iff hc.1, si.iff])
        rw [eqv_bool, decide_eq_true e2]
        exact iteF ⟨rfl, Same.refl _⟩
      rintro σ' H15 ⟨rfl, s15⟩
      replace tn := tn.same s15
      obtain ⟨N2, hN2e, hN2⟩ : ∃ N2, N1 + 4 + (xs.length : Int) = N2 ∧ N2 ≤ N + 13 := ⟨_, rfl, by omega⟩
      rw [hN2e] at tn
      have hN20 := tn.pen.pos
      -- one size, any live cells
      refine ⟨fun σ' H' => ∃ z lv : Int, σ' = [some (.ref a), some (.ref p), some (.int (0 + (t : Int))), some (.int c), some (.int m), some (.ref sa), some (.int v), some (.ref ta), some (.ref tx), some (.ref ix), some (.ref xa), y11, y12, some (.ref fa), some (.ref la), some (.int z), some (.int lv), x17, x18, x19] ∧ Tn K H' p q sa Pt (N2 + 2) c m v ns ∧ (1 ≤ z ∧ z ≤ 3) ∧ (1 ≤ lv ∧ lv ≤ 12), ?_, ?_⟩
      · refine ⟨_, rfl, p, q, 3, N2, rfl, tn.pen, by omega, by omega, by omega, fun H16 r6 b6 q6 r6a r6b => ⟨_, _, rfl, rfl, ?_⟩⟩
        have tn16 := tn.but b6 q6
        refine ⟨_, rfl, p, q, 12, N2 + 1, rfl, q6, by omega, by omega, by omega, fun H17 r7 b7 q7 r7a r7b => ⟨_, _, rfl, rfl, ?_⟩⟩
        have tn17 := tn16.but b7 q7
        rw [show N2 + 1 + 1 = N2 + 2 by omega] at tn17
        exact ⟨_, _, rfl, 1 + r6, 1 + r7, rfl, tn17, by omega, by omega⟩
      rintro σ' H16 ⟨z, lv, rfl, tn, hz1, hlv⟩
      -- one size
      refine ⟨fun σ' H' => σ' = [some (.ref a), some (.ref p), some (.int (0 + (t : Int))), some (.int c), some (.int m), some (.ref sa), some (.int v), some (.ref ta), some (.ref tx), some (.ref ix), some (.ref xa), y11, y12, some (.ref fa), some (.ref la), some (.int z), some (.int lv), x17, x18, x19] ∧ Tn K H' p q sa Pt (N2 + 3) c m v ns, ?_, ?_⟩
      · refine ⟨_, rfl, by rw [sizeLine_eq]; show 1 ≤ 16777216; omega, fun u nu => ?_⟩
        have s17 := same_upd (o := .lst [.int z]) nu
        have tn17 := tn.same s17
        have hup : u ≠ p := fun e => by
          obtain ⟨_, e'⟩ := tn.pen.lst
          rw [← e, nu] at e'
          cases e'
        refine ⟨_, rfl, p, q, 3, N2 + 2, rfl, tn17.pen, by omega, by omega, by omega, fun H18 r8 b8 q8 r8a r8b => ⟨_, _, rfl, rfl, ?_⟩⟩
        have tn18 := tn17.but b8 q8
        rw [show N2 + 2 + 1 = N2 + 3 by omega] at tn18
        have hu18 := b8 _ _ hup (upd_same (H := H16) (a := u) (o := .lst [.int z]))
        refine ⟨u, 1 + r8, _, rfl, rfl, hu18, by omega, by omega, by rw [sizeLine_eq]; show 1 * _ ≤ 16777216; omega, fun y ny => ?_⟩
        rw [rep_flat]
        have s19 := same_upd (o := .lst ((List.replicate (1 + r8).toNat z).map V.int)) ny
        have tn19 := tn18.same s19
        have hmem : ∀ n, n ∈ List.replicate (1 + r8).toNat z ↔ n = z := fun n => by
          rw [List.mem_replicate]
          exact ⟨fun h => h.2, fun h => ⟨by omega, h⟩⟩
        have frz : Fr (List.replicate (1 + r8).toNat z) m lv := ⟨by rw [List.length_replicate]; omega, by rw [List.length_replicate]; omega, fun n hn => by rw [(hmem n).mp hn]; exact hz1, tn.fr.m, hlv⟩
        obtain ⟨lst1, l12⟩ := least_one hz1 hmem tn.fr.m hlv
        refine ⟨_, rfl, _, rfl, y, List.replicate (1 + r8).toNat z, m, lv, _, rfl, sqL_of upd_same, frz, ⟨lst1.pos, l12⟩, fun c' h1 h2 => sa12 w (frz.ok ⟨h1, by omega⟩) (canon_one hz1 hmem), fun c' h1 h2 => lst1.below c' h1 h2, lst1.at_, fun H20 s20 => ?_⟩
        refine ⟨_, rfl, _, rfl, _, rfl, _, rfl, lv, z, rfl, rfl, ⟨by omega, by omega⟩, ?_⟩
        refine ⟨_, _, rfl, ?_⟩
        refine ⟨_, _, rfl, rfl, .inl ⟨by omega, by omega⟩, ?_⟩
        refine ⟨_, _, rfl, ?_⟩
        have efd : lv.fdiv z = lv / z := Int.fdiv_eq_ediv_of_nonneg _ (by omega)
        have emin : (if lv.fdiv z < m then lv.fdiv z else m) = min m (lv / z) := by
          rw [efd]
          split <;> omega
        rw [emin]
        have emax : (if z * min m (lv / z) > 1 then z * min m (lv / z) else 1) = max 1 (z * min m (lv / z)) := by
          split <;> omega
        rw [emax]
        have ene : (!decide (V.int (max 1 (z * min m (lv / z))) = V.int (max 1 (z * min m (lv / z))))) = false := by simp
        refine ⟨rfl, _, rfl, ?_⟩
        rw [ene]
        exact iteF ⟨rfl, tn19.same s20⟩
      rintro σ' H17 ⟨rfl, tn⟩
      -- one block
      have hfil : ((1 : Int) :: ns.filter fun z => decide (z ≤ v)) ≠ [] := by simp
      obtain ⟨c0, hc0, hc0m⟩ := max_ex _ hfil
      have fr1 : Fr ns 1 v := ⟨tn.fr.l1, tn.fr.l2, tn.fr.z, by omega, tn.fr.v⟩
      have lst1 : Least ns 1 v c0 := by
        refine least_single fr1 (hc0m 1 List.mem_cons_self) ?_ fun z hz' hzv => hc0m z (List.mem_cons_of_mem _ (List.mem_filter.mpr ⟨hz', decide_eq_true hzv⟩))
        rcases List.mem_cons.mp hc0 with h | h
        · exact .inl h
        · exact .inr ⟨(List.mem_filter.mp h).1, of_decide_eq_true (List.mem_filter.mp h).2⟩
      have hc07 : c0 ≤ 7 := by
        rcases List.mem_cons.mp hc0 with h | h
        · omega
        · have := tn.fr.z c0 (List.mem_filter.mp h).1
          omega
      refine ⟨_, rfl, _, rfl, ?_⟩
      dsimp only [tNil]
      refine least_sp (w := w) (K := K) (E := C8.E0) tn.s fr1 lst1 hc07 hv5 fun H18 s18 => ?_
      have tn18 := tn.same s18
      refine ⟨by rw [sizeLine_eq]; show 1 ≤ 16777216; omega, fun u nu => ?_⟩
      have s19 := same_upd (o := .lst [.int 1]) nu
      have tn19 := tn18.same s19
      refine ⟨_, rfl, sa, rfl, ⟨_, sqL_of tn19.s⟩, fun D nD => ?_⟩
      have hl3 := tn.fr.l2
      refine lcB_L (K := K) (bs := ns) (enc := PyData.int) (keep := fun z => decide (z ≤ v)) (F := PyData.int) (by omega) (sqL_of tn19.s) nD (dpAll_intsV ns) (fun _ _ _ => rfl) (fun x z0 H20 s20 hx hmem R S hR hS => ?_) (fun H20 zs s20 eD hzs => ?_)
      · cases hx
        refine ⟨wipe_one _ 19 _, ?_⟩
        refine ⟨_, rfl, _, rfl, _, _, rfl, rfl, _, rfl, ?_⟩
        by_cases hzv : z0 ≤ v
        · rw [decide_eq_true hzv]
          exact iteT ⟨_, rfl, hR _ _ (Same.refl _) (decide_eq_true hzv) (.int _)⟩
        · rw [decide_eq_false hzv]
          exact iteF (hS _ (Same.refl _) (decide_eq_false hzv))
      have hzz := ints_of hzs
      subst hzz
      have hul := s20 _ _ (upd_same (H := H18) (a := u) (o := .lst [.int 1]))
      have hfl := List.length_filter_le (fun z => decide (z ≤ v)) ns
      refine ⟨u, D, _, _, rfl, rfl, hul, eD, ?_, fun y ny => ?_⟩
      · rw [List.length_map, sizeLine_eq]
        show 1 + _ ≤ 16777216
        omega
      have s21 := same_upd (o := .lst ([V.int 1] ++ (ns.filter fun z => decide (z ≤ v)).map V.int)) ny
      refine ⟨y, 1 :: ns.filter fun z => decide (z ≤ v), rfl, sqL_of upd_same, by simp, fun mx h1 h2 => ?_⟩
      have emx : mx = c0 := by
        have := hc0m mx h1
        have := h2 c0 hc0
        omega
      subst emx
      have ene : (!decide (V.int mx = V.int mx)) = false := by simp
      refine ⟨rfl, _, rfl, ?_⟩
      rw [ene]
      have tn21 := (tn19.same s20).same s21
      exact iteF ⟨⟨_, _, _, _, _, _, _, _, _, _, _, _, _, _, _, _, _, _, rfl⟩, ⟨N2 + 3, tn21.pen, by omega⟩, tn21.tab⟩

end
end K23
set_option maxHeartbeats 0
namespace KSup
open PySem PySem.Spec PyProof.Rows L2 He
/-! ### the Hook with tests of one's own and empty tables of code objects -/
abbrev AlY : Type := AlU × Bool
def obsY (n : Nat) (file : Str) (fa : List Fa) (fn : List DefD) (su : List SupDef) (tf : List Defn) (ex : PySem.W.Frag → Bool) (g : Addr → Option Obj) : AlY := (obsU file fa fn su (frT g (asU g n)), ex (frT g (asU g n)) && tabsB g tf (frT g (asU g n)))
def valY (fn : List DefD) (su : List SupDef) : AlY := (valU fn su, true)
structure SaysY (file : Str) (fa : List Fa) (fn : List DefD) (su : List SupDef) (tf : List Defn) (ex : PySem.W.Frag → Bool) (h : Heap) (K : PySem.W.Frag) : Prop where
  u : SaysU file fa fn su K
  x : ex K = true
  hd : ∀ p ∈ tf, PySem.W.codeHdIn K (cT K p).1 (cT K p).2 = true
  out : ∀ p ∈ tf, K.lookup (cT K p).2 = none
  empty : ∀ p ∈ tf, h.get? (cT K p).2 = some { cls := .none, data := .fields #[] }
theorem saysY_of {n : Nat} {file : Str} {fa : List Fa} {fn : List DefD} {su : List SupDef} {tf : List Defn} {ex : PySem.W.Frag → Bool} {h : Heap} (e : obsY n file fa fn su tf ex h.get? = valY fn su) : SaysY file fa fn su tf ex h (frT h.get? (asU h.get? n)) := by
  have e1 : obsU file fa fn su (frT h.get? (asU h.get? n)) = valU fn su := congrArg (fun z : AlY => z.1) e
  have e2 : (ex (frT h.get? (asU h.get? n)) && tabsB h.get? tf (frT h.get? (asU h.get? n))) = true := congrArg (fun z : AlY => z.2) e
  obtain ⟨h1, h2⟩ := ba e2
  have key : ∀ p ∈ tf, PySem.W.codeHdIn (frT h.get? (asU h.get? n)) (cT (frT h.get? (asU h.get? n)) p).1 (cT (frT h.get? (asU h.get? n)) p).2 = true ∧ ∃ o, h.get? (cT (frT h.get? (asU h.get? n)) p).2 = some o ∧ emptyTab o = true := fun p hp => by
    obtain ⟨h3, h4⟩ := ba (List.all_eq_true.mp h2 p hp)
    refine ⟨h3, ?_⟩
    cases q : h.get? (cT (frT h.get? (asU h.get? n)) p).2 with
    | none =>
      rw [q] at h4
      cases h4
    | some o =>
      rw [q] at h4
      exact ⟨o, rfl, h4⟩
  exact ⟨e1, h1, fun p hp => (key p hp).1, fun p hp => by
    obtain ⟨_, o, q, z⟩ := key p hp
    exact frT_none q z, fun p hp => by
    obtain ⟨_, o, q, z⟩ := key p hp
    rw [q, emptyTab_eq z]⟩
def hookY (n : Nat) (file : Str) (fa : List Fa) (fn : List DefD) (su : List SupDef) (tf : List Defn) (ex : PySem.W.Frag → Bool) : PySem.W.Hook where
  α := AlY
  obs := fun s => obsY n file fa fn su tf ex s.heap.get?
  val := fun _ => valY fn su
  says := fun _ h => ∃ K : PySem.W.Frag, K.In h ∧ SaysY file fa fn su tf ex h K
  of := fun _ _ e => ⟨_, frT_in, saysY_of e⟩
  keeps := fun _ _ _ ⟨K, hK, c⟩ k => ⟨K, PySem.W.Frag.In.keeps hK k, ⟨c.u, c.x, c.hd, c.out, fun p hp => k _ _ (c.empty p hp)⟩⟩
theorem obsY_eq {n : Nat} {file : Str} {fa : List Fa} {fn : List DefD} {su : List SupDef} {tf : List Defn} {ex : PySem.W.Frag → Bool} {g : Addr → Option Obj} {s : Shared} (h : ∀ a, g a = s.heap.get? a) : obsY n file fa fn su tf ex g = (hookY n file fa fn su tf ex).obs s := by
  have e : g = s.heap.get? := funext h
  rw [e] <;> rfl
theorem ex_at {l : List Bool} (h : l.all id = true) (i : Nat) {b : Bool} (e : l[i]? = some b) : b = true := List.all_eq_true.mp h b (List.mem_of_getElem? e)
end KSup
namespace K23
open PySem PySem.Spec PyProof.Rows L2
/-! ### the head -/
def dG (i : Nat) (x : Str) : He.DefD := ⟨(x, none), x, x, defArgs (topS i), defBody (topS i), defScope (topS i), [], []⟩
def dM (i j : Nat) (c x q : Str) : He.DefD := ⟨(c, some x), x, q, defArgs (inClass (topS i) j), defBody (inClass (topS i) j), defScope (inClass (topS i) j), [], []⟩
def fnL : List He.DefD := [dG 1 "is_integer", dG 2 "is_within", dG 3 "is_listed", dG 4 "is_plain_tuple", dG 19 "fixed", dG 20 "are_like", dG 31 "free_starts", dG 32 "moves_at", dG 33 "put_at", dG 34 "led_to", dG 35 "layouts_of", dG 36 "winning_move", dG 37 "ranks_of", dG 38 "forced_rows", dG 39 "safe_start", dG 40 "served_rows", dG 41 "seats_in", dG 42 "need_frame", dG 43 "need_game", dG 44 "seats", dG 45 "least_seats", dG 47 "is_layout", dG 48 "table_of_seats", dG 49 "is_served", dG 50 "ranks_in", dG 51 "is_forced", dG 52 "shows_seats", dG 54 "_law_pen", dG 55 "_law_draw", dG 56 "_law_pick", dG 57 "_law_mixed", dG 58 "_law_heard", dG 59 "_law_rows_let", dG 60 "law", dM 21 0 "Paper" "__init__" "Paper.__init__", dM 21 1 "Paper" "__bool__" "Paper.__bool__", dM 22 0 "Denial" "__bool__" "Denial.__bool__"]
def faL : List He.Fa := [.glo "is_integer", .glo "is_within", .glo "is_listed", .glo "is_plain_tuple", .glo "fixed", .glo "are_like", .glo "free_starts", .glo "moves_at", .glo "put_at", .glo "led_to", .glo "layouts_of", .glo "winning_move", .glo "ranks_of", .glo "forced_rows", .glo "safe_start", .glo "served_rows", .glo "seats_in", .glo "need_frame", .glo "need_game", .glo "seats", .glo "least_seats", .glo "is_layout", .glo "table_of_seats", .glo "is_served", .glo "ranks_in", .glo "is_forced", .glo "shows_seats", .glo "_law_pen", .glo "_law_draw", .glo "_law_pick", .glo "_law_mixed", .glo "_law_heard", .glo "_law_rows_let", .glo "law", .glo "Paper", .glo "Denial", .glo "Served", .glo "Forced", .glo "GoneError", .cls "Served", .cls "Forced", .mkr "Served", .mkr "Forced", .int "MOST_CELLS" 12, .int "MOST_KINDS" 3, .int "MOST_SIZE" 3, .int "MOST_REGISTERS" 4, .int "MOST_LAYOUTS" 6000, .noat "Served" "word", .noat "Served" "parts", .noat "Served" "rows", .noat "Forced" "word", .noat "Forced" "parts", .noat "Forced" "rows", .free "isinstance", .free "int", .free "bool", .free "list", .free "tuple", .free "dict", .free "len", .free "min", .free "max", .free "sum", .free "all", .free "sorted", .free "range", .free "abs", .free "zip", .free "super", .free "any"]
abbrev RowR : PySem.W.OpenRow := PySem.W.OpenLaw.row PySem.Challenge.rw_nevergone_k22_whole_seats_handed_on
def dSup (i : Nat) (c q : Str) : KSup.SupDef := ⟨c, q, defArgs (inClass (topS i) 0), defBody (inClass (topS i) 0), defScope (inClass (topS i) 0), ("Paper", some "__init__")⟩
def suL : List KSup.SupDef := [dSup 29 "Served" "Served.__init__", dSup 30 "Forced" "Forced.__init__"]
def exL (K : PySem.W.Frag) : List Bool :=
  [decide (PySem.W.mroIn K (He.ga K "Served") (.type "object") = some true),
   He.eqO (PySem.W.findIn K (.ref (He.ga K "Served")) "__class__") (some (some (.builtin "object.__class__"))),
   decide (PySem.W.mroIn K (He.ga K "Forced") (.type "object") = some true),
   He.eqO (PySem.W.findIn K (.ref (He.ga K "Forced")) "__class__") (some (some (.builtin "object.__class__"))),
   He.eqO (PySem.W.specialIn K (.builtin "object.__class__") "__get__") (some (some (.builtin "getset_descriptor.__get__"))),
   decide (PySem.W.takesIn K (.builtin "object.__class__") = some true),
   He.eqO (PySem.W.findIn K (.ref (He.ga K "Served")) "__bool__") (some (some (.ref (He.fAd K ("Paper", some "__bool__"))))),
   He.eqO (PySem.W.findIn K (.ref (He.ga K "Forced")) "__bool__") (some (some (.ref (He.fAd K ("Denial", some "__bool__"))))),
   PySem.W.isFn K (.ref (He.fAd K ("Paper", some "__bool__"))),
   PySem.W.isFn K (.ref (He.fAd K ("Denial", some "__bool__"))),
   decide (PySem.W.kitOne K (.ref (He.ga K "Served")) (.ref (He.ga K "Served")) = some true),
   decide (PySem.W.kitOne K (.ref (He.ga K "Forced")) (.ref (He.ga K "Served")) = some false),
   decide (PySem.W.kitOne K (.ref (He.ga K "Forced")) (.ref (He.ga K "Forced")) = some true)]
def exB (K : PySem.W.Frag) : Bool := (exL K).all id
def tfL : List He.Defn := [("law", none)]
abbrev fileN : Str := PySem.Challenge.pw_nevergone_k22_whole_seats_handed_on.main.file
abbrev hkX : PySem.W.Hook := KSup.hookY 4 fileN faL fnL suL tfL exB
def obX (s : PySem.W.SharedT) : KSup.AlY := KSup.obsY 4 fileN faL fnL suL tfL exB (HandSHeadRun.getT s)
theorem obX_eq (s : PySem.W.SharedT) : obX s = hkX.obs s.abs := KSup.obsY_eq (HandSHeadRun.getT_eq s)
def namesL : List PySem.Str := "is_integer" :: "is_within" :: "is_listed" :: "is_plain_tuple" :: "GoneError" :: "BadHouse" :: "BadHeap" :: "BadStep" :: "BadProgram" :: "BadNumber" :: "BadValue" :: "BadText" :: "BadLine" :: "Misfit" :: "Nothing" :: "TooMany" :: "fixed" :: "are_like" :: "Paper" :: "Denial" :: "MOST_CELLS" :: "MOST_KINDS" :: "MOST_SIZE" :: "MOST_REGISTERS" :: "MOST_LAYOUTS" :: "Served" :: "Forced" :: "free_starts" :: "moves_at" :: "put_at" :: "led_to" :: "layouts_of" :: "winning_move" :: "ranks_of" :: "forced_rows" :: "safe_start" :: "served_rows" :: "seats_in" :: "need_frame" :: "need_game" :: "seats" :: "least_seats" :: "is_layout" :: "table_of_seats" :: "is_served" :: "ranks_in" :: "is_forced" :: "shows_seats" :: "_law_pen" :: "_law_draw" :: "_law_pick" :: "_law_mixed" :: "_law_heard" :: "_law_rows_let" :: []
theorem runX (w : World) : HandSHeadRun.RunEq RowR (PySem.W.view RowR.prog [60]) hkX obX 6000 namesL w := by
  intro os
  kernel_rfl
end K23
set_option maxHeartbeats 1000000
namespace K23
open PySem PySem.Spec PyProof.Rows L2
abbrev PP : Program := PySem.Challenge.pw_nevergone_k22_whole_seats_handed_on
theorem FnOk.r0 {P : Program} {w : World} {K : PySem.W.Frag} {mg : Str → Option Value} {base : Heap} {k : Nat} {f : Addr} {fd : FuncData} {ps : List Str} {sp : Sp} (F : FnOk P w K mg base CX0 k f fd ps sp) (hb : Binds K fd ps []) : FnR P w K mg base CX0 k f sp :=
  (FnOk.raw F hb .nil).imp fun vs H Q E h => by
    rw [List.append_nil]
    exact h
theorem factsX {w : World} {K : PySem.W.Frag} {h : Heap} {mg : Str → Option Value} {f : Addr} (X : K.In h) (G : h.Ns mainGlobals mg) (hfa : mg ("law" : Str) = some (.ref f)) (c : KSup.SaysY fileN faL fnL suL tfL exB h K) :
    LamX.LawAtS PySem.Challenge.rw_nevergone_k22_whole_seats_handed_on w K CX0 12 63 "script" mg f h := by
  have cd := c.u.d
  have cx := c.x
  have ex : ∀ (i : Nat) {b : Bool}, (exL K)[i]? = some b → b = true := fun i b e => KSup.ex_at cx i e
  obtain ⟨d0, F0⟩ := cd.def_ 0 (d := dG 1 "is_integer") rfl
  obtain ⟨d1, F1⟩ := cd.def_ 1 (d := dG 2 "is_within") rfl
  obtain ⟨d2, F2⟩ := cd.def_ 2 (d := dG 3 "is_listed") rfl
  obtain ⟨d3, F3⟩ := cd.def_ 3 (d := dG 4 "is_plain_tuple") rfl
  obtain ⟨d4, F4⟩ := cd.def_ 4 (d := dG 19 "fixed") rfl
  obtain ⟨d5, F5⟩ := cd.def_ 5 (d := dG 20 "are_like") rfl
  obtain ⟨d6, F6⟩ := cd.def_ 6 (d := dG 31 "free_starts") rfl
  obtain ⟨d7, F7⟩ := cd.def_ 7 (d := dG 32 "moves_at") rfl
  obtain ⟨d8, F8⟩ := cd.def_ 8 (d := dG 33 "put_at") rfl
  obtain ⟨d9, F9⟩ := cd.def_ 9 (d := dG 34 "led_to") rfl
  obtain ⟨d10, F10⟩ := cd.def_ 10 (d := dG 35 "layouts_of") rfl
  obtain ⟨d11, F11⟩ := cd.def_ 11 (d := dG 36 "winning_move") rfl
  obtain ⟨d12, F12⟩ := cd.def_ 12 (d := dG 37 "ranks_of") rfl
  obtain ⟨d13, F13⟩ := cd.def_ 13 (d := dG 38 "forced_rows") rfl
  obtain ⟨d14, F14⟩ := cd.def_ 14 (d := dG 39 "safe_start") rfl
  obtain ⟨d15, F15⟩ := cd.def_ 15 (d := dG 40 "served_rows") rfl
  obtain ⟨d16, F16⟩ := cd.def_ 16 (d := dG 41 "seats_in") rfl
  obtain ⟨d17, F17⟩ := cd.def_ 17 (d := dG 42 "need_frame") rfl
  obtain ⟨d18, F18⟩ := cd.def_ 18 (d := dG 43 "need_game") rfl
  obtain ⟨d19, F19⟩ := cd.def_ 19 (d := dG 44 "seats") rfl
  obtain ⟨d20, F20⟩ := cd.def_ 20 (d := dG 45 "least_seats") rfl
  obtain ⟨d21, F21⟩ := cd.def_ 21 (d := dG 47 "is_layout") rfl
  obtain ⟨d22, F22⟩ := cd.def_ 22 (d := dG 48 "table_of_seats") rfl
  obtain ⟨d23, F23⟩ := cd.def_ 23 (d := dG 49 "is_served") rfl
  obtain ⟨d24, F24⟩ := cd.def_ 24 (d := dG 50 "ranks_in") rfl
  obtain ⟨d25, F25⟩ := cd.def_ 25 (d := dG 51 "is_forced") rfl
  obtain ⟨d26, F26⟩ := cd.def_ 26 (d := dG 52 "shows_seats") rfl
  obtain ⟨d27, F27⟩ := cd.def_ 27 (d := dG 54 "_law_pen") rfl
  obtain ⟨d28, F28⟩ := cd.def_ 28 (d := dG 55 "_law_draw") rfl
  obtain ⟨d29, F29⟩ := cd.def_ 29 (d := dG 56 "_law_pick") rfl
  obtain ⟨d30, F30⟩ := cd.def_ 30 (d := dG 57 "_law_mixed") rfl
  obtain ⟨d31, F31⟩ := cd.def_ 31 (d := dG 58 "_law_heard") rfl
  obtain ⟨d32, F32⟩ := cd.def_ 32 (d := dG 59 "_law_rows_let") rfl
  obtain ⟨d33, F33⟩ := cd.def_ 33 (d := dG 60 "law") rfl
  obtain ⟨d34, F34⟩ := cd.def_ 34 (d := dM 21 0 "Paper" "__init__" "Paper.__init__") rfl
  obtain ⟨d35, F35⟩ := cd.def_ 35 (d := dM 21 1 "Paper" "__bool__" "Paper.__bool__") rfl
  obtain ⟨d36, F36⟩ := cd.def_ 36 (d := dM 22 0 "Denial" "__bool__" "Denial.__bool__") rfl
  have b0 : Binds K d0 ["value"] [] := FunD.bindsN F0 fun _ _ _ _ _ _ us hl => match us, hl with | [_], _ => rfl
  have b1 : Binds K d1 ["value", "least", "most"] [] := FunD.bindsN F1 fun _ _ _ _ _ _ us hl => match us, hl with | [_, _, _], _ => rfl
  have b2 : Binds K d2 ["value"] [] := FunD.bindsN F2 fun _ _ _ _ _ _ us hl => match us, hl with | [_], _ => rfl
  have b3 : Binds K d3 ["value", "many"] [] := FunD.bindsN F3 fun _ _ _ _ _ _ us hl => match us, hl with | [_, _], _ => rfl
  have b4 : Binds K d4 ["value"] [] := FunD.bindsN F4 fun _ _ _ _ _ _ us hl => match us, hl with | [_], _ => rfl
  have b5 : Binds K d5 ["one", "other"] [] := FunD.bindsN F5 fun _ _ _ _ _ _ us hl => match us, hl with | [_, _], _ => rfl
  have b6 : Binds K d6 ["game", "layout", "size"] [] := FunD.bindsN F6 fun _ _ _ _ _ _ us hl => match us, hl with | [_, _, _], _ => rfl
  have b7 : Binds K d7 ["game", "layout"] [] := FunD.bindsN F7 fun _ _ _ _ _ _ us hl => match us, hl with | [_, _], _ => rfl
  have b8 : Binds K d8 ["layout", "start", "size"] [] := FunD.bindsN F8 fun _ _ _ _ _ _ us hl => match us, hl with | [_, _, _], _ => rfl
  have b9 : Binds K d9 ["game", "layout", "move"] [] := FunD.bindsN F9 fun _ _ _ _ _ _ us hl => match us, hl with | [_, _, _], _ => rfl
  have b10 : Binds K d10 ["game"] [] := FunD.bindsN F10 fun _ _ _ _ _ _ us hl => match us, hl with | [_], _ => rfl
  have b11 : Binds K d11 ["game", "ranks", "layout"] [] := FunD.bindsN F11 fun _ _ _ _ _ _ us hl => match us, hl with | [_, _, _], _ => rfl
  have b12 : Binds K d12 ["game"] [] := FunD.bindsN F12 fun _ _ _ _ _ _ us hl => match us, hl with | [_], _ => rfl
  have b13 : Binds K d13 ["game", "ranks"] [] := FunD.bindsN F13 fun _ _ _ _ _ _ us hl => match us, hl with | [_, _], _ => rfl
  have b14 : Binds K d14 ["game", "ranks", "layout", "size"] [] := FunD.bindsN F14 fun _ _ _ _ _ _ us hl => match us, hl with | [_, _, _, _], _ => rfl
  have b15 : Binds K d15 ["game", "ranks"] [] := FunD.bindsN F15 fun _ _ _ _ _ _ us hl => match us, hl with | [_, _], _ => rfl
  have b16 : Binds K d16 ["game"] [] := FunD.bindsN F16 fun _ _ _ _ _ _ us hl => match us, hl with | [_], _ => rfl
  have b17 : Binds K d17 ["sizes", "many", "live"] [] := FunD.bindsN F17 fun _ _ _ _ _ _ us hl => match us, hl with | [_, _, _], _ => rfl
  have b18 : Binds K d18 ["cells", "sizes", "many", "live"] [] := FunD.bindsN F18 fun _ _ _ _ _ _ us hl => match us, hl with | [_, _, _, _], _ => rfl
  have b19 : Binds K d19 ["cells", "sizes", "many", "live"] [] := FunD.bindsN F19 fun _ _ _ _ _ _ us hl => match us, hl with | [_, _, _, _], _ => rfl
  have b20 : Binds K d20 ["sizes", "many", "live"] [] := FunD.bindsN F20 fun _ _ _ _ _ _ us hl => match us, hl with | [_, _, _], _ => rfl
  have b21 : Binds K d21 ["game", "value"] [] := FunD.bindsN F21 fun _ _ _ _ _ _ us hl => match us, hl with | [_, _], _ => rfl
  have b22 : Binds K d22 ["game", "value"] [] := FunD.bindsN F22 fun _ _ _ _ _ _ us hl => match us, hl with | [_, _], _ => rfl
  have b23 : Binds K d23 ["game", "rows"] [] := FunD.bindsN F23 fun _ _ _ _ _ _ us hl => match us, hl with | [_, _], _ => rfl
  have b24 : Binds K d24 ["game", "value"] [] := FunD.bindsN F24 fun _ _ _ _ _ _ us hl => match us, hl with | [_, _], _ => rfl
  have b25 : Binds K d25 ["game", "rows"] [] := FunD.bindsN F25 fun _ _ _ _ _ _ us hl => match us, hl with | [_, _], _ => rfl
  have b26 : Binds K d26 ["cells", "sizes", "many", "live", "value"] [] := FunD.bindsN F26 fun _ _ _ _ _ _ us hl => match us, hl with | [_, _, _, _, _], _ => rfl
  have b27 : Binds K d27 ["script"] [] := FunD.bindsN F27 fun _ _ _ _ _ _ us hl => match us, hl with | [_], _ => rfl
  have b28 : Binds K d28 ["pen", "many"] [] := FunD.bindsN F28 fun _ _ _ _ _ _ us hl => match us, hl with | [_, _], _ => rfl
  have b29 : Binds K d29 ["pen", "some"] [] := FunD.bindsN F29 fun _ _ _ _ _ _ us hl => match us, hl with | [_, _], _ => rfl
  have b30 : Binds K d30 ["pen", "some"] [] := FunD.bindsN F30 fun _ _ _ _ _ _ us hl => match us, hl with | [_, _], _ => rfl
  have b31 : Binds K d31 ["ask"] [] := FunD.bindsN F31 fun _ _ _ _ _ _ us hl => match us, hl with | [_], _ => rfl
  have b32 : Binds K d32 ["rows", "sizes", "many", "live"] [] := FunD.bindsN F32 fun _ _ _ _ _ _ us hl => match us, hl with | [_, _, _, _], _ => rfl
  have b35 : Binds K d35 ["self"] [] := FunD.bindsN F35 fun _ _ _ _ _ _ us hl => match us, hl with | [_], _ => rfl
  have b36 : Binds K d36 ["self"] [] := FunD.bindsN F36 fun _ _ _ _ _ _ us hl => match us, hl with | [_], _ => rfl
  have m0 := He.glo_ok X G (cd.fact 0 (f := .glo "is_integer") rfl)
  have m1 := He.glo_ok X G (cd.fact 1 (f := .glo "is_within") rfl)
  have m2 := He.glo_ok X G (cd.fact 2 (f := .glo "is_listed") rfl)
  have m3 := He.glo_ok X G (cd.fact 3 (f := .glo "is_plain_tuple") rfl)
  have m4 := He.glo_ok X G (cd.fact 4 (f := .glo "fixed") rfl)
  have m5 := He.glo_ok X G (cd.fact 5 (f := .glo "are_like") rfl)
  have m6 := He.glo_ok X G (cd.fact 6 (f := .glo "free_starts") rfl)
  have m7 := He.glo_ok X G (cd.fact 7 (f := .glo "moves_at") rfl)
  have m8 := He.glo_ok X G (cd.fact 8 (f := .glo "put_at") rfl)
  have m9 := He.glo_ok X G (cd.fact 9 (f := .glo "led_to") rfl)
  have m10 := He.glo_ok X G (cd.fact 10 (f := .glo "layouts_of") rfl)
  have m11 := He.glo_ok X G (cd.fact 11 (f := .glo "winning_move") rfl)
  have m12 := He.glo_ok X G (cd.fact 12 (f := .glo "ranks_of") rfl)
  have m13 := He.glo_ok X G (cd.fact 13 (f := .glo "forced_rows") rfl)
  have m14 := He.glo_ok X G (cd.fact 14 (f := .glo "safe_start") rfl)
  have m15 := He.glo_ok X G (cd.fact 15 (f := .glo "served_rows") rfl)
  have m16 := He.glo_ok X G (cd.fact 16 (f := .glo "seats_in") rfl)
  have m17 := He.glo_ok X G (cd.fact 17 (f := .glo "need_frame") rfl)
  have m18 := He.glo_ok X G (cd.fact 18 (f := .glo "need_game") rfl)
  have m19 := He.glo_ok X G (cd.fact 19 (f := .glo "seats") rfl)
  have m20 := He.glo_ok X G (cd.fact 20 (f := .glo "least_seats") rfl)
  have m21 := He.glo_ok X G (cd.fact 21 (f := .glo "is_layout") rfl)
  have m22 := He.glo_ok X G (cd.fact 22 (f := .glo "table_of_seats") rfl)
  have m23 := He.glo_ok X G (cd.fact 23 (f := .glo "is_served") rfl)
  have m24 := He.glo_ok X G (cd.fact 24 (f := .glo "ranks_in") rfl)
  have m25 := He.glo_ok X G (cd.fact 25 (f := .glo "is_forced") rfl)
  have m26 := He.glo_ok X G (cd.fact 26 (f := .glo "shows_seats") rfl)
  have m27 := He.glo_ok X G (cd.fact 27 (f := .glo "_law_pen") rfl)
  have m28 := He.glo_ok X G (cd.fact 28 (f := .glo "_law_draw") rfl)
  have m29 := He.glo_ok X G (cd.fact 29 (f := .glo "_law_pick") rfl)
  have m30 := He.glo_ok X G (cd.fact 30 (f := .glo "_law_mixed") rfl)
  have m31 := He.glo_ok X G (cd.fact 31 (f := .glo "_law_heard") rfl)
  have m32 := He.glo_ok X G (cd.fact 32 (f := .glo "_law_rows_let") rfl)
  have mS := He.glo_ok X G (cd.fact 36 (f := .glo "Served") rfl)
  have mF := He.glo_ok X G (cd.fact 37 (f := .glo "Forced") rfl)
  have mG := He.glo_ok X G (cd.fact 38 (f := .glo "GoneError") rfl)
  have cS := He.cls_ok (cd.fact 39 (f := .cls "Served") rfl)
  have cF := He.cls_ok (cd.fact 40 (f := .cls "Forced") rfl)
  have kS := He.mkr_ok (cd.fact 41 (f := .mkr "Served") rfl)
  have kF := He.mkr_ok (cd.fact 42 (f := .mkr "Forced") rfl)
  have co : Co mg := ⟨He.int_ok X G (cd.fact 43 (f := .int "MOST_CELLS" 12) rfl), He.int_ok X G (cd.fact 44 (f := .int "MOST_KINDS" 3) rfl), He.int_ok X G (cd.fact 45 (f := .int "MOST_SIZE" 3) rfl), He.int_ok X G (cd.fact 46 (f := .int "MOST_REGISTERS" 4) rfl), He.int_ok X G (cd.fact 47 (f := .int "MOST_LAYOUTS" 6000) rfl)⟩
  have pS : PapR K (He.ga K "Served") := ⟨cS, He.noat_ok (cd.fact 48 (f := .noat "Served" "word") rfl), He.noat_ok (cd.fact 49 (f := .noat "Served" "parts") rfl), He.noat_ok (cd.fact 50 (f := .noat "Served" "rows") rfl)⟩
  have pF : PapR K (He.ga K "Forced") := ⟨cF, He.noat_ok (cd.fact 51 (f := .noat "Forced" "word") rfl), He.noat_ok (cd.fact 52 (f := .noat "Forced" "parts") rfl), He.noat_ok (cd.fact 53 (f := .noat "Forced" "rows") rfl)⟩
  have T : Bl mg := ⟨He.free_ok X G (cd.fact 54 (f := .free "isinstance") rfl), He.free_ok X G (cd.fact 55 (f := .free "int") rfl), He.free_ok X G (cd.fact 56 (f := .free "bool") rfl), He.free_ok X G (cd.fact 57 (f := .free "list") rfl), He.free_ok X G (cd.fact 58 (f := .free "tuple") rfl), He.free_ok X G (cd.fact 59 (f := .free "dict") rfl), He.free_ok X G (cd.fact 60 (f := .free "len") rfl), He.free_ok X G (cd.fact 61 (f := .free "min") rfl), He.free_ok X G (cd.fact 62 (f := .free "max") rfl), He.free_ok X G (cd.fact 63 (f := .free "sum") rfl), He.free_ok X G (cd.fact 64 (f := .free "all") rfl), He.free_ok X G (cd.fact 65 (f := .free "sorted") rfl), He.free_ok X G (cd.fact 66 (f := .free "range") rfl), He.free_ok X G (cd.fact 67 (f := .free "abs") rfl), He.free_ok X G (cd.fact 68 (f := .free "zip") rfl), He.free_ok X G (cd.fact 69 (f := .free "super") rfl)⟩
  have anyN := He.free_ok X G (cd.fact 70 (f := .free "any") rfl)
  have hn := He.eqO_ok (ex 4 rfl)
  have htk := of_decide_eq_true (ex 5 rfl)
  obtain ⟨nfS, SS⟩ := c.u.sup (P := PP) 0 (d := dSup 29 "Served" "Served.__init__") rfl (by decide +kernel) (by decide +kernel) (by decide +kernel)
  obtain ⟨nfF, SF⟩ := c.u.sup (P := PP) 1 (d := dSup 30 "Forced" "Forced.__init__") rfl (by decide +kernel) (by decide +kernel) (by decide +kernel)
  have e := hfa.symm.trans (He.glo_ok X G (cd.fact 33 (f := .glo "law") rfl))
  cases e
  have bl := FunD.bindsA (ps := ["script"]) F33 fun _ _ _ _ _ _ us hl => match us, hl with | [_], _ => rfl
  have hmem : (("law", none) : He.Defn) ∈ tfL := List.mem_singleton.mpr rfl
  have hcode : d33.code = .ref (He.cT K ("law", none)).1 := by
    obtain ⟨oc, od, dV, kV, doc, pm, an, cdv, ct, osl, e1, lk, hcd, _, _⟩ := F33.ex
    obtain ⟨c0, e0⟩ := He.codeIn_ref hcd
    subst e0
    subst e1
    show Value.ref c0 = Value.ref (He.codeOf K ("law", none))
    rw [He.codeOf_eq (p := ("law", none)) lk rfl]
  refine ⟨d33, [He.cT K ("law", none)], spLaw K (He.cT K ("law", none)).2, fun p hp => ?_, fun p hp => ?_, fun p hp => ?_, fun s v => bl s [v] rfl, fun H a ns hl _ hT hS => ⟨a, ns, rfl, hS, hT _ (List.mem_singleton.mpr rfl), fun _ => rfl⟩, fun base _ _ hTB => ?_⟩
  · rw [List.mem_singleton.mp hp]
    exact c.empty _ hmem
  · rw [List.mem_singleton.mp hp]
    exact c.out _ hmem
  · rw [List.mem_singleton.mp hp]
    exact PySem.W.codeHd_of_K X (c.hd _ hmem)
  have oS : OwnC K (He.ga K "Served") := ⟨cS, He.eqO_ok (ex 1 rfl), hn, htk, of_decide_eq_true (ex 0 rfl)⟩
  have oF : OwnC K (He.ga K "Forced") := ⟨cF, He.eqO_ok (ex 3 rfl), hn, htk, of_decide_eq_true (ex 2 rfl)⟩
  have kb : KitS K (He.ga K "Served") (He.ga K "Forced") := ⟨oS, oF, pS, pF, of_decide_eq_true (ex 10 rfl), of_decide_eq_true (ex 11 rfl), of_decide_eq_true (ex 12 rfl)⟩
  have G0 : FnOk PP w K mg base CX0 1 _ d0 ["value"] (spIsInt K) := ok_isInt F0 T
  have G1 : FnOk PP w K mg base CX0 2 _ d1 ["value", "least", "most"] (spIsWithin K) := ok_isWithin F1 G0 F0.kp b0 m0
  have G2 : FnOk PP w K mg base CX0 1 _ d2 ["value"] (spIsListed K) := ok_isListed F2 T
  have G3 : FnOk PP w K mg base CX0 2 _ d3 ["value", "many"] (spIsPlain K) := ok_isPlain F3 T G2 F2.kp b2 m2
  have G4 : FnOk PP w K mg base CX0 6 _ d4 ["value"] (spFixed K 5) := ok_fixed F4 T b4 m4 5
  have G5 : FnOk PP w K mg base CX0 2 _ d5 ["one", "other"] (spLike K 1) := ok_like F5 T b5 m5 1
  have G8 : FnOk PP w K mg base CX0 1 _ d8 ["layout", "start", "size"] (spPutAt K) := ok_putAt F8 T
  have G6 : FnOk PP w K mg base CX0 1 _ d6 ["game", "layout", "size"] (spFree K) := ok_free F6 T
  have G7 : FnOk PP w K mg base CX0 1 _ d7 ["game", "layout"] (spMoves K) := ok_moves F7 T
  have G9 : FnOk PP w K mg base CX0 2 _ d9 ["game", "layout", "move"] (spLed K) := ok_led F9 T G8 F8.kp b8 m8 G6 F6.kp b6 m6
  have G10 : FnOk PP w K mg base CX0 3 _ d10 ["game"] (spLayouts K) := ok_layouts F10 T co G7 F7.kp b7 m7 G9 F9.kp b9 m9
  have G11 : FnOk PP w K mg base CX0 3 _ d11 ["game", "ranks", "layout"] (spWinning w K) := ok_winning F11 T G7 F7.kp b7 m7 G9 F9.kp b9 m9
  have G12 : FnOk PP w K mg base CX0 4 _ d12 ["game"] (spRanks w K) := ok_ranks F12 T G10 F10.kp b10 m10 G11 F11.kp b11 m11
  have G13 : FnOk PP w K mg base CX0 3 _ d13 ["game", "ranks"] (spForcedRows w K) := ok_forcedRows F13 T G9 F9.kp b9 m9
  have G14 : FnOk PP w K mg base CX0 2 _ d14 ["game", "ranks", "layout", "size"] (spSafe w K) := ok_safe F14 T G8 F8.kp b8 m8 G6 F6.kp b6 m6
  have G15 : FnOk PP w K mg base CX0 3 _ d15 ["game", "ranks"] (spServedRows w K) := ok_servedRows F15 T G7 F7.kp b7 m7 G9 F9.kp b9 m9 G14 F14.kp b14 m14 G8 F8.kp b8 m8
  have G17 : FnOk PP w K mg base CX0 3 _ d17 ["sizes", "many", "live"] (spNeedFrame K) := ok_needFrame F17 T co G2 F2.kp b2 m2 G1 F1.kp b1 m1
  have G18 : FnOk PP w K mg base CX0 4 _ d18 ["cells", "sizes", "many", "live"] (spNeedGame K) := ok_needGame F18 T co G17 F17.kp b17 m17 G1 F1.kp b1 m1
  have G20 : FnOk PP w K mg base CX0 5 _ d20 ["sizes", "many", "live"] (spLeastSeats w K) := ok_leastSeats F20 T co G17 F17.kp b17 m17 G12 F12.kp b12 m12
  have PI : FnR PP w K mg base CX0 7 _ (spPInit K 5) := ok_pinit F34 5 G4 F4.kp b4 m4
  have FS : FnR PP w K mg base CX0 8 _ (spRInit K (He.ga K "Served") "served" 5) := ok_binit SS pS T.super 5 7 PI
  have FF : FnR PP w K mg base CX0 8 _ (spRInit K (He.ga K "Forced") "forced" 5) := ok_uinit SF pF T.super 5 7 PI
  have FT : FnR PP w K mg base CX0 1 _ spT := FnOk.r0 (ok_pbool F35) b35
  have FN : FnR PP w K mg base CX0 1 _ spF := FnOk.r0 (ok_dbool F36) b36
  have G16 : FnOk PP w K mg base CX0 10 _ d16 ["game"] (spSeatsIn w K (He.ga K "Served") (He.ga K "Forced")) := ok_seatsIn F16 G12 F12.kp b12 m12 G13 F13.kp b13 m13 G15 F15.kp b15 m15 kS FS mS kF FF mF
  have G19 : FnOk PP w K mg base CX0 11 _ d19 ["cells", "sizes", "many", "live"] (spSeats w K (He.ga K "Served") (He.ga K "Forced")) := ok_seats (dvs := []) F19 G18 F18.kp b18 m18 G16 F16.kp b16 m16
  have G21 : FnOk PP w K mg base CX0 3 _ d21 ["game", "value"] (spIsLayout K) := ok_isLayout F21 T G3 F3.kp b3 m3 G0 F0.kp b0 m0
  have G22 : FnOk PP w K mg base CX0 4 _ d22 ["game", "value"] (spTable w K) := ok_table F22 T G2 F2.kp b2 m2 G3 F3.kp b3 m3 G21 F21.kp b21 m21 G0 F0.kp b0 m0 G1 F1.kp b1 m1 G6 F6.kp b6 m6
  have G23 : FnOk PP w K mg base CX0 5 _ d23 ["game", "rows"] (spIsServed w K) := ok_isServed F23 T G7 F7.kp b7 m7 G9 F9.kp b9 m9 G22 F22.kp b22 m22 G8 F8.kp b8 m8
  have G24 : FnOk PP w K mg base CX0 4 _ d24 ["game", "value"] (spRanksIn w K) := ok_ranksIn F24 T anyN G2 F2.kp b2 m2 G3 F3.kp b3 m3 G21 F21.kp b21 m21 G0 F0.kp b0 m0 G5 F5.kp b5 m5 G7 F7.kp b7 m7
  have G25 : FnOk PP w K mg base CX0 5 _ d25 ["game", "rows"] (spIsForced w K) := ok_isForced F25 T G24 F24.kp b24 m24 G9 F9.kp b9 m9
  have G26 : FnOk PP w K mg base CX0 6 _ d26 ["cells", "sizes", "many", "live", "value"] (spShows w K (He.ga K "Served") (He.ga K "Forced")) := ok_shows F26 T kb mS mF G18 F18.kp b18 m18 G23 F23.kp b23 m23 G25 F25.kp b25 m25
  have G27 : FnOk PP w K mg base CX0 1 _ d27 ["script"] (spPen K) := ok_pen F27 T
  have G28 : FnOk PP w K mg base CX0 1 _ d28 ["pen", "many"] (spDraw K) := ok_draw F28 T
  have G29 : FnOk PP w K mg base CX0 2 _ d29 ["pen", "some"] (spPick K) := ok_pick F29 T G28 F28.kp b28 m28
  have G30 : FnOk PP w K mg base CX0 2 _ d30 ["pen", "some"] (spMixed K) := ok_mixed F30 T G28 F28.kp b28 m28
  have G32 : FnOk PP w K mg base CX0 1 _ d32 ["rows", "sizes", "many", "live"] (spRowsLet K) := ok_rowsLet F32 T
  have LW : Lw PP w K mg base (He.ga K "Served") (He.ga K "Forced") (He.ga K "GoneError") _ _ _ _ :=
    { kb := kb, bl := T, mk1 := kS, mk2 := kF, in1 := FS, in2 := FF, mS := mS, mF := mF, mG := mG, bt := FT, bf := FN, bcS := ⟨He.eqO_ok (ex 6 rfl), ex 8 rfl⟩, bcF := ⟨He.eqO_ok (ex 7 rfl), ex 9 rfl⟩ }
  exact ok_law F33 hcode (hTB _ (List.mem_singleton.mpr rfl)) LW ⟨G27, F27.kp, b27, m27⟩ ⟨G28, F28.kp, b28, m28⟩ ⟨G29, F29.kp, b29, m29⟩ ⟨G19, F19.kp, b19, m19⟩ F19 ⟨G26, F26.kp, b26, m26⟩ ⟨G30, F30.kp, b30, m30⟩ ⟨G32, F32.kp, b32, m32⟩ ⟨G20, F20.kp, b20, m20⟩ F31 m31 F31.kp b31
end K23
open PySem PySem.W PySem.Calls PyProof.Rows
theorem PySem.Challenge.cw_nevergone_k22_whole_seats_handed_on_holds : PySem.Challenge.rw_nevergone_k22_whole_seats_handed_on.Holds := by
  w_on; o_law
  refine HandSHeadRun.head_any (r := OpenLaw.row PySem.Challenge.rw_nevergone_k22_whole_seats_handed_on) (q := view (OpenLaw.row PySem.Challenge.rw_nevergone_k22_whole_seats_handed_on).prog [60]) (H := K23.hkX) (ob := K23.obX) (M := 6000) (loose := K23.namesL) (d := HandSHeadRun.topDef (OpenLaw.row PySem.Challenge.rw_nevergone_k22_whole_seats_handed_on).prog 60) (kwd := []) K23.obX_eq
    (by kernel_rfl) (fun s => by kernel_rfl) K23.runX (by kernel_rfl) (by kernel_rfl) (by kernel_rfl) (by rfl) (by first | assumption | decide +kernel) (by decide +kernel) ⟨rfl, rfl, rfl, rfl, rfl, by decide +kernel⟩ ?hw ?hc
  case hw => w_witness2
  case hc =>
    refine LamX.walk_ofTsE (l := PySem.Challenge.rw_nevergone_k22_whole_seats_handed_on) (n := 63) (k := 12) (x := "script") (CX := fun _ => L2.CX0) rfl (by decide) (by kernel_rfl) ⟨rfl, by decide, by decide⟩ ?F (fun _ _ _ _ _ z => z)
    intro w mg fa h Y G hmg0
    obtain ⟨K, KX, c⟩ := Y
    have hmg : mg ("law" : PySem.Str) = some (.ref fa) := by
      have e : (HandSHeadRun.topDef (OpenLaw.row PySem.Challenge.rw_nevergone_k22_whole_seats_handed_on).prog 60).name = ("law" : PySem.Str) := by kernel_rfl
      rw [← e]
      exact hmg0
    exact ⟨K, KX, K23.factsX (w := w) KX G hmg c⟩
