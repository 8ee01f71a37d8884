import PyProof.Rows.All
import Wide.All
import OpenK.AllK
import Wide.FinOn
import HandS.More
import HandS.Nested
import HandS.Star
import HandS.Words
import KE.KSuperObj
import KE.KSuper
import HandS.HeadHook1
import HandS.HeadHook2
import HandS.Head0
import HandS.Head1
import HandS.Head2
import KE.KTypeName
import PyProof.InstEq
import HandS.OwnEq
import HandS.ForMost
import HandS.Defaults
import HandS.IsInst
import HandS.Style
import HandS.Flow
import HandS.TupAny
import HandS.Small
import HandS.Walk
import HandS.Zip
import HandS.ExcOwn
import HandS.WordsExc
import KE.DataMinMax
import KE.LtData
import KE.SortData
import KE.GoesSet
import PySem.Challenge.RW_nevergone_k23_whole_bars_of_up_to_twelve
import HandS.SetBool
import HandS.Strs
import HandS.Dict
import PyProof.DictDisplay
import PyProof.DictTable
import HandS.MakeKw
import KE.KStateDown
import HandS.Ends
import HandS.HeadEnd
set_option Elab.async false
set_option linter.all false
set_option maxRecDepth 100000
set_option maxHeartbeats 1000000
namespace KSup
open PySem PySem.Spec PyProof.Rows L2 NdefX
/-- a method at f of the class at C whose body begins with super().__init__(..), that being the function at f2 -/
structure SupD (P : Program) (K : PySem.W.Frag) (name qual : Str) (params : Arguments) (body : List Stmt) (scope : Scope) (C f f2 : Addr) (F : NF) : Prop where
  hF : ∃ cda cc, F = ⟨name, qual, params, body, scope, [(("__class__" : Str), cc)], cda⟩
  fd : ∃ oc od kV doc pm an ct osl cc, F.cl = [(("__class__" : Str), cc)] ∧ K.lookup f = some ⟨oc, od, .func (PySem.W.ksFn name qual params body scope .none kV doc pm an (.ref F.c) ct cc), osl⟩ ∧
    (∃ cl cld csl, K.lookup cc = some ⟨cl, cld, .cell (some (.ref C)), csl⟩)
  code : PySem.W.codeIn K (.ref F.c) qual = true
  file : ∃ ccl cdd vs ccs file tf, K.lookup F.c = some ⟨ccl, cdd, .fields vs, ccs⟩ ∧ vs[2]? = some (.str file tf) ∧ ((P.main.file : Str) == file) = true
  cls : ∃ cdD, PySem.W.clsIn K C = some cdD
  sub : PySem.W.mroIn K C (.ref C) = some true
  sup : PySem.W.ks_superIn K C C "__init__" = some (some (.ref f2))
  ty : PySem.W.typeIn K (.ref f2) = some (.type "function")
  opq : PySem.W.nsIn K cStatics "thirdparty.any" = some none
  fi : PySem.W.fnIn K f2 = true
  ks : scope.names.lookup ("super" : Str) = some .globalImplicit
  kc : scope.names.lookup ("__class__" : Str) = some .free
  top : (P.main.scope.names.lookup ("super" : Str)).isSome = false
section
variable {CX : CXT} {P : Program} {w : World} {K : PySem.W.Frag} {mg : Str → Option Value} {base : Heap} {k : Nat} {f f2 C : Addr} {name qual : Str} {params : Arguments} {body rest : List Stmt} {scope : Scope} {N ps : List Str} {F : NF} {sp sp2 : Sp} {e : Expr} {es : List Expr} {p0 p1 apos pos epos : Pos} {ar : Arg} {E : XK}
/-- the statement super().__init__(e, ..) -/
abbrev supSt (e : Expr) (es : List Expr) (p0 p1 apos pos epos : Pos) : Stmt := .Expr (.Call (.Attribute (.Call (.Name "super" p0) [] [] p1) "__init__" apos) (e :: es) [] pos) epos
theorem sup_stmt {X : Cx} {pins : List (Addr × Obj)} {s : Shared} {σ : L2.St} {H : Hp} {D : Ends} {x dx : Addr} {fs : List (Str × V)} {t : TA} {L : Addr} (S : SupD X.prog X.K name qual params body scope C f f2 F) (hX : X.env = envF F f L) (hc : X.calm = true)
    (hp : (params.posonlyargs ++ params.args).head? = some ar) (hN : X.N[0]? = some ar.arg) (hka : scope.names.lookup ar.arg = some .local) (hsup : X.mg "super" = none) (I : Inv X pins σ H s) (hσ : σ[0]? = some (some (.ref x))) (hx : H x = some (.ins C dx fs))
    (G : FnR X.prog X.w X.K X.mg X.base CX k f2 sp2) (hr : Room k X.A) (hxe : Passes CX X E) (ha : PA X (e :: es) t)
    (he : starEach (e :: es) X.env = (false, eval e X.env) :: starEach es X.env) (hpl : (backTo pos (starEach es X.env)).any (·.1) = false)
    {pl : Sem Bool} (ht : eval (.Call (.Attribute (.Call (.Name "super" p0) [] [] p1) "__init__" apos) (e :: es) [] pos) X.env = (do
      let ov ← attributeBase (.Call (.Name "super" p0) [] [] p1) "__init__" X.env (eval (.Call (.Name "super" p0) [] [] p1) X.env)
      standAt apos.atName
      let (f, first) ← holding [ov] (getMethod ov "__init__" pl)
      callWith pos f first (backTo pos (starEach (e :: es) X.env)) []))
    (hi : interactive X.env = false) (hs : swapsWith (.Call (.Attribute (.Call (.Name "super" p0) [] [] p1) "__init__" apos) (e :: es) [] pos) none epos.line X.env = pure false)
    (h : ∀ q, H q = none → t σ (upd H q (.met f2 x)) fun vs H2 => H2 q = some (.met f2 x) ∧ sp2 (.ref x :: vs) H2 (fun _ H3 => D.nx σ H3) E) :
    PySem.wpAt (model X.prog X.w) X.A (.func body X.env) (exec (supSt e es p0 p1 apos pos epos) X.env) (SP X pins D) X.xe s := by
  obtain ⟨cda, cc0, hF⟩ := S.hF
  obtain ⟨oc, od, kV, doc, pm, an, ct, osl, cc, hcl, lk, cl, cld, csl, hcell⟩ := S.fd
  obtain ⟨ccl, cdd, vs, ccs, file, tf, hcode, hvs, hfile⟩ := S.file
  obtain ⟨cdD, hD⟩ := S.cls
  have XK : X.K.In s.heap := I.kIn
  obtain ⟨oD, hD1, hD2⟩ : ∃ oD, s.heap.get? C = some oD ∧ oD.data = .cls cdD := by
    unfold PySem.W.clsIn at hD
    split at hD
    · rename_i c d cd' sl ho
      cases hD
      exact ⟨_, XK _ _ ho, rfl⟩
    · cases hD
  obtain ⟨mA, O, _, _, _, _⟩ := ins_get I.hok hx
  obtain ⟨odx, J, _⟩ := O.look
  have hks : X.env.kindOf "super" = some .globalImplicit := by
    rw [hX, hF]
    exact S.ks
  have hkc : X.env.kindOf "__class__" = some .free := by
    rw [hX, hF]
    exact S.kc
  have hka' : X.env.kindOf ar.arg = some .local := by
    rw [hX, hF]
    exact hka
  have hfu : X.env.func = some f := by
    rw [hX]
  have hco : X.env.code = .ref F.c := by
    rw [hX]
  refine PySem.ks_wpAt_Expr_any (PySem.ks_wpAt_MethodCall (pl := pl) ?_ ht) hi hs
  refine PySem.ks_wpAt_super_base hks hkc (by decide) hfu (XK _ _ lk) rfl hp hco (XK _ _ hcode) rfl hvs hfile S.top ?_
  obtain ⟨mb, b1, b2⟩ := I.mod.blt
  refine PySem.W.ks_loadName_global I.ok.kind hks (Calls.loadGlobal_builtin (by rw [I.ok.glob]; exact I.mod.glob.keeps I.bk) hsup (by rw [I.ok.blt]; exact b1.keeps I.bk) ((b2 "super" (by decide)).trans (by decide +kernel)) ⟨rfl, ?_⟩)
  refine wpAny_loadName_free I.ok.kind hkc (by rw [hX]; exact (by rw [hcl]; rfl : F.cl.lookup ("__class__" : Str) = some cc)) ⟨_, XK _ _ hcell, rfl⟩ ?_
  obtain ⟨m, hn, hl⟩ := I.loc
  obtain ⟨u, ru, l⟩ := hl 0 ar.arg (.ref x) hN hσ (by rw [hX, hF]; exact .inl hka)
  obtain rfl : u = Value.ref x := ru
  have hm : m ar.arg = some (.ref x) := by
    rcases l with ⟨_, hm⟩ | ⟨q, _⟩
    · exact hm
    · rw [hka'] at q
      rcases q with q | q <;> cases q
  refine wpAny_loadName_local I.ok.kind hka' hn hm ?_
  obtain ⟨hh, g, d, tk, os⟩ := s
  refine PySem.ks_wpAny_isType_cls hD1 hD2 ⟨rfl, ?_⟩
  refine PySem.ks_wpAny_call_super hD1 hD2 J.at_ J.cls (fun c e => ?_) (PySem.W.looks_mroIn XK S.sub) (fun h' e1 k1 => ?_)
  · have := J.no
    unfold PySem.W.notCls at this
    rw [e] at this
    exact Bool.noConfusion this
  have I1 : Inv X pins σ H ⟨h', g, d, tk, os⟩ := I.kept (t' := tk) k1
  have XK1 : X.K.In h' := I1.kIn
  obtain ⟨mA1, O1, _, _, _, _⟩ := ins_get I1.hok hx
  obtain ⟨odx1, J1, _⟩ := O1.look
  obtain ⟨of, hof, hofc⟩ : ∃ of, h'.get? f2 = some of ∧ of.cls = .type "function" := by
    have ht' : (X.K.lookup f2).map (·.cls) = some (.type "function") := S.ty
    cases z : X.K.lookup f2 with
    | none => rw [z] at ht'; cases ht'
    | some of => rw [z] at ht'; exact ⟨of, XK1 _ _ z, Option.some.inj ht'⟩
  have hm' := S.sup
  unfold PySem.W.ks_superIn at hm'
  rw [hD] at hm'
  refine PySem.ks_wpAny_getMethod_super (l₀ := cdD.mro) e1 (PySem.W.looks_opaque XK1 S.opq) (fun A Q E s k q => wpAny_bind ((PySem.W.looks_clsIn XK1 hD) A _ E s k (wpAny_pure q))) rfl XK1 hm' hof hofc (PySem.W.ks_ne XK1 J1 hD) (by decide) ?_
  have I2 : Inv X pins σ (upd H h'.objs.size (.met f2 x)) ⟨h'.push (PySem.W.methodObj (.ref f2) (.ref x)), g, d, tk + 1, os⟩ :=
    I1.laid (t' := tk + 1) (a := h'.objs.size) (o := .met f2 x) (fun b u z => Heap.get?_push_of_some _ z) (Nat.le_refl _)
      (show (h'.push (PySem.W.methodObj (.ref f2) (.ref x))).get? h'.objs.size = some (PySem.W.methodObj (.ref f2) (.ref x)) from Heap.get?_push_size h' rfl)
  have hq := h h'.objs.size (I1.hok.fresh (Nat.le_refl _))
  have z := ha.run pos pins _ σ _ _ I2 hq
  show wpAny _ _ (callWith pos (.ref h'.objs.size) [] (backTo pos (starEach (e :: es) X.env)) []) _ _ _
  rw [he] at z ⊢
  refine PySem.W.callWith_of (P := PySem.W.MethP X.K h'.objs.size f2 (.ref x)) (by show ((false || (backTo pos (starEach es X.env)).any (·.1)) || false) = false; rw [hpl]; rfl) (PySem.W.keeps_M S.fi) (Calls.evalArgs_plain (thn z fun us s4 ⟨vs, H2, I4, rv, hmet, hsp⟩ => ?_))
  refine ⟨met_P I4 hmet, ?_⟩
  exact thn (wpAny_call (PySem.W.method_call (met_P I4 hmet).1 (run_fnR (us := Value.ref x :: us) (vs := V.ref x :: vs) G hr hxe I4 (.cons rfl rv) hsp))) fun v s5 ⟨_, H3, I5, _, q⟩ => ⟨σ, H3, I5, q⟩
/-- THE RULE: such a method, by its body. ps its parameters, N begins by ps and __class__ -/
theorem fnR_sup (S : SupD P K name qual params body scope C f f2 F) (Sc : NScope N ps [("__class__" : Str)] scope) (hb : ∀ (kV doc pm : Value) (an : Option Addr) (ct : Value) (cc : Addr) (us : List Value), us.length = ps.length → bindArgs (PySem.W.ksFn name qual params body scope .none kV doc pm an (.ref F.c) ct cc) ⟨us, []⟩ = pure (ps.zip us))
    (len : ∀ vs H Q E, sp vs H Q E → vs.length = ps.length)
    (hbody : ∀ (A : Around) (outer : List Env) (s : Shared) (H : Hp) (vs : List V) (Q : VK) (E : XK), Room k (A.deeper (envF F f s.heap.objs.size)) → sp vs H Q E →
      ∀ (s1 : Shared), Inv (ncx CX P w K mg base N F f A outer s H E) [] (startF N vs [none]) H s1 →
        PySem.wpAt (model P w) (A.deeper (envF F f s.heap.objs.size)) (.func body (envF F f s.heap.objs.size)) (execs body (envF F f s.heap.objs.size)) (SP (ncx CX P w K mg base N F f A outer s H E) [] { nx := fun _ H' => Q .non H', rt := Q }) (ncx CX P w K mg base N F f A outer s H E).xe s1) :
    FnR P w K mg base CX (k + 1) f sp := by
  intro A outer s H us vs Q E hr e0 r hsp
  have hl := len _ _ _ _ hsp
  have hlu : us.length = ps.length := by rw [← r.length]; exact hl
  have KX : K.In s.heap := e0.mod.kin.keeps fun b o e => (e0.bs b o e).1
  have lim : s.heap.NoLimit := e0.mod.nolimit.keeps fun b o e => (e0.bs b o e).1
  obtain ⟨cda, cc0, hF⟩ := S.hF
  obtain ⟨oc, od, kV, doc, pm, an, ct, osl, cc, hcl, lk, cl, cld, csl, hcell⟩ := S.fd
  have hcc : cc0 = cc := by
    rw [hF] at hcl
    injection hcl with h1 _
    injection h1
  subst hcc
  refine PySem.ks_codeAny_call_defAt (fd := PySem.W.ksFn name qual params body scope .none kV doc pm an (.ref F.c) ct cc0) (body := body) (binds := ps.zip us) hr.depth (KX _ _ lk) rfl lim (PySem.W.codeRec_of KX S.code) rfl (BindsTo.of_eq (hb _ _ _ _ _ _ us hlu)) Sc.nocell
    (fun y hy => Sc.par y.1 (List.of_mem_zip (show (y.1, y.2) ∈ _ from hy)).1) (fun h₁ hns kp => ?_) Sc.co Sc.gen Sc.kind
  have C0 : CellsAt F.cl [("__class__" : Str)] [none] s.heap H := by
    refine ⟨rfl, fun y c e => ?_, fun x y c e1 e2 => ?_, fun i y e => ?_⟩
    · rw [hcl] at e
      have ec : c = cc0 := by
        simp only [List.lookup] at e
        split at e
        · exact (Option.some.inj e).symm
        · cases e
      subst ec
      have hb := (e0.bs c _ (e0.mod.kin _ _ hcell)).2
      exact ⟨hb, _, _, KX _ _ hcell, rfl⟩
    · rw [hcl] at e1 e2
      simp only [List.lookup] at e1 e2
      split at e1
      · rename_i h1
        split at e2
        · rename_i h2
          rw [eq_of_beq h1, eq_of_beq h2]
        · cases e2
      · cases e1
    · refine ⟨cc0, ?_, fun v hv => ?_⟩
      · cases i with
        | zero =>
          simp at e
          subst e
          rw [hcl]
          rfl
        | succ i => simp at e
      · cases i with
        | zero => simp at hv
        | succ i => simp at hv
  have hFs : F.scope = scope := by rw [hF]
  have I : Inv (ncx CX P w K mg base N F f A outer s H E) [] (startF N vs [none]) H { s with heap := h₁, toks := s.toks + (ps.zip us).length } := inv_startN (by rw [hFs]; exact Sc) hr.hd e0 hl r C0 hns kp
  have z := hbody A outer s H vs Q E (hr.deeper _) hsp _ I
  have eE : callEnv (PySem.W.ksFn name qual params body scope .none kV doc pm an (.ref F.c) ct cc0) s.heap.objs.size f = envF F f s.heap.objs.size := by
    rw [hF]
    rfl
  rw [eE]
  refine PySem.ks_wpAt_mono z (fun fl s' hs => ?_) fun e s' hs => hs
  have fin : ∀ {σ' : L2.St} {H' : Hp} {v : V} {u : Value}, Inv (ncx CX P w K mg base N F f A outer s H E) [] σ' H' s' → L2.RelV v u → Q v H' → CE outer P w H s Q u s' :=
    fun {σ' H' v u} J rv q => ⟨v, H', J.os, J.bare, J.base, J.hok, rv, q⟩
  cases fl with
  | ret u =>
    obtain ⟨v, σ', H', J, rv, q⟩ := hs
    exact fin J rv q
  | next =>
    obtain ⟨σ', H', J, q⟩ := hs
    exact fin (v := V.non) (u := Value.none) J rfl q
  | brk =>
    obtain ⟨_, _, _, q⟩ := hs
    exact False.elim q
  | cont =>
    obtain ⟨_, _, _, q⟩ := hs
    exact False.elim q
/-- .. its first statement super().__init__(..), then the rest -/
theorem wpAt_body {X : Cx} {pins : List (Addr × Obj)} {s : Shared} {D : Ends} {st : Stmt} {t : TS} (h1 : PySem.wpAt (model X.prog X.w) X.A (.func body X.env) (exec st X.env) (SP X pins { D with nx := t D }) X.xe s) (h2 : PSs X rest t) :
    PySem.wpAt (model X.prog X.w) X.A (.func body X.env) (execs (st :: rest) X.env) (SP X pins D) X.xe s := by
  refine PySem.ks_wpAt_execs_cons (PySem.ks_wpAt_mono h1 (fun f s' hs => ?_) fun _ _ z => z)
  cases f with
  | next =>
    obtain ⟨σ', H', I', q⟩ := hs
    exact PySem.wpAt_of_wpAny (h2.run pins s' σ' H' D I' q)
  | ret v => exact hs
  | brk => exact hs
  | cont => exact hs
end
end KSup
set_option maxHeartbeats 1000000
namespace KSup
open PySem PySem.Spec PyProof.Rows L2 NdefX He
/-- a class's __init__ that begins by super().__init__(..), that being the function at base -/
structure SupDef where
  cls : Str
  qual : Str
  params : Arguments
  body : List Stmt
  scope : Scope
  base : Str × Option Str
abbrev SupW : Type := Option (Str × Str × Arguments × FuncBody × Scope × Addr × List Str × Addr)
def supW (K : PySem.W.Frag) (d : SupDef) : SupW := match K.lookup (ma K (ga K d.cls) "__init__") with
  | some ⟨_, _, .func fd, _⟩ => some (fd.name, fd.qualname, fd.params, fd.body, fd.scope, fd.globals, fd.closure.map (·.1), fd.builtins)
  | _ => none
def SupDef.val (d : SupDef) : SupW := some ("__init__", d.qual, d.params, .stmts d.body, d.scope, mainGlobals, ["__class__"], builtinsNs)
def codeF (K : PySem.W.Frag) (file : Str) (c : Addr) : Bool := match K.lookup c with
  | some ⟨_, _, .fields vs, _⟩ => (match (vs : Array Value)[2]? with
    | some (Value.str fl _) => file == fl
    | _ => false)
  | _ => false
def codeB (K : PySem.W.Frag) (file qual : Str) : Value → Bool
  | .ref c => PySem.W.codeIn K (.ref c) qual && codeF K file c
  | _ => false
def cellF (K : PySem.W.Frag) (C : Addr) (cl : List (Str × Addr)) : Bool := match cl with
  | [(_, cc)] => (match K.lookup cc with
    | some ⟨_, _, .cell (some (.ref D)), _⟩ => decide (D = C)
    | _ => false)
  | _ => false
def nonB : Value → Bool
  | .none => true
  | _ => false
def supB (file : Str) (K : PySem.W.Frag) (d : SupDef) : Bool := match K.lookup (ma K (ga K d.cls) "__init__") with
  | some ⟨_, _, .func fd, _⟩ => nonB fd.defaults && (codeB K file d.qual fd.code && (cellF K (ga K d.cls) fd.closure && ((PySem.W.clsIn K (ga K d.cls)).isSome && (decide (PySem.W.mroIn K (ga K d.cls) (.ref (ga K d.cls)) = some true) &&
        (eqO (PySem.W.ks_superIn K (ga K d.cls) (ga K d.cls) "__init__") (some (some (.ref (fAd K d.base)))) && (decide (PySem.W.typeIn K (.ref (fAd K d.base)) = some (.type "function")) &&
        (eqO (PySem.W.nsIn K cStatics "thirdparty.any") (some none) && PySem.W.fnIn K (fAd K d.base))))))))
  | _ => false
theorem supD_of {P : Program} {K : PySem.W.Frag} {d : SupDef} (e : supW K d = d.val) (c : supB P.main.file K d = true) (ks : d.scope.names.lookup ("super" : Str) = some .globalImplicit) (kc : d.scope.names.lookup ("__class__" : Str) = some .free)
    (top : (P.main.scope.names.lookup ("super" : Str)).isSome = false) : ∃ F, SupD P K "__init__" d.qual d.params d.body d.scope (ga K d.cls) (ma K (ga K d.cls) "__init__") (fAd K d.base) F := by
  unfold supW at e
  unfold supB at c
  cases q : K.lookup (ma K (ga K d.cls) "__init__") with
  | none =>
    rw [q] at c
    cases c
  | some o =>
    obtain ⟨oc, od, dt, osl⟩ := o
    rw [q] at c e
    cases dt with
    | func fd =>
      obtain ⟨n1, n2, n3, n4, n5, n6, n7, n8, n9, n10, n11, n12, n13, n14, n15⟩ := fd
      have e2 : (some (n1, n2, n3, n4, n5, n6, n7.map (·.1), n15) : SupW) = (some ((Str.ofString "__init__"), d.qual, d.params, FuncBody.stmts d.body, d.scope, mainGlobals, [Str.ofString "__class__"], builtinsNs) : SupW) := e
      simp only [Option.some.injEq, Prod.mk.injEq] at e2
      obtain ⟨h1, h2, h3, h4, h5, h6, h7, h8⟩ := e2
      subst h1 h2 h3 h4 h5 h6 h8
      obtain ⟨c1, c⟩ := ba c
      obtain ⟨c2, c⟩ := ba c
      obtain ⟨c3, c⟩ := ba c
      obtain ⟨c4, c⟩ := ba c
      obtain ⟨c5, c⟩ := ba c
      obtain ⟨c6, c⟩ := ba c
      obtain ⟨c7, c⟩ := ba c
      obtain ⟨c8, c9⟩ := ba c
      have c1 : nonB n8 = true := c1
      have e8 : n8 = .none := by
        cases n8 <;> first | rfl | cases c1
      subst e8
      have c2 : codeB K P.main.file d.qual n13 = true := c2
      cases n13 with
      | ref cda =>
        obtain ⟨k1, k2⟩ := ba c2
        have c3 : cellF K (ga K d.cls) n7 = true := c3
        match n7, h7, c3, q with
        | [(y, cc)], h7, c3, q =>
          have ey : y = "__class__" := by simpa using h7
          subst ey
          unfold cellF at c3
          dsimp only at c3
          have hcell : ∃ cl cld csl, K.lookup cc = some ⟨cl, cld, .cell (some (.ref (ga K d.cls))), csl⟩ := by
            split at c3
            · rename_i cl cld D csl hc
              exact ⟨cl, cld, csl, by rw [hc, of_decide_eq_true c3]⟩
            · cases c3
          unfold codeF at k2
          have hfile : ∃ ccl cdd vs ccs file tf, K.lookup cda = some ⟨ccl, cdd, .fields vs, ccs⟩ ∧ vs[2]? = some (.str file tf) ∧ ((P.main.file : Str) == file) = true := by
            split at k2
            · rename_i ccl cdd vs ccs hc
              split at k2
              · rename_i fl tf hv
                exact ⟨ccl, cdd, vs, ccs, fl, tf, hc, hv, k2⟩
              · cases k2
            · cases k2
          refine ⟨⟨"__init__", d.qual, d.params, d.body, d.scope, [(("__class__" : Str), cc)], cda⟩, ?_⟩
          exact ⟨⟨cda, cc, rfl⟩, ⟨oc, od, n9, n10, n11, n12, n14, osl, cc, rfl, q, hcell⟩, k1, hfile, Option.isSome_iff_exists.mp c4, of_decide_eq_true c5, eqO_ok c6, of_decide_eq_true c7, eqO_ok c8, c9, ks, kc, top⟩
      | _ => cases c2
    | _ => cases c
/-! ### the Hook: HeadHook2's with such methods told -/
abbrev AlU : Type := AlD × Bool × List SupW
def obsU (file : Str) (fa : List Fa) (fn : List DefD) (su : List SupDef) (K : PySem.W.Frag) : AlU := (obsD fa fn K, su.all (fun d => supB file K d), su.map fun d => supW K d)
def valU (fn : List DefD) (su : List SupDef) : AlU := (valD fn, true, su.map SupDef.val)
def asU (g : Addr → Option Obj) (n : Nat) : List Addr := cStatics :: asD g n
def obsUG (n : Nat) (file : Str) (fa : List Fa) (fn : List DefD) (su : List SupDef) (g : Addr → Option Obj) : AlU := obsU file fa fn su (frG g (asU g n))
def SaysU (file : Str) (fa : List Fa) (fn : List DefD) (su : List SupDef) (K : PySem.W.Frag) : Prop := obsU file fa fn su K = valU fn su
def hookU (n : Nat) (file : Str) (fa : List Fa) (fn : List DefD) (su : List SupDef) : PySem.W.Hook where
  α := AlU
  obs := fun s => obsUG n file fa fn su s.heap.get?
  val := fun _ => valU fn su
  says := fun _ h => ∃ K : PySem.W.Frag, K.In h ∧ SaysU file fa fn su K
  of := fun _ _ e => ⟨_, frG_in, e⟩
  keeps := fun _ _ _ ⟨K, hK, c⟩ k => ⟨K, PySem.W.Frag.In.keeps hK k, c⟩
theorem obsUG_eq {n : Nat} {file : Str} {fa : List Fa} {fn : List DefD} {su : List SupDef} {g : Addr → Option Obj} {s : Shared} (h : ∀ a, g a = s.heap.get? a) : obsUG n file fa fn su g = (hookU n file fa fn su).obs s := by
  have e : g = s.heap.get? := funext h
  rw [e] <;> rfl
section
variable {file : Str} {fa : List Fa} {fn : List DefD} {su : List SupDef} {K : PySem.W.Frag}
theorem SaysU.d (c : SaysU file fa fn su K) : SaysD fa fn K := congrArg (fun z : AlU => z.1) c
theorem SaysU.sup {P : Program} (c : SaysU P.main.file fa fn su K) (i : Nat) {d : SupDef} (h : su[i]? = some d) (ks : d.scope.names.lookup ("super" : Str) = some .globalImplicit) (kc : d.scope.names.lookup ("__class__" : Str) = some .free)
    (top : (P.main.scope.names.lookup ("super" : Str)).isSome = false) : ∃ F, SupD P K "__init__" d.qual d.params d.body d.scope (ga K d.cls) (ma K (ga K d.cls) "__init__") (fAd K d.base) F := by
  have c2 : su.all (fun d => supB P.main.file K d) = true := congrArg (fun z : AlU => z.2.1) c
  have e : su.map (fun d => supW K d) = su.map SupDef.val := congrArg (fun z : AlU => z.2.2) c
  have e2 : (su.map fun d => supW K d)[i]? = (su.map SupDef.val)[i]? := by rw [e]
  rw [List.getElem?_map, List.getElem?_map, h] at e2
  exact supD_of (Option.some.inj e2) (List.all_eq_true.mp c2 d (List.mem_of_getElem? h)) ks kc top
end
end KSup
set_option maxHeartbeats 1000000
namespace KSup
open PySem PySem.W PySem.Calls PyProof.Rows Builtin Builtin.ObjectAttr Builtin.Getset_descriptor
/-- the kept __name__ of the class at C -/
def nameIn (K : Frag) (C : Addr) : Option Value := match K.lookup C with
  | some ⟨.type T, _, _, sl⟩ => if T = "type" then (match sl[2]? with
    | some (some v) => some v
    | _ => none) else none
  | _ => none
section
variable {prog : Program} {w : World} {A : Around} {E : Value → Shared → Prop} {s : Shared} {K : Frag} {R : Result → Shared → Prop} {C : Addr} {v : Value}
theorem nameIn_at {h : Heap} (X : K.In h) (e : nameIn K C = some v) : ∃ od dt sl, h.get? C = some ⟨.type "type", od, dt, sl⟩ ∧ sl[2]? = some (some v) := by
  unfold nameIn at e
  split at e
  · rename_i T od dt sl ho
    split at e
    · rename_i hT
      subst hT
      split at e
      · rename_i v' hv
        cases e
        exact ⟨od, dt, sl, X _ _ ho, hv⟩
      · cases e
    · cases e
  · cases e
theorem cname_get {tp : Value} (X : K.In s.heap) (e : nameIn K C = some v) (h : R (.ok (.ret v)) s) :
    codeAny (model prog w) A (.call (.builtin "getset_descriptor.__get__") ⟨[.builtin "type.__name__", .ref C, tp], []⟩) R s := by
  obtain ⟨hh, g, dr, t, os⟩ := s
  obtain ⟨od, dt, sl, ho, hv⟩ := nameIn_at X e
  have L0 : Looks (model prog w) hh (typeOf (.ref C)) (.type "type") := fun A' Q' E' s' k q => wpAny_typeOf (show s'.TypeIs (.ref C) "type" from ⟨_, k _ _ ho, rfl⟩) q
  have L1 : Looks (model prog w) hh (isSubtype (.type "type") (.type "type")) true := Looks.of_pure (by rw [isSubtype_type]; kernel_rfl)
  refine codeAny_call_builtin KF.slot_gs.plain KF.entry_gs (KF.slot_gs.check _ _ _ _ _ _ _ _ ktyn_type (KF.args_gs _ _ _) ?_)
  unfold Builtin.«getset_descriptor.__get__» descrGet
  rw [dga_obj]
  refine wpAny_bind (wpAny_pure ?_)
  unfold descrGetter descrCheckInstance descrNameAndClass isInstance
  simp only [ktyn_owner]
  repeat lk
  refine ⟨Code.quiet_builtin _ (by decide +kernel), codeAny_builtin ktyn_entry ?_⟩
  unfold Builtin.«type.__name__» keptObject
  dsimp only
  unfold slotAt
  refine wpAny_bind (wpAny_bind (wpAny_loadPart_at ho (wpAny_pure ?_)))
  have hj : (sl[2]?).join = some v := by rw [hv]; rfl
  dsimp only
  rw [hj]
  first
    | exact wpAny_pure h
    | exact wpAny_bind (wpAny_pure (wpAny_pure h))
    | exact wpAny_pure (wpAny_pure h)
end
section
variable {prog : Program} {w : World} {A : Around} {E : Value → Shared → Prop} {s : Shared} {K : Frag} {C : Addr} {v : Value}
/-- C.__name__ -/
theorem cname_attr {expr : Bool} {Q : Value → Shared → Prop} (X : K.In s.heap) (ho : nsIn K cStatics "thirdparty.any" = some none)
    (e : findCls K (.ref C) (.type "type") "__name__" = some (.get (.builtin "getset_descriptor.__get__") (.builtin "type.__name__") (.ref C) (.type "type"))) (en : nameIn K C = some v) (hv : handedIn v = true)
    (h : ∀ u, Q v { s with toks := u }) : wpAny (model prog w) A (getAttr (.ref C) "__name__" expr) Q E s := by
  obtain ⟨od, dt, sl, hC, _⟩ := nameIn_at X en
  have L0 : Looks (model prog w) s.heap (typeOf (.ref C)) (.type "type") := fun A' Q' E' s' k q => wpAny_typeOf (show s'.TypeIs (.ref C) "type" from ⟨_, k _ _ hC, rfl⟩) q
  have LO : Looks (model prog w) s.heap (opaqueClassAbove (.ref C)) none := looks_opaque X ho
  have hg : findIn K (.type "type") "__getattribute__" = some (some (.builtin "type.__getattribute__")) := type_tga
  refine cls_open X LO L0 hg (looks_hook X (r := none) (by rfl)) (by show subIn K _ _ = _; rfl) e ?_
  show wpAny _ _ (do ret (← holding [Value.builtin "type.__name__"] (call (.builtin "getset_descriptor.__get__") [.builtin "type.__name__", .ref C, .type "type"]))) _ _ _
  refine wpAny_bind (wpAny_holding (wpAny_call (cname_get (s := { s with toks := s.toks + 1 }) X en ?_)))
  exact wpAny_pure (handed_on hv (h _))
end
end KSup
namespace KSup
open PySem PySem.Spec PyProof.Rows L2
/-- what x.__class__.__name__ asks of the class at C -/
structure CName (K : PySem.W.Frag) (C : Addr) (y : Str) : Prop where
  cl : Cls K C
  ha : PySem.W.findIn K (.ref C) "__class__" = some (some (.builtin "object.__class__"))
  hn : PySem.W.specialIn K (.builtin "object.__class__") "__get__" = some (some (.builtin "getset_descriptor.__get__"))
  htk : PySem.W.takesIn K (.builtin "object.__class__") = some true
  hm : PySem.W.mroIn K C (.type "object") = some true
  op : PySem.W.nsIn K cStatics "thirdparty.any" = some none
  fc : PySem.W.findCls K (.ref C) (.type "type") "__name__" = some (.get (.builtin "getset_descriptor.__get__") (.builtin "type.__name__") (.ref C) (.type "type"))
  nm : ∃ t, nameIn K C = some (.str y t)
section
variable {X : Cx} {e : Expr} {te : TE} {p1 p2 : Pos}
def tClassName (K : PySem.W.Frag) (te : TE) : TE := fun σ H Q => te σ H fun x H1 => ∃ a C dx fs y, x = .ref a ∧ H1 a = some (.ins C dx fs) ∧ CName K C y ∧ Q (.str y) H1
/-- e.__class__.__name__ -/
theorem pe_className (he : PE X e te) (hb : attributeBase e "__class__" X.env (eval e X.env) = eval e X.env) (hb2 : attributeBase (.Attribute e "__class__" p1) "__name__" X.env (eval (.Attribute e "__class__" p1) X.env) = eval (.Attribute e "__class__" p1) X.env) :
    PE X (.Attribute (.Attribute e "__class__" p1) "__name__" p2) (tClassName X.K te) := by
  refine ⟨fun pins s σ H Q I h => ?_⟩
  refine attr_of hb2 (attr_of hb (thn (he.run pins s σ H _ I h) fun u s1 ⟨x, H1, I1, rx, a, C, dx, fs, y, ex, ea, c, q⟩ => ?_))
  subst ex
  obtain rfl : u = Value.ref a := rx
  obtain ⟨m, F⟩ := I1.fr
  obtain ⟨mA, O, _, _, _, _⟩ := ins_get I1.hok ea
  obtain ⟨od, J, _⟩ := O.look
  obtain ⟨t, ht⟩ := c.nm
  refine PySem.W.get_class F I1.ok.mod.kin J (c.cl.get _) c.cl.hd c.ha c.hn c.htk c.hm ?_
  refine cname_attr (I1.tok (s.toks)).kIn c.op c.fc ht rfl fun u => ?_
  exact ⟨.str y, H1, I1.tok _, ⟨t, rfl⟩, q⟩
end
end KSup
set_option maxHeartbeats 1000000
namespace KSup
open PySem PySem.W PySem.Calls PyProof.Rows Builtin
section
variable {prog : Program} {w : World} {A : Around} {E : Value → Shared → Prop} {s : Shared} {K : Frag} {x C L f : Addr} {h₀ : Heap} {m : Str → Option Value} {ox : Obj} {od : Option Obj} {b tb : Value}
theorem ne_call {Q : Value → Shared → Prop} (hu : A.in1.units < cLine) (X : K.In s.heap) (I : InstAt s.heap x ox C od) (hs : findIn K (.ref C) "__eq__" = some (some (.ref f))) (hf : isFn K (.ref f) = true) (hm : mroIn K C (.type "object") = some true)
    (h : wpAny (model prog w) A.in1 (call (.ref f) [.ref x, b]) (fun v s' => ∃ r, v = .bool r ∧ Q (.bool (!r)) s') E s) : wpAny (model prog w) A (call (.builtin "object.__ne__") [.ref x, b]) Q E s := by
  have hi : Looks (model prog w) s.heap (isInstance (.ref x) (.type "object")) true := I.type.andThen (looks_mroIn X hm)
  refine wpAny_call (codeAny_call_builtin F.cmp_object.ne.plain F.cmpEntry_ne (@check_slot (model prog w) _ _ s "object.__ne__" "object" "__ne__" (.ref x) [b] [] _ F.cmpKind_ne F.cmpSplit_ne hi (F.cmpArgs_ne _ _) ?_))
  unfold Builtin.«object.__ne__»
  refine wpAny_bind (m := slotArgs "__ne__" 1 ⟨[.ref x, b], []⟩) (wpAny_of_eq (a := ((Value.ref x : Value), [b])) (by first | rfl | (simp only [slotArgs]; rfl)) ?_)
  dsimp only
  refine wpAny_bind (wpAny_cRoomFor hu ?_)
  refine wpAny_bind (ifBound_K X I hs hf (wpAny_mono h (fun v s' hv => ?_) fun _ _ e => e))
  obtain ⟨r, rfl, q⟩ := hv
  dsimp only
  refine wpAny_bind (wpAny_truthy_bool ?_)
  exact wpAny_pure q
theorem ne_K {Q : Value → Shared → Prop} (hu : A.units + 1 < cLine) (F0 : Fr h₀ L s.heap m) (X₀ : K.In h₀) (I : InstAt s.heap x ox C od) (hb : Looks (model prog w) s.heap (typeOf b) tb) (hn : notFirst K C tb = true) (hne : findIn K (.ref C) "__ne__" = some (some (.builtin "object.__ne__")))
    (hs : findIn K (.ref C) "__eq__" = some (some (.ref f))) (hf : isFn K (.ref f) = true) (hm : mroIn K C (.type "object") = some true)
    (h : wpAny (model prog w) A.in1 (call (.ref f) [.ref x, b]) (fun v s' => ∃ r, v = .bool r ∧ Q (.bool (!r)) s') E s) : wpAny (model prog w) A (richCompare .NotEq (.ref x) b) Q E s := by
  have X := X₀.keeps F0.keep
  have hu0 : A.units < cLine := Nat.lt_of_succ_lt hu
  have one : wpAny (model prog w) A (tryCompare (.ref x) "__ne__" b) (fun r s' => ∃ v, r = some v ∧ Q v s') E s := by
    unfold tryCompare
    refine wpAny_bind ?_
    simp only [callSpecialIfBound?, bindSpecialIfBound?]
    have hcall : wpAny (model prog w) A (call (.builtin "object.__ne__") [.ref x, b]) (fun v s' => ∃ r, v = .bool r ∧ Q (.bool r) s') E s :=
      ne_call (Q := fun v s' => ∃ r, v = .bool r ∧ Q (.bool r) s') hu X I hs hf hm (wpAny_mono h (fun v s' ⟨r, e, q⟩ => ⟨r, e, _, rfl, q⟩) fun _ _ e => e)
    refine wpAny_holding (wpAny_bind (wpAny_bind (wpAny_bind (I.type.here ((looks_findIn X hne).here ?_)))))
    simp only [F.cmp_object.ne.bind]
    refine wpAny_bind (wpAny_askSetting (wpAny_ite ?_))
    split
    · refine wpAny_bind (wpAny_pure (wpAny_pure ?_))
      refine wpAny_bind (wpAny_mono hcall (fun v s' ⟨r, e, q⟩ => ?_) fun _ _ h' => h')
      subst e
      exact wpAny_pure (wpAny_pure ⟨_, rfl, q⟩)
    · refine wpAny_tryCatch (wpAny_bind (wpAny_pure (wpAny_pure ?_)))
      refine wpAny_bind (wpAny_mono hcall (fun v s' ⟨r, e, q⟩ => ?_) fun _ _ h' => h')
      subst e
      exact wpAny_pure (wpAny_pure ⟨_, rfl, q⟩)
  unfold richCompare
  simp only [oneThing_ref]
  refine wpAny_holding (wpAny_bind (wpAny_cRoomFor hu0 ?_))
  refine wpAny_bind (I.type.here (wpAny_bind (hb.here ?_)))
  split
  · rename_i q
    have e : subIn K tb (.ref C) = some false := by
      rcases Bool.or_eq_true_iff.mp hn with e | e
      · rw [beq_iff_eq.mp e] at q; simp at q
      · exact beq_iff_eq.mp e
    refine wpAny_bind ((looks_subIn X e).here ?_)
    simp only [Bool.false_eq_true, if_false]
    refine wpAny_bind (wpAny_mono one (fun r s' z => ?_) fun _ _ e => e)
    obtain ⟨v, rfl, hq⟩ := z
    exact wpAny_pure hq
  · refine wpAny_bind (wpAny_pure ?_)
    simp only [Bool.false_eq_true, if_false]
    refine wpAny_bind (wpAny_mono one (fun r s' z => ?_) fun _ _ e => e)
    obtain ⟨v, rfl, hq⟩ := z
    exact wpAny_pure hq
end
end KSup
namespace KSup
open PySem PySem.Spec PyProof.Rows L2
/-- an own __eq__ at f, != by it -/
structure EqC (K : PySem.W.Frag) (C f : Addr) : Prop where
  eq : PySem.W.findIn K (.ref C) "__eq__" = some (some (.ref f))
  ne : PySem.W.findIn K (.ref C) "__ne__" = some (some (.builtin "object.__ne__"))
  fn : PySem.W.isFn K (.ref f) = true
  mo : PySem.W.mroIn K C (.type "object") = some true
section
variable {X : Cx} {CX : CXT} {k : Nat} {f : Addr} {sp : Sp} {E : XK}
/-- the two sides, and what the own == promises -/
def rOwn (K : PySem.W.Frag) (f : Addr) (sp : Sp) (E : XK) (g : Bool → Bool) : R2 := fun x y H Q => ∃ a b C D dx dy fs gs, x = .ref a ∧ y = .ref b ∧ H a = some (.ins C dx fs) ∧ H b = some (.ins D dy gs) ∧ EqC K C f ∧ PySem.W.notFirst K C (.ref D) = true ∧
  sp [x, y] H (fun v H' => ∃ r, v = .bl r ∧ Q (.bl (g r)) H') E
theorem own_run {A : Around} {pins : List (Addr × Obj)} {σ : L2.St} {H : Hp} {s : Shared} {us : List Value} {vs : List V} {Q : VK} (F : FnR X.prog X.w X.K X.mg X.base CX k f sp) (hr : Room k A) (hA : A.frames = X.A.frames) (hx : Passes CX X E) (I : Inv X pins σ H s) (r : Vals vs us) (h : sp vs H Q E) :
    wpAny (model X.prog X.w) A (call (.ref f) us) (EP X pins σ Q) X.xe s := by
  have e0 : Env0 X.prog X.w X.K X.mg X.base A X.stack s H := by
    have e := I.env0
    exact ⟨by rw [hA]; exact e.frames, e.mod, e.bs, e.bsz, e.funs, e.frf, e.hok, e.bare⟩
  refine wpAny_call (codeAny_mono (F A X.stack s H us vs Q E hr e0 r h) fun r s' hq => ?_)
  cases r with
  | error e => exact hx pins σ H s e s' I hq
  | ok fl =>
    cases fl with
    | ret w => exact I.after hq
    | next => exact False.elim hq
    | brk => exact False.elim hq
    | cont => exact False.elim hq
theorem op_eqO (F : FnR X.prog X.w X.K X.mg X.base CX k f sp) (hr : Room k X.A) (hx : Passes CX X E) : OpR X (compareOp .Eq) (rOwn X.K f sp E fun r => r) := by
  intro pins s σ H x y v u Q I rx ry h
  obtain ⟨a, b, C, D, dx, dy, fs, gs, rfl, rfl, ha, hb, ec, nf, hsp⟩ := h
  cases rx
  cases ry
  obtain ⟨mA, O, _⟩ := ins_get I.hok ha
  obtain ⟨mB, O', _⟩ := ins_get I.hok hb
  obtain ⟨od, J, _⟩ := O.look
  obtain ⟨od', J', _⟩ := O'.look
  obtain ⟨m, hF⟩ := I.fr
  show wpAny (model X.prog X.w) X.A (richCompare .Eq (.ref a) (.ref b)) (EP X pins σ Q) X.xe s
  refine PySem.W.cmp_K (op := .Eq) (tb := .ref D) hr.units0 hF I.ok.mod.kin J J'.type nf ec.eq ec.fn ?_
  refine thn (own_run F hr rfl hx I (us := [Value.ref a, Value.ref b]) (vs := [V.ref a, V.ref b]) (.cons rfl (.cons rfl .nil)) hsp) fun v s' ⟨y, H', I', ry, r, e, q⟩ => ?_
  subst e
  cases ry
  exact ⟨V.bl _, H', I', rfl, q⟩
theorem op_neO (F : FnR X.prog X.w X.K X.mg X.base CX k f sp) (hr : Room (k + 1) X.A) (hx : Passes CX X E) : OpR X (compareOp .NotEq) (rOwn X.K f sp E fun r => !r) := by
  intro pins s σ H x y v u Q I rx ry h
  obtain ⟨a, b, C, D, dx, dy, fs, gs, rfl, rfl, ha, hb, ec, nf, hsp⟩ := h
  cases rx
  cases ry
  obtain ⟨mA, O, _⟩ := ins_get I.hok ha
  obtain ⟨mB, O', _⟩ := ins_get I.hok hb
  obtain ⟨od, J, _⟩ := O.look
  obtain ⟨od', J', _⟩ := O'.look
  obtain ⟨m, hF⟩ := I.fr
  show wpAny (model X.prog X.w) X.A (richCompare .NotEq (.ref a) (.ref b)) (EP X pins σ Q) X.xe s
  refine ne_K (tb := .ref D) (by have := hr.un; omega) hF I.ok.mod.kin J J'.type nf ec.ne ec.eq ec.fn ec.mo ?_
  refine thn (own_run F hr.in1 rfl hx I (us := [Value.ref a, Value.ref b]) (vs := [V.ref a, V.ref b]) (.cons rfl (.cons rfl .nil)) hsp) fun v s' ⟨y, H', I', ry, r, e, q⟩ => ?_
  subst e
  cases ry
  exact ⟨r, rfl, V.bl _, H', I', rfl, q⟩
/-! ### truth by an own __bool__ -/
structure BoolC (K : PySem.W.Frag) (C f : Addr) : Prop where
  bl : PySem.W.findIn K (.ref C) "__bool__" = some (some (.ref f))
  fn : PySem.W.isFn K (.ref f) = true
/-- a value that is an instance whose class has its __bool__ at one of two defs -/
def tTruO (K : PySem.W.Frag) (f1 f2 : Addr) (sp1 sp2 : Sp) (E : XK) (te : TE) : TT := fun σ H Q => te σ H fun x H1 => ∃ a C dx fs, x = .ref a ∧ H1 a = some (.ins C dx fs) ∧
  ((BoolC K C f1 ∧ sp1 [x] H1 (fun v H' => ∃ r, v = .bl r ∧ Q r H') E) ∨ (BoolC K C f2 ∧ sp2 [x] H1 (fun v H' => ∃ r, v = .bl r ∧ Q r H') E))
theorem pt_own {e : Expr} {te : TE} {f1 f2 : Addr} {sp1 sp2 : Sp} (F1 : FnR X.prog X.w X.K X.mg X.base CX k f1 sp1) (F2 : FnR X.prog X.w X.K X.mg X.base CX k f2 sp2) (hr : Room k X.A) (hx : Passes CX X E) (ha : PE X e te)
    (he : ∀ whole, isTrue e X.env whole = (do let v ← whole; standAt e.pos; holding [v] (truthy v)) := by intro _; rfl) : PT X e (tTruO X.K f1 f2 sp1 sp2 E te) := by
  refine ⟨fun pins s σ H Q I h => ?_⟩
  refine isTrue_plain (thn (ha.run pins s σ H _ I h) fun v s1 ⟨x, H1, I1, r1, a, C, dx, fs, ex, ea, q⟩ => ?_) (he _)
  subst ex
  obtain rfl : v = Value.ref a := r1
  obtain ⟨mA, O, _⟩ := ins_get I1.hok ea
  obtain ⟨od, J, _⟩ := O.look
  obtain ⟨m, hF⟩ := I1.fr
  rcases q with ⟨bc, hsp⟩ | ⟨bc, hsp⟩
  · refine PySem.W.truthy_K hF I1.ok.mod.kin J bc.bl bc.fn ?_
    refine thn (own_run F1 hr rfl hx I1 (us := [Value.ref a]) (vs := [V.ref a]) (.cons rfl .nil) hsp) fun v s' ⟨y, H', I', ry, r, e, q⟩ => ?_
    subst e
    cases ry
    exact ⟨H', I', q⟩
  · refine PySem.W.truthy_K hF I1.ok.mod.kin J bc.bl bc.fn ?_
    refine thn (own_run F2 hr rfl hx I1 (us := [Value.ref a]) (vs := [V.ref a]) (.cons rfl .nil) hsp) fun v s' ⟨y, H', I', ry, r, e, q⟩ => ?_
    subst e
    cases ry
    exact ⟨H', I', q⟩
end
end KSup
namespace K23
open PySem PySem.Spec PyProof.Rows L2
def topS (i : Nat) : Stmt := PySem.Challenge.pw_nevergone_k23_whole_bars_of_up_to_twelve.main.body.getD i (.Pass ⟨0, 0, 0, 0⟩)
abbrev sIsInt : Stmt := topS 1
abbrev sIsWithin : Stmt := topS 2
abbrev sIsListed : Stmt := topS 3
abbrev sIsPlain : Stmt := topS 4
abbrev sFixed : Stmt := topS 10
abbrev sAreLike : Stmt := topS 11
abbrev sPInit : Stmt := inClass (topS 12) 0
abbrev sPBool : Stmt := inClass (topS 12) 1
abbrev sPEq : Stmt := inClass (topS 12) 2
abbrev sDBool : Stmt := inClass (topS 13) 0
abbrev sBInit : Stmt := inClass (topS 18) 0
abbrev sUInit : Stmt := inClass (topS 19) 0
abbrev sLonger : Stmt := topS 20
abbrev sLeast : Stmt := topS 21
abbrev sAreBars : Stmt := topS 22
abbrev sNeedSizes : Stmt := topS 23
abbrev sNeedBars : Stmt := topS 24
abbrev sBars : Stmt := topS 25
abbrev sShows : Stmt := topS 26
abbrev sPen : Stmt := topS 28
abbrev sDraw : Stmt := topS 29
abbrev sPick : Stmt := topS 30
abbrev sLLeast : Stmt := topS 31
abbrev sLIs : Stmt := topS 32
abbrev sLaw : Stmt := topS 33
abbrev SC (N ps : List Str) (s : Stmt) : Prop := FnScope N ps (defScope s)
theorem scIsInt : SC ["value"] ["value"] sIsInt := ⟨rfl, rfl, rfl, by decide +kernel, rfl, by decide +kernel, by decide +kernel⟩
theorem scIsWithin : SC ["value", "least", "most"] ["value", "least", "most"] sIsWithin := ⟨rfl, rfl, rfl, by decide +kernel, rfl, by decide +kernel, by decide +kernel⟩
theorem scIsListed : SC ["value"] ["value"] sIsListed := ⟨rfl, rfl, rfl, by decide +kernel, rfl, by decide +kernel, by decide +kernel⟩
theorem scIsPlain : SC ["value", "many"] ["value", "many"] sIsPlain := ⟨rfl, rfl, rfl, by decide +kernel, rfl, by decide +kernel, by decide +kernel⟩
theorem scFixed : SC ["value", "part"] ["value"] sFixed := ⟨rfl, rfl, rfl, by decide +kernel, rfl, by decide +kernel, by decide +kernel⟩
theorem scAreLike : SC ["one", "other", "keys", "here", "there"] ["one", "other"] sAreLike := ⟨rfl, rfl, rfl, by decide +kernel, rfl, by decide +kernel, by decide +kernel⟩
theorem scPInit : SC ["self", "word", "parts"] ["self", "word", "parts"] sPInit := ⟨rfl, rfl, rfl, by decide +kernel, rfl, by decide +kernel, by decide +kernel⟩
theorem scPBool : SC ["self"] ["self"] sPBool := ⟨rfl, rfl, rfl, by decide +kernel, rfl, by decide +kernel, by decide +kernel⟩
theorem scPEq : SC ["self", "other"] ["self", "other"] sPEq := ⟨rfl, rfl, rfl, by decide +kernel, rfl, by decide +kernel, by decide +kernel⟩
theorem scDBool : SC ["self"] ["self"] sDBool := ⟨rfl, rfl, rfl, by decide +kernel, rfl, by decide +kernel, by decide +kernel⟩
theorem scLonger : SC ["lines", "cells", "sizes", "wanted", "found", "end", "many", "blocks", "start", "size", "row"] ["lines", "cells", "sizes", "wanted"] sLonger := ⟨rfl, rfl, rfl, by decide +kernel, rfl, by decide +kernel, by decide +kernel⟩
theorem scLeast : SC ["cells", "sizes", "wanted", "most", "lines", "found", "turn", "end", "row"] ["cells", "sizes", "wanted", "most"] sLeast := ⟨rfl, rfl, rfl, by decide +kernel, rfl, by decide +kernel, by decide +kernel⟩
theorem scAreBars : SC ["cells", "sizes", "wanted", "most", "value", "at", "start", "size", "row"] ["cells", "sizes", "wanted", "most", "value"] sAreBars := ⟨rfl, rfl, rfl, by decide +kernel, rfl, by decide +kernel, by decide +kernel⟩
theorem scNeedSizes : SC ["value", "one"] ["value"] sNeedSizes := ⟨rfl, rfl, rfl, by decide +kernel, rfl, by decide +kernel, by decide +kernel⟩
theorem scNeedBars : SC ["cells", "sizes", "wanted", "most", "found"] ["cells", "sizes", "wanted", "most"] sNeedBars := ⟨rfl, rfl, rfl, by decide +kernel, rfl, by decide +kernel, by decide +kernel⟩
theorem scBars : SC ["cells", "sizes", "wanted", "most", "told", "found"] ["cells", "sizes", "wanted", "most"] sBars := ⟨rfl, rfl, rfl, by decide +kernel, rfl, by decide +kernel, by decide +kernel⟩
theorem scShows : SC ["cells", "sizes", "wanted", "most", "value", "told", "found", "start", "size"] ["cells", "sizes", "wanted", "most", "value"] sShows := ⟨rfl, rfl, rfl, by decide +kernel, rfl, by decide +kernel, by decide +kernel⟩
theorem scPen : SC ["script", "cell"] ["script"] sPen := ⟨rfl, rfl, rfl, by decide +kernel, rfl, by decide +kernel, by decide +kernel⟩
theorem scDraw : SC ["pen", "many", "rest", "at", "cell", "mixed"] ["pen", "many"] sDraw := ⟨rfl, rfl, rfl, by decide +kernel, rfl, by decide +kernel, by decide +kernel⟩
theorem scPick : SC ["pen", "some"] ["pen", "some"] sPick := ⟨rfl, rfl, rfl, by decide +kernel, rfl, by decide +kernel, by decide +kernel⟩
theorem scLLeast : SC ["cells", "sizes", "wanted", "many", "ways", "best", "end", "used", "here", "gap", "size", "start", "way", "old"] ["cells", "sizes", "wanted", "many"] sLLeast := ⟨rfl, rfl, rfl, by decide +kernel, rfl, by decide +kernel, by decide +kernel⟩
theorem scLIs : SC ["cells", "sizes", "wanted", "many", "blocks", "at", "start", "size"] ["cells", "sizes", "wanted", "many", "blocks"] sLIs := ⟨rfl, rfl, rfl, by decide +kernel, rfl, by decide +kernel, by decide +kernel⟩
theorem scLaw : SC ["script", "pen", "turn", "cells", "wanted", "many", "sizes", "due", "told", "whole", "more", "blocks", "bent", "other", "is_right", "wrong", "size", "start", "pair", "value"] ["script"] sLaw := ⟨rfl, rfl, rfl, by decide +kernel, rfl, by decide +kernel, by decide +kernel⟩
end K23
namespace K23
open PySem PySem.Spec PyProof.Rows L2
/-! ### data under a grown heap -/
theorem sqT_same {K : PySem.W.Frag} {H H' : Hp} {a : Addr} {xs : List V} (e : Same H H') (h : SqT K H a xs) : SqT K H' a xs := by
  rcases h with (h | ⟨o, h⟩) | h
  · exact .inl (.inl (e _ _ h))
  · exact .inl (.inr ⟨o, e _ _ h⟩)
  · exact .inr h
mutual
theorem dp_same {K : PySem.W.Frag} {H H' : Hp} (e : Same H H') : ∀ {d : PyData} {v : V}, Dp K H v d → Dp K H' v d
  | .none, _, h => by cases h; exact .non
  | .bool b, _, h => by cases h; exact .bl b
  | .int i, _, h => by cases h; exact .int i
  | .str x, _, h => by cases h; exact .str x
  | .list ds, _, h => by
    cases h with
    | lst s a => exact .lst (e.seq s) (dpAll_same e a)
  | .tuple ds, _, h => by
    cases h with
    | tup s a => exact .tup (sqT_same e s) (dpAll_same e a)
  | .dict _, _, h => by cases h
theorem dpAll_same {K : PySem.W.Frag} {H H' : Hp} (e : Same H H') : ∀ {ds : List PyData} {vs : List V}, DpAll K H vs ds → DpAll K H' vs ds
  | [], _, h => by cases h; exact .nil
  | d :: ds, _, h => by
    cases h with
    | cons h1 h2 => exact .cons (dp_same e h1) (dpAll_same e h2)
end
theorem same_upd {H : Hp} {p : Addr} {o : HO} (h : H p = none) : Same H (upd H p o) := fun b x e => by
  rw [upd_ne (ne_of_none e h)]
  exact e
theorem same_upd' {H H1 : Hp} {p : Addr} {o : HO} (s : Same H H1) (h : H1 p = none) : Same H (upd H1 p o) := s.trans (same_upd h)
theorem dpAll_len {K : PySem.W.Frag} {H : Hp} : ∀ {ds : List PyData} {vs : List V}, DpAll K H vs ds → vs.length = ds.length
  | [], _, h => by cases h; rfl
  | d :: ds, _, h => by
    cases h with
    | cons h1 h2 => rw [List.length_cons, List.length_cons, dpAll_len h2]
/-! ### types -/
def tyD : PyData → String
  | .none => "NoneType"
  | .bool _ => "bool"
  | .int _ => "int"
  | .str _ => "str"
  | .list _ => "list"
  | .tuple _ => "tuple"
  | .dict _ => "dict"
theorem tyX_lst {K : PySem.W.Frag} {H : Hp} {a : Addr} {xs : List V} (s : SqL K H a xs) : TyX K H (.ref a) (.type "list") := by
  rcases s with (h | ⟨o, h⟩) | ⟨o, its, n, h, c, _⟩
  · exact .base (.lst h)
  · exact .base (.frz h)
  · exact .kList h c
theorem tyX_tup {K : PySem.W.Frag} {H : Hp} {a : Addr} {xs : List V} (s : SqT K H a xs) : TyX K H (.ref a) (.type "tuple") := by
  rcases s with (h | ⟨o, h⟩) | ⟨o, its, n, h, c, _⟩
  · exact .base (.tup h)
  · exact .fTuple h
  · exact .kTuple h c
theorem tyX_dp {K : PySem.W.Frag} {H : Hp} {v : V} {d : PyData} (h : Dp K H v d) : TyX K H v (.type (tyD d)) := by
  cases h with
  | non => exact .base .non
  | bl b => exact .base (.bl b)
  | int i => exact .base (.int i)
  | str x => exact .base (.str x)
  | lst s _ => exact tyX_lst s
  | tup s _ => exact tyX_tup s
theorem kt {K : PySem.W.Frag} (a b : String) {r : Bool} (h : kitB a b = some r) : PySem.W.kitOne K (.type a) (.type b) = some r := kit_ty h
theorem k_NoneType_int {K : PySem.W.Frag} : PySem.W.kitOne K (.type "NoneType") (.type "int") = some false := kit_ty (by decide +kernel)
theorem k_NoneType_bool {K : PySem.W.Frag} : PySem.W.kitOne K (.type "NoneType") (.type "bool") = some false := kit_ty (by decide +kernel)
theorem k_NoneType_list {K : PySem.W.Frag} : PySem.W.kitOne K (.type "NoneType") (.type "list") = some false := kit_ty (by decide +kernel)
theorem k_NoneType_tuple {K : PySem.W.Frag} : PySem.W.kitOne K (.type "NoneType") (.type "tuple") = some false := kit_ty (by decide +kernel)
theorem k_NoneType_dict {K : PySem.W.Frag} : PySem.W.kitOne K (.type "NoneType") (.type "dict") = some false := kit_ty (by decide +kernel)
theorem k_bool_int {K : PySem.W.Frag} : PySem.W.kitOne K (.type "bool") (.type "int") = some true := kit_ty (by decide +kernel)
theorem k_bool_bool {K : PySem.W.Frag} : PySem.W.kitOne K (.type "bool") (.type "bool") = some true := kit_ty (by decide +kernel)
theorem k_bool_list {K : PySem.W.Frag} : PySem.W.kitOne K (.type "bool") (.type "list") = some false := kit_ty (by decide +kernel)
theorem k_bool_tuple {K : PySem.W.Frag} : PySem.W.kitOne K (.type "bool") (.type "tuple") = some false := kit_ty (by decide +kernel)
theorem k_bool_dict {K : PySem.W.Frag} : PySem.W.kitOne K (.type "bool") (.type "dict") = some false := kit_ty (by decide +kernel)
theorem k_int_int {K : PySem.W.Frag} : PySem.W.kitOne K (.type "int") (.type "int") = some true := kit_ty (by decide +kernel)
theorem k_int_bool {K : PySem.W.Frag} : PySem.W.kitOne K (.type "int") (.type "bool") = some false := kit_ty (by decide +kernel)
theorem k_int_list {K : PySem.W.Frag} : PySem.W.kitOne K (.type "int") (.type "list") = some false := kit_ty (by decide +kernel)
theorem k_int_tuple {K : PySem.W.Frag} : PySem.W.kitOne K (.type "int") (.type "tuple") = some false := kit_ty (by decide +kernel)
theorem k_int_dict {K : PySem.W.Frag} : PySem.W.kitOne K (.type "int") (.type "dict") = some false := kit_ty (by decide +kernel)
theorem k_str_int {K : PySem.W.Frag} : PySem.W.kitOne K (.type "str") (.type "int") = some false := kit_ty (by decide +kernel)
theorem k_str_bool {K : PySem.W.Frag} : PySem.W.kitOne K (.type "str") (.type "bool") = some false := kit_ty (by decide +kernel)
theorem k_str_list {K : PySem.W.Frag} : PySem.W.kitOne K (.type "str") (.type "list") = some false := kit_ty (by decide +kernel)
theorem k_str_tuple {K : PySem.W.Frag} : PySem.W.kitOne K (.type "str") (.type "tuple") = some false := kit_ty (by decide +kernel)
theorem k_str_dict {K : PySem.W.Frag} : PySem.W.kitOne K (.type "str") (.type "dict") = some false := kit_ty (by decide +kernel)
theorem k_list_int {K : PySem.W.Frag} : PySem.W.kitOne K (.type "list") (.type "int") = some false := kit_ty (by decide +kernel)
theorem k_list_bool {K : PySem.W.Frag} : PySem.W.kitOne K (.type "list") (.type "bool") = some false := kit_ty (by decide +kernel)
theorem k_list_list {K : PySem.W.Frag} : PySem.W.kitOne K (.type "list") (.type "list") = some true := kit_ty (by decide +kernel)
theorem k_list_tuple {K : PySem.W.Frag} : PySem.W.kitOne K (.type "list") (.type "tuple") = some false := kit_ty (by decide +kernel)
theorem k_list_dict {K : PySem.W.Frag} : PySem.W.kitOne K (.type "list") (.type "dict") = some false := kit_ty (by decide +kernel)
theorem k_tuple_int {K : PySem.W.Frag} : PySem.W.kitOne K (.type "tuple") (.type "int") = some false := kit_ty (by decide +kernel)
theorem k_tuple_bool {K : PySem.W.Frag} : PySem.W.kitOne K (.type "tuple") (.type "bool") = some false := kit_ty (by decide +kernel)
theorem k_tuple_list {K : PySem.W.Frag} : PySem.W.kitOne K (.type "tuple") (.type "list") = some false := kit_ty (by decide +kernel)
theorem k_tuple_tuple {K : PySem.W.Frag} : PySem.W.kitOne K (.type "tuple") (.type "tuple") = some true := kit_ty (by decide +kernel)
theorem k_tuple_dict {K : PySem.W.Frag} : PySem.W.kitOne K (.type "tuple") (.type "dict") = some false := kit_ty (by decide +kernel)
/-! ### the built-in names -/
structure Bl (mg : Str → Option Value) : Prop where
  isi : mg "isinstance" = none
  int : mg "int" = none
  bool : mg "bool" = none
  list : mg "list" = none
  tuple : mg "tuple" = none
  dict : mg "dict" = none
  len : mg "len" = none
  min : mg "min" = none
  max : mg "max" = none
  sum : mg "sum" = none
  all : mg "all" = none
  sorted : mg "sorted" = none
  range : mg "range" = none
  abs : mg "abs" = none
  zip : mg "zip" = none
  super : mg "super" = none
def isInt : PyData → Bool
  | .int _ => true
  | _ => false
def isSeq : PyData → Bool
  | .list _ => true
  | .tuple _ => true
  | _ => false
def sizeD : PyData → Nat
  | .list xs => xs.length
  | .tuple xs => xs.length
  | _ => 0
def inI (d : PyData) (l m : Int) : Bool := match d with
  | .int i => decide (l ≤ i) && decide (i ≤ m)
  | _ => false
def isPlain (d : PyData) (n : Int) : Bool := isSeq d && decide ((sizeD d : Int) = n)
section
variable {P : Program} {w : World} {K : PySem.W.Frag} {mg : Str → Option Value} {base : Heap} {f g : Addr} {fd gd : FuncData}
abbrev FnP (K : PySem.W.Frag) (x : Str) (st : Stmt) (f : Addr) (fd : FuncData) : Prop := FunD K x x (defArgs st) (defBody st) (defScope st) [] [] f fd
def spIsInt (K : PySem.W.Frag) : Sp := fun vs H Q _ => ∃ v d, vs = [v] ∧ Dp K H v d ∧ Q (.bl (isInt d)) H
theorem ok_isInt (F : FnP K "is_integer" sIsInt f fd) (T : Bl mg) : FnOk P w K mg base CX0 1 f fd ["value"] (spIsInt K) := by
  refine F.ok scIsInt (fun vs H Q E h => ?_) (fun cdv A outer s H vs Q E hr h => ?_)
  · obtain ⟨v, d, rfl, _⟩ := h
    rfl
  · obtain ⟨v, d, rfl, hd, hq⟩ := h
    refine ⟨_, PSs.nox (pss_one (ps_ret (pe_and (pe_callB call_isi (by rfl) T.isi (by decide +kernel) (pa_cons (pv 0) (pa_cons (pe_bltn (v := .ty "int") (by rfl) T.int (by decide +kernel) rfl) pa_nil)))
      (pe_one (pe_not (pe_callB call_isi (by rfl) T.isi (by decide +kernel) (pa_cons (pv 0) (pa_cons (pe_bltn (v := .ty "bool") (by rfl) T.bool (by decide +kernel) rfl) pa_nil)))))))), ?_⟩
    have ty := tyX_dp hd
    cases hd with
    | int i => exact ⟨_, rfl, _, _, _, _, true, rfl, .ty _, ty, k_int_int, true, rfl, iteT ⟨_, rfl, _, _, _, _, false, rfl, .ty _, ty, k_int_bool, false, rfl, hq⟩⟩
    | bl i => exact ⟨_, rfl, _, _, _, _, true, rfl, .ty _, ty, k_bool_int, true, rfl, iteT ⟨_, rfl, _, _, _, _, true, rfl, .ty _, ty, k_bool_bool, true, rfl, hq⟩⟩
    | non => exact ⟨_, rfl, _, _, _, _, false, rfl, .ty _, ty, k_NoneType_int, false, rfl, iteF hq⟩
    | str x => exact ⟨_, rfl, _, _, _, _, false, rfl, .ty _, ty, k_str_int, false, rfl, iteF hq⟩
    | lst s a => exact ⟨_, rfl, _, _, _, _, false, rfl, .ty _, ty, k_list_int, false, rfl, iteF hq⟩
    | tup s a => exact ⟨_, rfl, _, _, _, _, false, rfl, .ty _, ty, k_tuple_int, false, rfl, iteF hq⟩
def spIsWithin (K : PySem.W.Frag) : Sp := fun vs H Q _ => ∃ v d l m, vs = [v, .int l, .int m] ∧ Dp K H v d ∧ Q (.bl (inI d l m)) H
theorem ok_isWithin (F : FnP K "is_within" sIsWithin f fd) (G : FnOk P w K mg base CX0 1 g gd ["value"] (spIsInt K)) (kg : PySem.W.keepIn K (.ref g) = true) (bg : Binds K gd ["value"] []) (gm : mg "is_integer" = some (.ref g)) :
    FnOk P w K mg base CX0 2 f fd ["value", "least", "most"] (spIsWithin K) := by
  refine F.ok scIsWithin (fun vs H Q E h => ?_) (fun cdv A outer s H vs Q E hr h => ?_)
  · obtain ⟨v, d, l, m, rfl, _⟩ := h
    rfl
  · obtain ⟨v, d, l, m, rfl, hd, hq⟩ := h
    refine ⟨_, PSs.nox (pss_one (ps_ret (pe_and (pe_call G hr (by rfl) gm kg bg .nil pass0 (pa_cons (pv 0) pa_nil)) (pe_one (pe_chain op_le op_le (pv 1) (pv 0) (pv 2)))))), ?_⟩
    refine ⟨_, rfl, _, _, rfl, hd, _, rfl, ?_⟩
    cases hd with
    | int i =>
      refine iteT ⟨_, rfl, _, rfl, _, _, rfl, rfl, _, rfl, ?_⟩
      by_cases h1 : l ≤ i
      · rw [if_pos (decide_eq_true h1)]
        have e : inI (.int i) l m = decide (i ≤ m) := by
          show (decide (l ≤ i) && decide (i ≤ m)) = _
          rw [decide_eq_true h1, Bool.true_and]
        rw [e] at hq
        exact ⟨_, rfl, _, _, rfl, rfl, hq⟩
      · rw [if_neg (by simpa using h1)]
        have e : inI (.int i) l m = false := by
          show (decide (l ≤ i) && decide (i ≤ m)) = _
          rw [decide_eq_false h1, Bool.false_and]
        rw [e] at hq
        exact hq
    | _ => exact iteF hq
end
end K23
namespace K23
open PySem PySem.Spec PyProof.Rows L2
section
variable {P : Program} {w : World} {K : PySem.W.Frag} {mg : Str → Option Value} {base : Heap} {f g : Addr} {fd gd : FuncData}
theorem kitListed {K : PySem.W.Frag} (d : PyData) (hd : ∀ kvs, d ≠ .dict kvs) : PySem.W.kitAny K (.type (tyD d)) [.type "list", .type "tuple"] = some (isSeq d) := by
  cases d with
  | none => exact kitAny_cons k_NoneType_list (fun _ => kitAny_cons k_NoneType_tuple (fun _ => kitAny_nil) (fun h => nomatch h)) (fun h => nomatch h)
  | bool b => exact kitAny_cons k_bool_list (fun _ => kitAny_cons k_bool_tuple (fun _ => kitAny_nil) (fun h => nomatch h)) (fun h => nomatch h)
  | int b => exact kitAny_cons k_int_list (fun _ => kitAny_cons k_int_tuple (fun _ => kitAny_nil) (fun h => nomatch h)) (fun h => nomatch h)
  | str b => exact kitAny_cons k_str_list (fun _ => kitAny_cons k_str_tuple (fun _ => kitAny_nil) (fun h => nomatch h)) (fun h => nomatch h)
  | list b => exact kitAny_cons k_list_list (fun h => nomatch h) (fun _ => rfl)
  | tuple b => exact kitAny_cons k_tuple_list (fun _ => kitAny_cons k_tuple_tuple (fun h => nomatch h) (fun _ => rfl)) (fun h => nomatch h)
  | dict b => exact absurd rfl (hd b)
theorem dp_nodict {H : Hp} {v : V} {d : PyData} (h : Dp K H v d) : ∀ kvs, d ≠ .dict kvs := by
  intro kvs e
  subst e
  cases h
def spIsListed (K : PySem.W.Frag) : Sp := fun vs H Q _ => ∃ v d, vs = [v] ∧ Dp K H v d ∧ ∀ H', Same H H' → Q (.bl (isSeq d)) H'
theorem ok_isListed (F : FnP K "is_listed" sIsListed f fd) (T : Bl mg) : FnOk P w K mg base CX0 1 f fd ["value"] (spIsListed K) := by
  refine F.ok scIsListed (fun vs H Q E h => ?_) (fun cdv A outer s H vs Q E hr h => ?_)
  · obtain ⟨v, d, rfl, _⟩ := h
    rfl
  · obtain ⟨v, d, rfl, hd, hq⟩ := h
    refine ⟨_, PSs.nox (pss_one (ps_ret (pe_callB call_isiT (by rfl) T.isi (by decide +kernel) (pa_cons (pv 0) (pa_cons (pe_tup (pa_cons (pe_bltn (v := .ty "list") (by rfl) T.list (by decide +kernel) rfl)
      (pa_cons (pe_bltn (v := .ty "tuple") (by rfl) T.tuple (by decide +kernel) rfl) pa_nil))) pa_nil))))), ?_⟩
    refine ⟨_, rfl, by decide, fun p np => ?_⟩
    have s1 : Same H (upd H p (.tup [.ty "list", .ty "tuple"])) := same_upd np
    exact ⟨_, p, _, _, _, _, rfl, upd_same, .cons (.ty _) (.cons (.ty _) .nil), tyX_dp (dp_same s1 hd), kitListed d (dp_nodict hd), hq _ s1⟩
def spIsPlain (K : PySem.W.Frag) : Sp := fun vs H Q _ => ∃ v d n, vs = [v, .int n] ∧ Dp K H v d ∧ ∀ H', Same H H' → Q (.bl (isPlain d n)) H'
theorem ok_isPlain (F : FnP K "is_plain_tuple" sIsPlain f fd) (T : Bl mg) (G : FnOk P w K mg base CX0 1 g gd ["value"] (spIsListed K)) (kg : PySem.W.keepIn K (.ref g) = true) (bg : Binds K gd ["value"] []) (gm : mg "is_listed" = some (.ref g)) :
    FnOk P w K mg base CX0 2 f fd ["value", "many"] (spIsPlain K) := by
  refine F.ok scIsPlain (fun vs H Q E h => ?_) (fun cdv A outer s H vs Q E hr h => ?_)
  · obtain ⟨v, d, n, rfl, _⟩ := h
    rfl
  · obtain ⟨v, d, n, rfl, hd, hq⟩ := h
    refine ⟨_, PSs.nox (pss_one (ps_ret (pe_and (pe_call G hr (by rfl) gm kg bg .nil pass0 (pa_cons (pv 0) pa_nil))
      (pe_one (pe_cmpR op_eq (pe_callB call_len_seq (by rfl) T.len PySem.boot_len (pa_cons (pv 0) pa_nil)) (pv 1) (nomark _)))))), ?_⟩
    refine ⟨_, rfl, _, _, rfl, hd, fun H' s1 => ⟨_, rfl, ?_⟩⟩
    have e : ∀ L : Nat, isSeq d = true → sizeD d = L → decide (V.int (L : Int) = V.int n) = isPlain d n := by
      intro L he hz
      unfold isPlain
      rw [he, Bool.true_and, hz]
      by_cases h1 : (L : Int) = n
      · rw [decide_eq_true h1, decide_eq_true (by rw [h1])]
      · rw [decide_eq_false h1, decide_eq_false (fun z => h1 (V.int.inj z))]
    have d1 := dp_same s1 hd
    cases d1 with
    | lst s a =>
      refine iteT ⟨_, rfl, _, _, rfl, .inl s, _, rfl, rfl, ?_⟩
      rw [e _ rfl (dpAll_len a).symm]
      exact hq _ s1
    | tup s a =>
      refine iteT ⟨_, rfl, _, _, rfl, .inr s, _, rfl, rfl, ?_⟩
      rw [e _ rfl (dpAll_len a).symm]
      exact hq _ s1
    | _ => exact iteF (hq _ s1)
end
end K23
namespace K23
open PySem PySem.Spec PyProof.Rows L2
theorem dpAll_get {K : PySem.W.Frag} {H : Hp} : ∀ {ds : List PyData} {vs : List V} {i : Nat} {v : V}, DpAll K H vs ds → vs[i]? = some v → ∃ d, ds[i]? = some d ∧ Dp K H v d
  | [], _, i, v, h, e => by cases h; simp at e
  | d :: ds, _, 0, v, h, e => by
    cases h with
    | cons h1 h2 => simp at e; subst e; exact ⟨d, rfl, h1⟩
  | d :: ds, _, i + 1, v, h, e => by
    cases h with
    | cons h1 h2 =>
      obtain ⟨d', a, b⟩ := dpAll_get h2 (by simpa using e)
      exact ⟨d', by simpa using a, b⟩
theorem dpAll_snoc {K : PySem.W.Frag} {H : Hp} : ∀ {ds : List PyData} {vs : List V} {d : PyData} {v : V}, DpAll K H vs ds → Dp K H v d → DpAll K H (vs ++ [v]) (ds ++ [d])
  | [], _, d, v, h, e => by cases h; exact .cons e .nil
  | d0 :: ds, _, d, v, h, e => by
    cases h with
    | cons h1 h2 => exact .cons h1 (dpAll_snoc h2 e)
theorem filter_take_succ {α : Type} (p : α → Bool) {l : List α} {i : Nat} {x : α} (h : l[i]? = some x) : (l.take (i + 1)).filter p = (l.take i).filter p ++ (if p x = true then [x] else []) := by
  rw [List.take_succ, h, List.filter_append]
  show (l.take i).filter p ++ [x].filter p = _
  rw [List.filter_cons]
  split <;> rfl
/-! data without lists: what changes a list leaves it -/
mutual
def tupOnly : PyData → Bool
  | .list _ => false
  | .dict _ => false
  | .tuple ds => tupAll ds
  | _ => true
def tupAll : List PyData → Bool
  | [] => true
  | d :: ds => tupOnly d && tupAll ds
end
theorem tupAll_cons {d : PyData} {ds : List PyData} (h : tupAll (d :: ds) = true) : tupOnly d = true ∧ tupAll ds = true := by
  rw [tupAll, Bool.and_eq_true] at h
  exact h
theorem tupOnly_tuple {ds : List PyData} (h : tupOnly (.tuple ds) = true) : tupAll ds = true := by
  rw [tupOnly] at h
  exact h
theorem rd_tup_upd {H : Hp} {D a : Addr} {zs ws xs : List V} (hD : H D = some (.lst zs)) (h : Rd H a (.tup xs)) : Rd (upd H D (.lst ws)) a (.tup xs) := by
  rcases h with h | ⟨o, h⟩
  · exact .inl (by rw [upd_ne (ne_of h hD (fun z => nomatch z))]; exact h)
  · exact .inr ⟨o, by rw [upd_ne (ne_of h hD (fun z => nomatch z))]; exact h⟩
mutual
theorem dp_updL {K : PySem.W.Frag} {H : Hp} {D : Addr} {zs ws : List V} (hD : H D = some (.lst zs)) : ∀ {d : PyData} {v : V}, tupOnly d = true → Dp K H v d → Dp K (upd H D (.lst ws)) v d
  | .none, _, _, h => by cases h; exact .non
  | .bool b, _, _, h => by cases h; exact .bl b
  | .int i, _, _, h => by cases h; exact .int i
  | .str x, _, _, h => by cases h; exact .str x
  | .list ds, _, t, h => by rw [tupOnly] at t; cases t
  | .tuple ds, _, t, h => by
    cases h with
    | tup s a =>
      refine .tup ?_ (dpAll_updL hD (tupOnly_tuple t) a)
      rcases s with s | s
      · exact .inl (rd_tup_upd hD s)
      · exact .inr s
  | .dict _, _, _, h => by cases h
theorem dpAll_updL {K : PySem.W.Frag} {H : Hp} {D : Addr} {zs ws : List V} (hD : H D = some (.lst zs)) : ∀ {ds : List PyData} {vs : List V}, tupAll ds = true → DpAll K H vs ds → DpAll K (upd H D (.lst ws)) vs ds
  | [], _, _, h => by cases h; exact .nil
  | d :: ds, _, t, h => by
    cases h with
    | cons h1 h2 => exact .cons (dp_updL hD (tupAll_cons t).1 h1) (dpAll_updL hD (tupAll_cons t).2 h2)
end
theorem tupAll_of : ∀ {ds : List PyData}, (∀ d ∈ ds, tupOnly d = true) → tupAll ds = true
  | [], _ => by rw [tupAll]
  | d :: ds, h => by
    rw [tupAll, h d (List.mem_cons_self), tupAll_of fun x hx => h x (List.mem_cons_of_mem _ hx)]
    rfl
section
variable {K : PySem.W.Frag} {a : Addr} {xs : List V} {ds : List PyData} {g : TG} {tt : TT} {te : TE} {vs : List Nat} {σ : L2.St} {H1 : Hp} {D : Addr} {Qd : Hp → Prop}
/-- what a turn of a comprehension is to show: from data d, kept by keep, the data F d -/
abbrev LcStep (K : PySem.W.Frag) (ds : List PyData) (g : TG) (tt : TT) (te : TE) (vs : List Nat) (σ : L2.St) (H1 : Hp) (keep : PyData → Bool) (F : PyData → PyData) : Prop :=
  ∀ x d H, Same H1 H → Dp K H x d → d ∈ ds → ∀ (R : V → Hp → Prop) (S : Hp → Prop), (∀ y H', Same H H' → keep d = true → Dp K H' y (F d) → R y H') → (∀ H', Same H H' → keep d = false → S H') →
    g x (wipe σ vs) H fun σ2 H2 => wipe σ2 vs = wipe σ vs ∧ tt σ2 H2 fun b H3 => if b = true then te σ2 H3 R else S H3
def LcP (K : PySem.W.Frag) (ds : List PyData) (H1 : Hp) (D : Addr) (keep : PyData → Bool) (F : PyData → PyData) (i : Nat) (H : Hp) : Prop :=
  Same H1 H ∧ ∃ ys, H D = some (.lst ys) ∧ DpAll K H ys (((ds.take i).filter keep).map F)
theorem lcP_turn {keep : PyData → Bool} {F : PyData → PyData} (hlen : ds.length ≤ 1000000) (nD : H1 D = none) (hds : DpAll K H1 xs ds) (hF : ∀ d ∈ ds, keep d = true → tupOnly (F d) = true) (step : LcStep K ds g tt te vs σ H1 keep F)
    (i : Nat) (x : V) (H : Hp) (hx : xs[i]? = some x) (p : LcP K ds H1 D keep F i H) :
    g x (wipe σ vs) H fun σ2 H2 => wipe σ2 vs = wipe σ vs ∧ tt σ2 H2 fun b H3 =>
      if b = true then te σ2 H3 fun y H4 => ∃ acc, H4 D = some (.lst acc) ∧ acc.length < sizeLine ∧ LcP K ds H1 D keep F (i + 1) (upd H4 D (.lst (acc ++ [y]))) else LcP K ds H1 D keep F (i + 1) H3 := by
  obtain ⟨s1, ys, eD, hys⟩ := p
  obtain ⟨d, hd, hxd⟩ := dpAll_get hds hx
  refine step x d H s1 (dp_same s1 hxd) (List.mem_of_getElem? hd) _ _ (fun y H' s2 hk hy => ⟨ys, s2 _ _ eD, ?_, ?_⟩) (fun H' s2 hk => ?_)
  · rw [dpAll_len hys, List.length_map]
    have h1 := List.length_filter_le keep (ds.take i)
    have h2 : (ds.take i).length ≤ ds.length := List.length_take_le' _ _
    rw [sizeLine_eq]
    omega
  · have sU : Same H1 (upd H' D (.lst (ys ++ [y]))) := fun b o e => by
      have hb : b ≠ D := ne_of_none e nD
      rw [upd_ne hb]
      exact s2 _ _ (s1 _ _ e)
    refine ⟨sU, _, upd_same, ?_⟩
    rw [filter_take_succ keep hd, if_pos hk, List.map_append]
    refine dpAll_updL (s2 _ _ eD) (tupAll_of fun z hz => ?_) (dpAll_snoc (dpAll_same s2 hys) hy)
    rcases List.mem_append.mp hz with hz | hz
    · obtain ⟨z0, h0, rfl⟩ := List.mem_map.mp hz
      obtain ⟨h1, h2⟩ := List.mem_filter.mp h0
      exact hF _ (List.mem_of_mem_take h1) h2
    · rw [List.map_singleton, List.mem_singleton] at hz
      rw [hz]
      exact hF _ (List.mem_of_getElem? hd) hk
  · refine ⟨s1.trans s2, ys, s2 _ _ eD, ?_⟩
    rw [filter_take_succ keep hd, hk]
    simp only [Bool.false_eq_true, if_false, List.append_nil]
    exact dpAll_same s2 hys
theorem lc_dpL {keep : PyData → Bool} {F : PyData → PyData} (hlen : ds.length ≤ 1000000) (hsrc : SqL K H1 a xs) (nD : H1 D = none) (hds : DpAll K H1 xs ds) (hF : ∀ d ∈ ds, keep d = true → tupOnly (F d) = true) (step : LcStep K ds g tt te vs σ H1 keep F)
    (hd : ∀ H ys, Same H1 H → H D = some (.lst ys) → DpAll K H ys ((ds.filter keep).map F) → Qd H) :
    ∃ W : Nat → Nat → Hp → Prop, (∃ m, W 0 m (upd H1 D (.lst []))) ∧ ∀ i m H, W i m H →
      ((Itl K a).stop i H ∧ Qd H) ∨ ((Itl K a).go i H ∧ ∃ Nx : Hp → Prop, (∀ H', Nx H' → ∃ m', m' < m ∧ W (i + 1) m' H') ∧ ∀ x H', (Itl K a).yld i H x H' → g x (wipe σ vs) H' fun σ2 H2 => wipe σ2 vs = wipe σ vs ∧ tt σ2 H2 fun b H3 =>
        if b = true then te σ2 H3 fun y H4 => ∃ acc, H4 D = some (.lst acc) ∧ acc.length < sizeLine ∧ Nx (upd H4 D (.lst (acc ++ [y]))) else Nx H3) :=
  lc_list (K := K) (a := a) (xs := xs) (LcP K ds H1 D keep F) ⟨same_upd nD, [], upd_same, .nil⟩ (fun i H hi p => p.1.seq hsrc) (fun i x H hx p => lcP_turn hlen nD hds hF step i x H hx p) (fun H p => by
    obtain ⟨s1, ys, e, h⟩ := p
    rw [dpAll_len hds, List.take_length] at h
    exact hd H ys s1 e h)
theorem lc_dpT {keep : PyData → Bool} {F : PyData → PyData} (hlen : ds.length ≤ 1000000) (hsrc : SqT K H1 a xs) (nD : H1 D = none) (hds : DpAll K H1 xs ds) (hF : ∀ d ∈ ds, keep d = true → tupOnly (F d) = true) (step : LcStep K ds g tt te vs σ H1 keep F)
    (hd : ∀ H ys, Same H1 H → H D = some (.lst ys) → DpAll K H ys ((ds.filter keep).map F) → Qd H) :
    ∃ W : Nat → Nat → Hp → Prop, (∃ m, W 0 m (upd H1 D (.lst []))) ∧ ∀ i m H, W i m H →
      ((Itt K a).stop i H ∧ Qd H) ∨ ((Itt K a).go i H ∧ ∃ Nx : Hp → Prop, (∀ H', Nx H' → ∃ m', m' < m ∧ W (i + 1) m' H') ∧ ∀ x H', (Itt K a).yld i H x H' → g x (wipe σ vs) H' fun σ2 H2 => wipe σ2 vs = wipe σ vs ∧ tt σ2 H2 fun b H3 =>
        if b = true then te σ2 H3 fun y H4 => ∃ acc, H4 D = some (.lst acc) ∧ acc.length < sizeLine ∧ Nx (upd H4 D (.lst (acc ++ [y]))) else Nx H3) :=
  lc_tup (K := K) (a := a) (xs := xs) (LcP K ds H1 D keep F) ⟨same_upd nD, [], upd_same, .nil⟩ (fun i H hi p => sqT_same p.1 hsrc) (fun i x H hx p => lcP_turn hlen nD hds hF step i x H hx p) (fun H p => by
    obtain ⟨s1, ys, e, h⟩ := p
    rw [dpAll_len hds, List.take_length] at h
    exact hd H ys s1 e h)
end
end K23
namespace K23
open PySem PySem.Spec PyProof.Rows L2
mutual
def tupD : PyData → PyData
  | .list xs => .tuple (tupDs xs)
  | .tuple xs => .tuple (tupDs xs)
  | d => d
def tupDs : List PyData → List PyData
  | [] => []
  | d :: ds => tupD d :: tupDs ds
end
theorem tupDs_map : ∀ ds, tupDs ds = ds.map tupD
  | [] => by rw [tupDs]; rfl
  | d :: ds => by rw [tupDs, tupDs_map ds]; rfl
def fits : Nat → PyData → Prop
  | n + 1, .list ds => ds.length ≤ 1000000 ∧ ∀ d ∈ ds, fits n d
  | n + 1, .tuple ds => ds.length ≤ 1000000 ∧ ∀ d ∈ ds, fits n d
  | 0, .list _ => False
  | 0, .tuple _ => False
  | _, .dict _ => False
  | _, _ => True
theorem tupOnly_tupD : ∀ n d, fits n d → tupOnly (tupD d) = true
  | _, .none, _ => by simp [tupD, tupOnly]
  | _, .bool _, _ => by simp [tupD, tupOnly]
  | _, .int _, _ => by simp [tupD, tupOnly]
  | _, .str _, _ => by simp [tupD, tupOnly]
  | n + 1, .list ds, h => by
    rw [tupD, tupOnly, tupDs_map]
    refine tupAll_of fun z hz => ?_
    obtain ⟨d, hd, rfl⟩ := List.mem_map.mp hz
    exact tupOnly_tupD n d (h.2 d hd)
  | n + 1, .tuple ds, h => by
    rw [tupD, tupOnly, tupDs_map]
    refine tupAll_of fun z hz => ?_
    obtain ⟨d, hd, rfl⟩ := List.mem_map.mp hz
    exact tupOnly_tupD n d (h.2 d hd)
  | 0, .list _, h => h.elim
  | 0, .tuple _, h => h.elim
  | 0, .dict _, h => by simp [fits] at h
  | n + 1, .dict _, h => by simp [fits] at h
theorem filter_tt {α : Type} (l : List α) : l.filter (fun _ => true) = l := List.filter_eq_self.mpr fun _ _ => rfl
theorem wipe_one (σ : L2.St) (i : Nat) (x : Option V) : wipe ((wipe σ [i]).set i x) [i] = wipe σ [i] := by
  simp [wipe]
section
variable {P : Program} {w : World} {K : PySem.W.Frag} {mg : Str → Option Value} {base : Heap} {f g : Addr} {fd gd : FuncData}
def spFixed (K : PySem.W.Frag) (n : Nat) : Sp := fun vs H Q _ => ∃ v d, vs = [v] ∧ Dp K H v d ∧ fits n d ∧ ∀ H' v', Same H H' → Dp K H' v' (tupD d) → Q v' H'
theorem ok_fixed (F : FnP K "fixed" sFixed f fd) (T : Bl mg) (bf : Binds K fd ["value"] []) (gm : mg "fixed" = some (.ref f)) : ∀ n, FnOk P w K mg base CX0 (n + 1) f fd ["value"] (spFixed K n)
  | 0 => by
    refine F.ok scFixed (fun vs H Q E h => ?_) (fun cdv A outer s H vs Q E hr h => ?_)
    · obtain ⟨v, d, rfl, _⟩ := h
      rfl
    · obtain ⟨v, d, rfl, hd, hf, hq⟩ := h
      refine ⟨_, PSs.nox (pss_cons (ps_if (pt_val (pe_callB call_isiT (by rfl) T.isi (by decide +kernel) (pa_cons (pv 0) (pa_cons (pe_tup (pa_cons (pe_bltn (v := .ty "list") (by rfl) T.list (by decide +kernel) rfl)
          (pa_cons (pe_bltn (v := .ty "tuple") (by rfl) T.tuple (by decide +kernel) rfl) pa_nil))) pa_nil)))) pss_never pss_nil)
        (pss_cons (ps_if (pt_val (pe_callB call_isi (by rfl) T.isi (by decide +kernel) (pa_cons (pv 0) (pa_cons (pe_bltn (v := .ty "dict") (by rfl) T.dict (by decide +kernel) rfl) pa_nil)))) pss_never pss_nil)
        (pss_one (ps_ret (pv 0))))), ?_⟩
      refine ⟨_, rfl, by decide, fun p np => ?_⟩
      have s1 : Same H (upd H p (.tup [.ty "list", .ty "tuple"])) := same_upd np
      refine ⟨_, p, _, _, _, _, rfl, upd_same, .cons (.ty _) (.cons (.ty _) .nil), tyX_dp (dp_same s1 hd), kitListed d (dp_nodict hd), _, rfl, ?_⟩
      have hd1 := dp_same s1 hd
      have ty := tyX_dp hd1
      cases hd with
      | non => exact iteF ⟨_, rfl, _, _, _, _, false, rfl, .ty _, ty, k_NoneType_dict, _, rfl, iteF ⟨_, rfl, hq _ _ s1 hd1⟩⟩
      | bl b => exact iteF ⟨_, rfl, _, _, _, _, false, rfl, .ty _, ty, k_bool_dict, _, rfl, iteF ⟨_, rfl, hq _ _ s1 hd1⟩⟩
      | int b => exact iteF ⟨_, rfl, _, _, _, _, false, rfl, .ty _, ty, k_int_dict, _, rfl, iteF ⟨_, rfl, hq _ _ s1 hd1⟩⟩
      | str b => exact iteF ⟨_, rfl, _, _, _, _, false, rfl, .ty _, ty, k_str_dict, _, rfl, iteF ⟨_, rfl, hq _ _ s1 hd1⟩⟩
      | lst _ _ => exact hf.elim
      | tup _ _ => exact hf.elim
  | n + 1 => by
    have G := ok_fixed F T bf gm n
    refine F.ok scFixed (fun vs H Q E h => ?_) (fun cdv A outer s H vs Q E hr h => ?_)
    · obtain ⟨v, d, rfl, _⟩ := h
      rfl
    · obtain ⟨v, d, rfl, hd, hf, hq⟩ := h
      -- [fixed(part) for part in value] of a list, of a tuple
      have step : ∀ ds, (∀ d ∈ ds, fits n d) → ∀ σ : L2.St, σ.length = 2 → ∀ H1, LcStep K ds (gName 1) tYes (tCall (spFixed K n) [] E0 (tCons (tVar 1) tNil)) [1] σ H1 (fun _ => true) tupD := by
        intro ds hds σ hσ H1 x d H2 s2 hx hm R S hR hS
        refine ⟨wipe_one σ 1 _, ?_⟩
        dsimp only [tYes]
        rw [if_pos rfl]
        refine ⟨x, ?_, x, d, rfl, hx, hds d hm, fun H' v' s3 h3 => hR _ _ s3 rfl h3⟩
        rw [List.getElem?_set_self]
        rw [wipe_length, hσ]
        decide
      have src : (∃ a xs ds, v = .ref a ∧ SqL K H a xs ∧ DpAll K H xs ds ∧ d = .list ds) ∨ (∃ a xs ds, v = .ref a ∧ SqT K H a xs ∧ DpAll K H xs ds ∧ d = .tuple ds) ∨ (isSeq d = false) := by
        cases hd with
        | lst s a => exact .inl ⟨_, _, _, rfl, s, a, rfl⟩
        | tup s a => exact .inr (.inl ⟨_, _, _, rfl, s, a, rfl⟩)
        | _ => exact .inr (.inr rfl)
      rcases src with ⟨a, xs, ds, rfl, hs, ha, rfl⟩ | ⟨a, xs, ds, rfl, hs, ha, rfl⟩ | hn
      · refine ⟨_, PSs.nox (pss_cons (ps_if (pt_val (pe_callB call_isiT (by rfl) T.isi (by decide +kernel) (pa_cons (pv 0) (pa_cons (pe_tup (pa_cons (pe_bltn (v := .ty "list") (by rfl) T.list (by decide +kernel) rfl)
            (pa_cons (pe_bltn (v := .ty "tuple") (by rfl) T.tuple (by decide +kernel) rfl) pa_nil))) pa_nil))))
            (pss_one (ps_ret (pe_callTy call_tuple_of (by rfl) T.tuple (by decide +kernel) (pa_cons (pe_lc (own := [("part", 1)]) (g := gName 1) (tt := tYes) rfl scFixed.nd (pi_list (pv 0)) (blkOk_by (N := ["value", "part"]) (sc := defScope sFixed) (by decide +kernel))
              (fun _ _ _ _ _ => pg_name (i := 1) scFixed.nd rfl (Or.inl rfl)) (fun _ _ _ _ _ => pts_nil) (fun _ _ _ _ _ => pe_call G hr (by rfl) gm F.kp bf .nil pass0 (pa_cons (pv 1) pa_nil))) pa_nil)))) pss_nil)
          pss_never), ?_⟩
        refine ⟨_, rfl, by decide, fun p np => ?_⟩
        have s1 : Same H (upd H p (.tup [.ty "list", .ty "tuple"])) := same_upd np
        refine ⟨_, p, _, _, _, _, rfl, upd_same, .cons (.ty _) (.cons (.ty _) .nil), tyX_dp (dp_same s1 hd), kitListed _ (dp_nodict hd), true, rfl, iteT ?_⟩
        refine ⟨_, rfl, a, rfl, ⟨_, s1.seq hs⟩, fun D nD => ?_⟩
        refine lc_dpL (keep := fun _ => true) (F := tupD) hf.1 (s1.seq hs) nD (dpAll_same s1 ha) (fun d hd _ => tupOnly_tupD n d (hf.2 d hd)) (step ds hf.2 _ rfl _) (fun H2 ys s2 eD hys => ?_)
        refine ⟨D, ys, rfl, .inl ⟨.inl (.inl eD), fun l nl => ?_⟩⟩
        have s3 : Same H2 (upd H2 l (.tup ys)) := same_upd nl
        refine hq _ _ ((s1.trans s2).trans s3) ?_
        rw [tupD, tupDs_map]
        rw [filter_tt] at hys
        exact .tup (.inl (.inl upd_same)) (dpAll_same s3 hys)
      · refine ⟨_, PSs.nox (pss_cons (ps_if (pt_val (pe_callB call_isiT (by rfl) T.isi (by decide +kernel) (pa_cons (pv 0) (pa_cons (pe_tup (pa_cons (pe_bltn (v := .ty "list") (by rfl) T.list (by decide +kernel) rfl)
            (pa_cons (pe_bltn (v := .ty "tuple") (by rfl) T.tuple (by decide +kernel) rfl) pa_nil))) pa_nil))))
            (pss_one (ps_ret (pe_callTy call_tuple_of (by rfl) T.tuple (by decide +kernel) (pa_cons (pe_lc (own := [("part", 1)]) (g := gName 1) (tt := tYes) rfl scFixed.nd (pi_tup (pv 0)) (blkOk_by (N := ["value", "part"]) (sc := defScope sFixed) (by decide +kernel))
              (fun _ _ _ _ _ => pg_name (i := 1) scFixed.nd rfl (Or.inl rfl)) (fun _ _ _ _ _ => pts_nil) (fun _ _ _ _ _ => pe_call G hr (by rfl) gm F.kp bf .nil pass0 (pa_cons (pv 1) pa_nil))) pa_nil)))) pss_nil)
          pss_never), ?_⟩
        refine ⟨_, rfl, by decide, fun p np => ?_⟩
        have s1 : Same H (upd H p (.tup [.ty "list", .ty "tuple"])) := same_upd np
        refine ⟨_, p, _, _, _, _, rfl, upd_same, .cons (.ty _) (.cons (.ty _) .nil), tyX_dp (dp_same s1 hd), kitListed _ (dp_nodict hd), true, rfl, iteT ?_⟩
        refine ⟨_, rfl, a, rfl, ⟨_, sqT_same s1 hs⟩, fun D nD => ?_⟩
        refine lc_dpT (keep := fun _ => true) (F := tupD) hf.1 (sqT_same s1 hs) nD (dpAll_same s1 ha) (fun d hd _ => tupOnly_tupD n d (hf.2 d hd)) (step ds hf.2 _ rfl _) (fun H2 ys s2 eD hys => ?_)
        refine ⟨D, ys, rfl, .inl ⟨.inl (.inl eD), fun l nl => ?_⟩⟩
        have s3 : Same H2 (upd H2 l (.tup ys)) := same_upd nl
        refine hq _ _ ((s1.trans s2).trans s3) ?_
        rw [tupD, tupDs_map]
        rw [filter_tt] at hys
        exact .tup (.inl (.inl upd_same)) (dpAll_same s3 hys)
      · refine ⟨_, PSs.nox (pss_cons (ps_if (pt_val (pe_callB call_isiT (by rfl) T.isi (by decide +kernel) (pa_cons (pv 0) (pa_cons (pe_tup (pa_cons (pe_bltn (v := .ty "list") (by rfl) T.list (by decide +kernel) rfl)
          (pa_cons (pe_bltn (v := .ty "tuple") (by rfl) T.tuple (by decide +kernel) rfl) pa_nil))) pa_nil)))) pss_never pss_nil)
          (pss_cons (ps_if (pt_val (pe_callB call_isi (by rfl) T.isi (by decide +kernel) (pa_cons (pv 0) (pa_cons (pe_bltn (v := .ty "dict") (by rfl) T.dict (by decide +kernel) rfl) pa_nil)))) pss_never pss_nil)
          (pss_one (ps_ret (pv 0))))), ?_⟩
        refine ⟨_, rfl, by decide, fun p np => ?_⟩
        have s1 : Same H (upd H p (.tup [.ty "list", .ty "tuple"])) := same_upd np
        refine ⟨_, p, _, _, _, _, rfl, upd_same, .cons (.ty _) (.cons (.ty _) .nil), tyX_dp (dp_same s1 hd), kitListed _ (dp_nodict hd), _, rfl, ?_⟩
        have hd1 := dp_same s1 hd
        have ty := tyX_dp hd1
        cases hd with
        | non => exact iteF ⟨_, rfl, _, _, _, _, false, rfl, .ty _, ty, k_NoneType_dict, _, rfl, iteF ⟨_, rfl, hq _ _ s1 hd1⟩⟩
        | bl b => exact iteF ⟨_, rfl, _, _, _, _, false, rfl, .ty _, ty, k_bool_dict, _, rfl, iteF ⟨_, rfl, hq _ _ s1 hd1⟩⟩
        | int b => exact iteF ⟨_, rfl, _, _, _, _, false, rfl, .ty _, ty, k_int_dict, _, rfl, iteF ⟨_, rfl, hq _ _ s1 hd1⟩⟩
        | str b => exact iteF ⟨_, rfl, _, _, _, _, false, rfl, .ty _, ty, k_str_dict, _, rfl, iteF ⟨_, rfl, hq _ _ s1 hd1⟩⟩
        | lst _ _ => cases hn
        | tup _ _ => cases hn
end
end K23
namespace K23
open PySem PySem.Spec PyProof.Rows L2 RZ
section
variable {K : PySem.W.Frag} {es : List PyData} {g : TG} {tt : TT} {te : TE} {vs : List Nat} {σ : L2.St} {H1 : Hp} {D : Addr} {Qd : Hp → Prop}
/-- a comprehension over whatever yields data, only making objects -/
theorem lc_data {J : It} {n : Nat} {G : Hp → Prop} {Y : Nat → Hp → V → Hp → Prop} (wk : Walk J n G Y) {keep : PyData → Bool} {F : PyData → PyData} (hn : n = es.length) (hlen : es.length ≤ 1000000) (nD : H1 D = none)
    (hG : ∀ H, Same H1 H → G H) (hY : ∀ i H x H', i < n → Same H1 H → Y i H x H' → Same H H' ∧ ∃ e, es[i]? = some e ∧ Dp K H' x e)
    (hF : ∀ d ∈ es, keep d = true → tupOnly (F d) = true) (step : LcStep K es g tt te vs σ H1 keep F)
    (hd : ∀ H ys, Same H1 H → H D = some (.lst ys) → DpAll K H ys ((es.filter keep).map F) → Qd H) :
    ∃ W : Nat → Nat → Hp → Prop, (∃ m, W 0 m (upd H1 D (.lst []))) ∧ ∀ i m H, W i m H →
      (J.stop i H ∧ Qd H) ∨ (J.go i H ∧ ∃ Nx : Hp → Prop, (∀ H', Nx H' → ∃ m', m' < m ∧ W (i + 1) m' H') ∧ ∀ x H', J.yld i H x H' → g x (wipe σ vs) H' fun σ2 H2 => wipe σ2 vs = wipe σ vs ∧ tt σ2 H2 fun b H3 =>
        if b = true then te σ2 H3 fun y H4 => ∃ acc, H4 D = some (.lst acc) ∧ acc.length < sizeLine ∧ Nx (upd H4 D (.lst (acc ++ [y]))) else Nx H3) := by
  refine lc_it wk (LcP K es H1 D keep F) ⟨same_upd nD, [], upd_same, .nil⟩ (fun i H hi p => hG H p.1) (fun i x H H' hi p y => ?_) (fun H p => ?_)
  · obtain ⟨s2, d, hd', hx⟩ := hY i H x H' hi p.1 y
    obtain ⟨s1, ys, eD, hys⟩ := p
    refine step x d H' (s1.trans s2) hx (List.mem_of_getElem? hd') _ _ (fun y H3 s3 hk hy => ⟨ys, s3 _ _ (s2 _ _ eD), ?_, ?_⟩) (fun H3 s3 hk => ?_)
    · rw [dpAll_len hys, List.length_map]
      have h1 := List.length_filter_le keep (es.take i)
      have h2 : (es.take i).length ≤ es.length := List.length_take_le' _ _
      rw [sizeLine_eq]
      omega
    · have sU : Same H1 (upd H3 D (.lst (ys ++ [y]))) := fun b o e => by
        have hb : b ≠ D := ne_of_none e nD
        rw [upd_ne hb]
        exact s3 _ _ (s2 _ _ (s1 _ _ e))
      refine ⟨sU, _, upd_same, ?_⟩
      rw [filter_take_succ keep hd', if_pos hk, List.map_append]
      refine dpAll_updL (s3 _ _ (s2 _ _ eD)) (tupAll_of fun z hz => ?_) (dpAll_snoc (dpAll_same (s2.trans s3) hys) hy)
      rcases List.mem_append.mp hz with hz | hz
      · obtain ⟨z0, h0, rfl⟩ := List.mem_map.mp hz
        obtain ⟨h1, h2⟩ := List.mem_filter.mp h0
        exact hF _ (List.mem_of_mem_take h1) h2
      · rw [List.map_singleton, List.mem_singleton] at hz
        rw [hz]
        exact hF _ (List.mem_of_getElem? hd') hk
    · refine ⟨(s1.trans s2).trans s3, ys, s3 _ _ (s2 _ _ eD), ?_⟩
      rw [filter_take_succ keep hd', hk]
      simp only [Bool.false_eq_true, if_false, List.append_nil]
      exact dpAll_same (s2.trans s3) hys
  · obtain ⟨s1, ys, e, h⟩ := p
    rw [hn, List.take_length] at h
    exact hd H ys s1 e h
end
theorem walk_zipT {K : PySem.W.Frag} {a b : Addr} {xs ys : List V} {n : Nat} (hn : n = min xs.length ys.length) : Walk (ItzT K a b) n (fun H => SqT K H a xs ∧ SqT K H b ys) (YPair (fun i => xs[i]?) (fun i => ys[i]?)) := by
  subst hn
  refine ⟨fun i H hi q => ?_, fun H q => ?_, fun i H x H' hi q y => ?_⟩
  · have h1 : i < xs.length := by omega
    have h2 : i < ys.length := by omega
    exact ⟨xs, ys, xs[i], ys[i], q.1, q.2, List.getElem?_eq_getElem h1, List.getElem?_eq_getElem h2⟩
  · refine ⟨xs, ys, q.1, q.2, ?_⟩
    omega
  · obtain ⟨T, x', y', e, hT, e', f1, f2⟩ := y
    exact ⟨T, x', y', e, hT, e', f1 xs q.1, f2 ys q.2⟩
theorem dpAll_at {K : PySem.W.Frag} {H : Hp} : ∀ {ds : List PyData} {vs : List V} {i : Nat} {v : V}, DpAll K H vs ds → vs[i]? = some v → ∃ d, ds[i]? = some d ∧ Dp K H v d :=
  fun h e => dpAll_get h e
/-! ### are_like -/
def isBoolD : PyData → Bool
  | .bool _ => true
  | _ => false
def leafD : PyData → Bool
  | .none => true
  | .bool _ => true
  | .int _ => true
  | .str _ => true
  | _ => false
def leafLike (d e : PyData) : Bool := if isBoolD d = isBoolD e then PyData.eqv d e else false
mutual
def likeD : PyData → PyData → Bool
  | .tuple xs, .tuple ys => likeDs xs ys
  | d, e => leafLike d e
def likeDs : List PyData → List PyData → Bool
  | [], [] => true
  | x :: xs, y :: ys => likeD x y && likeDs xs ys
  | _, _ => false
end
theorem likeDs_zip : ∀ xs ys : List PyData, likeDs xs ys = (decide (xs.length = ys.length) && ((xs.zip ys).map fun p => likeD p.1 p.2).all id)
  | [], [] => by simp [likeDs]
  | [], y :: ys => by simp [likeDs]
  | x :: xs, [] => by simp [likeDs]
  | x :: xs, y :: ys => by
    rw [likeDs, likeDs_zip xs ys]
    simp only [List.length_cons, List.zip_cons_cons, List.map_cons, List.all_cons, id, Nat.add_right_cancel_iff]
    cases likeD x y <;> cases decide (xs.length = ys.length) <;> rfl
theorem likeD_leaf {d e : PyData} (hd : leafD d = true) : likeD d e = leafLike d e := by
  cases d <;> first | (cases hd; done) | (simp [likeD])
/-- data of one shape: leaves, or tuples of at most a million items -/
def pairT : Nat → PyData → PyData → Prop
  | n + 1, .tuple xs, .tuple ys => xs.length ≤ 1000000 ∧ ys.length ≤ 1000000 ∧ ∀ p ∈ xs.zip ys, pairT n p.1 p.2
  | _, d, e => leafD d = true ∧ leafD e = true ∧ SeqAt.shaped d = true ∧ SeqAt.shaped e = true
theorem pairT_cases {n : Nat} {d e : PyData} (h : pairT n d e) : (∃ m xs ys, n = m + 1 ∧ d = .tuple xs ∧ e = .tuple ys ∧ xs.length ≤ 1000000 ∧ ys.length ≤ 1000000 ∧ ∀ p ∈ xs.zip ys, pairT m p.1 p.2) ∨ (leafD d = true ∧ leafD e = true ∧ SeqAt.shaped d = true ∧ SeqAt.shaped e = true) := by
  cases n with
  | zero => exact .inr (by simpa [pairT] using h)
  | succ m =>
    cases d with
    | tuple xs =>
      cases e with
      | tuple ys => exact .inl ⟨m, xs, ys, rfl, rfl, rfl, by simpa [pairT] using h⟩
      | _ => exact .inr (by simpa [pairT] using h)
    | _ => exact .inr (by simpa [pairT] using h)
theorem zip_get {α β : Type} {xs : List α} {ys : List β} {i : Nat} {x : α} {y : β} (h1 : xs[i]? = some x) (h2 : ys[i]? = some y) : (xs.zip ys)[i]? = some (x, y) := by
  rw [List.getElem?_zip_eq_some]
  exact ⟨h1, h2⟩
section
variable {P : Program} {w : World} {K : PySem.W.Frag} {mg : Str → Option Value} {base : Heap} {f g : Addr} {fd gd : FuncData}
def spLike (K : PySem.W.Frag) (n : Nat) : Sp := fun vs H Q _ => ∃ v u d e, vs = [v, u] ∧ Dp K H v d ∧ Dp K H u e ∧ pairT n d e ∧ ∀ H', Same H H' → Q (.bl (likeD d e)) H'
theorem kT {K : PySem.W.Frag} (d : PyData) (hd : ∀ kvs, d ≠ .dict kvs) (hl : leafD d = true) : PySem.W.kitOne K (.type (tyD d)) (.type "tuple") = some false ∧ PySem.W.kitOne K (.type (tyD d)) (.type "dict") = some false ∧ PySem.W.kitOne K (.type (tyD d)) (.type "bool") = some (isBoolD d) := by
  cases d with
  | none => exact ⟨k_NoneType_tuple, k_NoneType_dict, k_NoneType_bool⟩
  | bool b => exact ⟨k_bool_tuple, k_bool_dict, k_bool_bool⟩
  | int b => exact ⟨k_int_tuple, k_int_dict, k_int_bool⟩
  | str b => exact ⟨k_str_tuple, k_str_dict, k_str_bool⟩
  | _ => cases hl
end
end K23
namespace K23
open PySem PySem.Spec PyProof.Rows L2 RZ
section
variable {P : Program} {w : World} {K : PySem.W.Frag} {mg : Str → Option Value} {base : Heap} {f g : Addr} {fd gd : FuncData}
theorem ok_leaf (F : FnP K "are_like" sAreLike f fd) (T : Bl mg) (k : Nat) : FnOk P w K mg base CX0 (k + 1) f fd ["one", "other"]
    (fun vs H Q _ => ∃ v u d e, vs = [v, u] ∧ Dp K H v d ∧ Dp K H u e ∧ leafD d = true ∧ leafD e = true ∧ SeqAt.shaped d = true ∧ SeqAt.shaped e = true ∧ Q (.bl (leafLike d e)) H) := by
  refine F.ok scAreLike (fun vs H Q E h => ?_) (fun cdv A outer s H vs Q E hr h => ?_)
  · obtain ⟨v, u, d, e, rfl, _⟩ := h
    rfl
  · obtain ⟨v, u, d, e, rfl, hd, he, ld, le, sd, se, hq⟩ := h
    have ty1 := tyX_dp hd
    have ty2 := tyX_dp he
    obtain ⟨a1, a2, a3⟩ := kT (K := K) d (dp_nodict hd) ld
    obtain ⟨b1, b2, b3⟩ := kT (K := K) e (dp_nodict he) le
    refine ⟨_, PSs.nox (pss_cons (ps_if (PW.pt (pw_and (pt_val (pe_callB call_isi (by rfl) T.isi (by decide +kernel) (pa_cons (pv 0) (pa_cons (pe_bltn (v := .ty "tuple") (by rfl) T.tuple (by decide +kernel) rfl) pa_nil)))) (pw_and1 (pt_val (pe_callB call_isi (by rfl) T.isi (by decide +kernel) (pa_cons (pv 1) (pa_cons (pe_bltn (v := .ty "tuple") (by rfl) T.tuple (by decide +kernel) rfl) pa_nil))))))) pss_never pss_nil)
      (pss_cons (ps_if (PW.pt (pw_and (pt_val (pe_callB call_isi (by rfl) T.isi (by decide +kernel) (pa_cons (pv 0) (pa_cons (pe_bltn (v := .ty "dict") (by rfl) T.dict (by decide +kernel) rfl) pa_nil)))) (pw_and1 (pt_val (pe_callB call_isi (by rfl) T.isi (by decide +kernel) (pa_cons (pv 1) (pa_cons (pe_bltn (v := .ty "dict") (by rfl) T.dict (by decide +kernel) rfl) pa_nil))))))) pss_never pss_nil)
      (pss_cons (ps_if (pt_cmpR op_ne (pe_callB call_isi (by rfl) T.isi (by decide +kernel) (pa_cons (pv 0) (pa_cons (pe_bltn (v := .ty "bool") (by rfl) T.bool (by decide +kernel) rfl) pa_nil))) (pe_callB call_isi (by rfl) T.isi (by decide +kernel) (pa_cons (pv 1) (pa_cons (pe_bltn (v := .ty "bool") (by rfl) T.bool (by decide +kernel) rfl) pa_nil))) (nomark _)) (pss_one (ps_ret pe_bl)) pss_nil)
      (pss_one (ps_ret (pe_callTy call_bool1 (by rfl) T.bool (by decide +kernel) (pa_cons (pe_cmpR (op_eqD hr.units) (pv 0) (pv 1) (nomark _)) pa_nil))))))), ?_⟩
    refine ⟨_, rfl, _, _, _, _, _, rfl, .ty _, ty1, a1, _, rfl, iteF (iteF ?_)⟩
    refine ⟨_, rfl, _, _, _, _, _, rfl, .ty _, ty1, a2, _, rfl, iteF (iteF ?_)⟩
    refine ⟨_, rfl, _, _, _, _, _, rfl, .ty _, ty1, a3, _, rfl, _, _, _, _, _, rfl, .ty _, ty2, b3, rfl, _, rfl, ?_⟩
    unfold leafLike at hq
    by_cases hb : isBoolD d = isBoolD e
    · rw [if_pos hb] at hq
      rw [hb]
      simp only [decide_true, Bool.not_true]
      refine iteF ⟨_, rfl, _, rfl, _, _, hd, he, sd, se, .inr ⟨_, rfl, hq⟩⟩
    · rw [if_neg hb] at hq
      have : (!decide (V.bl (isBoolD d) = V.bl (isBoolD e))) = true := by simp [hb]
      rw [this]
      exact iteT hq
theorem dpAll_zip {H : Hp} {xs ys : List V} {ds es : List PyData} {i : Nat} {x y : V} (h1 : DpAll K H xs ds) (h2 : DpAll K H ys es) (e1 : xs[i]? = some x) (e2 : ys[i]? = some y) : ∃ d e, (ds.zip es)[i]? = some (d, e) ∧ Dp K H x d ∧ Dp K H y e := by
  obtain ⟨d, hd, pd⟩ := dpAll_get h1 e1
  obtain ⟨e, he, pe⟩ := dpAll_get h2 e2
  exact ⟨d, e, zip_get hd he, pd, pe⟩
def pairF : PyData → PyData
  | .tuple [d, e] => .bool (likeD d e)
  | d => d
theorem bools_of {H : Hp} : ∀ {bs : List Bool} {ys : List V}, DpAll K H ys (bs.map PyData.bool) → ys = bs.map V.bl
  | [], _, h => by cases h; rfl
  | b :: bs, _, h => by
    cases h with
    | cons h1 h2 =>
      cases h1
      rw [List.map_cons, bools_of h2]
theorem FnOk_or {CX : CXT} {k : Nat} {ps : List Str} {sp sp' : Sp} (F : FnOk P w K mg base CX k f fd ps sp) (G : FnOk P w K mg base CX k f fd ps sp') : FnOk P w K mg base CX k f fd ps (fun vs H Q E => sp vs H Q E ∨ sp' vs H Q E) :=
  ⟨fun vs H Q E q => q.elim (F.len _ _ _ _) (G.len _ _ _ _), fun A outer s H args us vs Q E hr he hb hv hs => hs.elim (F.run A outer s H args us vs Q E hr he hb hv) (G.run A outer s H args us vs Q E hr he hb hv)⟩
theorem wipe_two (σ : L2.St) (i j : Nat) (x y : Option V) : wipe ((((wipe σ [i, j]).set i x)).set j y) [i, j] = wipe σ [i, j] := by
  apply List.ext_getElem?
  intro k
  simp only [wipe, List.foldl_cons, List.foldl_nil, List.getElem?_set]
  grind
theorem ok_tupl (F : FnP K "are_like" sAreLike f fd) (T : Bl mg) (bf : Binds K fd ["one", "other"] []) (gm : mg "are_like" = some (.ref f)) (n k : Nat) (G : FnOk P w K mg base CX0 k f fd ["one", "other"] (spLike K n)) : FnOk P w K mg base CX0 (k + 1) f fd ["one", "other"]
    (fun vs H Q _ => ∃ v u xs ys, vs = [v, u] ∧ Dp K H v (.tuple xs) ∧ Dp K H u (.tuple ys) ∧ xs.length ≤ 1000000 ∧ ys.length ≤ 1000000 ∧ (∀ p ∈ xs.zip ys, pairT n p.1 p.2) ∧ ∀ H', Same H H' → Q (.bl (likeDs xs ys)) H') := by
  refine F.ok scAreLike (fun vs H Q E h => ?_) (fun cdv A outer s H vs Q E hr h => ?_)
  · obtain ⟨v, u, d, e, rfl, _⟩ := h
    rfl
  · obtain ⟨v, u, ds, es, rfl, hd, he, l1, l2, hp, hq⟩ := h
    have ty1 := tyX_dp hd
    have ty2 := tyX_dp he
    refine ⟨_, PSs.nox (pss_cons (ps_if (PW.pt (pw_and (pt_val (pe_callB call_isi (by rfl) T.isi (by decide +kernel) (pa_cons (pv 0) (pa_cons (pe_bltn (v := .ty "tuple") (by rfl) T.tuple (by decide +kernel) rfl) pa_nil)))) (pw_and1 (pt_val (pe_callB call_isi (by rfl) T.isi (by decide +kernel) (pa_cons (pv 1) (pa_cons (pe_bltn (v := .ty "tuple") (by rfl) T.tuple (by decide +kernel) rfl) pa_nil)))))))
      (pss_one (ps_ret (pe_and (pe_cmpR op_eq (pe_callB call_len_seq (by rfl) T.len PySem.boot_len (pa_cons (pv 0) pa_nil)) (pe_callB call_len_seq (by rfl) T.len PySem.boot_len (pa_cons (pv 1) pa_nil)) (nomark _))
        (pe_one (pe_callB (cr_all rfl) (by rfl) T.all (by decide +kernel) (pa_cons (pe_lc (own := [("here", 3), ("there", 4)]) (g := gTup K 2 (gCons (gName 3) (gCons (gName 4) gNil))) (tt := tYes) rfl scAreLike.nd
          (pi_zipA (by rfl) T.zip (pa_cons (pv 0) (pa_cons (pv 1) pa_nil))) (blkOk_by (N := ["one", "other", "keys", "here", "there"]) (sc := defScope sAreLike) (by decide +kernel))
          (fun _ _ _ _ _ => pg_tup rfl (pgs_cons (pg_name (i := 3) scAreLike.nd rfl (Or.inl rfl)) (pgs_cons (pg_name (i := 4) scAreLike.nd rfl (Or.inl rfl)) pgs_nil))) (fun _ _ _ _ _ => pts_nil)
          (fun _ _ _ _ _ => pe_call G hr (by rfl) gm F.kp bf .nil pass0 (pa_cons (pv 3) (pa_cons (pv 4) pa_nil)))) pa_nil)))))) pss_nil) pss_never), ?_⟩
    cases hd with
    | tup s1 a1 =>
    cases he with
    | tup s2 a2 =>
    rename_i a xs b ys
    refine ⟨_, rfl, _, _, _, _, _, rfl, .ty _, ty1, k_tuple_tuple, _, rfl, iteT ?_⟩
    refine ⟨_, rfl, _, _, _, _, _, rfl, .ty _, ty2, k_tuple_tuple, _, rfl, iteT ?_⟩
    refine ⟨_, rfl, _, _, rfl, .inr s1, _, rfl, _, _, rfl, .inr s2, rfl, _, rfl, ?_⟩
    have e1 := dpAll_len a1
    have e2 := dpAll_len a2
    rw [likeDs_zip] at hq
    by_cases hl : ds.length = es.length
    · rw [decide_eq_true hl, Bool.true_and] at hq
      have : decide (V.int (xs.length : Int) = V.int (ys.length : Int)) = true := by simp [e1, e2, hl]
      rw [this]
      refine iteT ?_
      refine ⟨_, rfl, _, rfl, a, b, xs, ys, rfl, .inr ⟨s1, s2, fun D nD => ?_⟩⟩
      refine lc_data (K := K) (es := (ds.zip es).map fun p => .tuple [p.1, p.2]) (n := min xs.length ys.length) (walk_zipT rfl) (keep := fun _ => true) (F := pairF) ?_ ?_ nD (fun H' s => ⟨sqT_same s s1, sqT_same s s2⟩) (fun i H x H' hi s y => ?_) (fun d hd _ => ?_) (fun x d H3 s3 hx hm R S hR hS => ?_) (fun H2 ys s4 eD hys => ?_)
      · rw [List.length_map, List.length_zip, e1, e2]
      · rw [List.length_map, List.length_zip]
        omega
      · obtain ⟨T', x', y', rfl, hT, rfl, f1, f2⟩ := y
        have sT : Same H (upd H T' (.tup [x', y'])) := same_upd hT
        obtain ⟨d, e, hz, hd1, he1⟩ := dpAll_zip a1 a2 f1 f2
        refine ⟨sT, .tuple [d, e], ?_, .tup (.inl (.inl upd_same)) (.cons (dp_same (s.trans sT) hd1) (.cons (dp_same (s.trans sT) he1) .nil))⟩
        rw [List.getElem?_map, hz]
        rfl
      · obtain ⟨p, hp', rfl⟩ := List.mem_map.mp hd
        rfl
      · obtain ⟨⟨d', e'⟩, hp', rfl⟩ := List.mem_map.mp hm
        cases hx with
        | tup sx ax =>
          rename_i ax' vs'
          cases ax with
          | cons h1 ax =>
            cases ax with
            | cons h2 ax =>
              cases ax
              refine ⟨_, _, rfl, sx, rfl, _, _, rfl, _, _, rfl, rfl, wipe_two _ 3 4 _ _, ?_⟩
              dsimp only [tYes]
              rw [if_pos rfl]
              refine ⟨_, rfl, _, rfl, _, _, _, _, rfl, h1, h2, hp _ hp', fun H' s5 => hR _ _ s5 rfl (.bl _)⟩
      · rw [filter_tt, List.map_map] at hys
        have hb := bools_of (bs := (ds.zip es).map fun p => likeD p.1 p.2) (ys := ys) (by rw [List.map_map]; exact hys)
        subst hb
        exact ⟨D, _, rfl, .inl (.inl eD), hq _ s4⟩
    · rw [decide_eq_false hl, Bool.false_and] at hq
      have : decide (V.int (xs.length : Int) = V.int (ys.length : Int)) = false := by simp [e1, e2]; omega
      rw [this]
      exact iteF (hq _ (Same.refl _))
theorem ok_like (F : FnP K "are_like" sAreLike f fd) (T : Bl mg) (bf : Binds K fd ["one", "other"] []) (gm : mg "are_like" = some (.ref f)) : ∀ n, FnOk P w K mg base CX0 (n + 1) f fd ["one", "other"] (spLike K n) := by
  intro n
  induction n with
  | zero =>
    refine (ok_leaf F T 0).imp fun vs H Q E h => ?_
    obtain ⟨v, u, d, e, rfl, hd, he, hp, hq⟩ := h
    rcases pairT_cases hp with ⟨m, _, _, e, _⟩ | ⟨l1, l2, s1, s2⟩
    · cases e
    · refine ⟨v, u, d, e, rfl, hd, he, l1, l2, s1, s2, ?_⟩
      rw [← likeD_leaf l1]
      exact hq _ (Same.refl _)
  | succ n G =>
    refine (FnOk_or (ok_leaf F T (n + 1)) (ok_tupl F T bf gm n (n + 1) G)).imp fun vs H Q E h => ?_
    obtain ⟨v, u, d, e, rfl, hd, he, hp, hq⟩ := h
    rcases pairT_cases hp with ⟨m, xs, ys, en, rfl, rfl, l1, l2, hz⟩ | ⟨l1, l2, s1, s2⟩
    · cases en
      refine .inr ⟨v, u, xs, ys, rfl, hd, he, l1, l2, hz, ?_⟩
      rw [likeD] at hq
      exact hq
    · refine .inl ⟨v, u, d, e, rfl, hd, he, l1, l2, s1, s2, ?_⟩
      rw [← likeD_leaf l1]
      exact hq _ (Same.refl _)
end
end K23
set_option maxHeartbeats 2000000
namespace KSup
open PySem PySem.Spec PyProof.Rows L2 PpSet
/-! ### a set comprehension of items of any one kind: how the empty set is told, how an item is added -/
def FrO (O0 : World → Addr → HO) : Prop := ∀ (P : Program) (w : World) (H : Hp) (h : Heap), ObjOk P w H (h.push { cls := .type "set", dict := none, data := .set #[] 0 (.fresh 0 0 (!w.params.followText "set-order")) }) h.objs.size (O0 w h.objs.size)
def AdO (Ad : World → Addr → V → Hp → Hp → Prop) : Prop := ∀ (X : Cx) {pins : List (Addr × Obj)} {σ : L2.St} {H H' : Hp} {s : Shared} {E : Value → Shared → Prop} {D : Addr} {y : V} {z : Value} {Q : Value → Shared → Prop}, Inv X pins σ H s → RelV y z → Ad X.w D y H H' →
  (∀ s', Inv X pins σ H' s' → Q .none s') → wpAny (model X.prog X.w) X.A (call (.builtin "set.add") [.ref D, z]) Q E s
section
variable {X : Cx} {O0 : World → Addr → HO} {Ad : World → Addr → V → Hp → Hp → Prop}
/-- {elt for target in iter if ..}: D the new set -/
def tScG (O0 : World → Addr → HO) (Ad : World → Addr → V → Hp → Hp → Prop) (w : World) (wi : TI) (g : TG) (tt : TT) (te : TE) (vs : List Nat) : TE := fun σ H Q => wi σ H fun J H1 => ∀ D, H1 D = none → ∃ W : Nat → Nat → Hp → Prop, (∃ m, W 0 m (upd H1 D (O0 w D))) ∧ ∀ i m H, W i m H →
  (J.stop i H ∧ Q (.ref D) H) ∨ (J.go i H ∧ ∃ Nx : Hp → Prop, (∀ H', Nx H' → ∃ m', m' < m ∧ W (i + 1) m' H') ∧ ∀ x H', J.yld i H x H' → g x (wipe σ vs) H' fun σ2 H2 => wipe σ2 vs = wipe σ vs ∧ tt σ2 H2 fun b H3 =>
    if b = true then te σ2 H3 fun y H4 => ∃ H5, Ad w D y H4 H5 ∧ Nx H5 else Nx H3)
theorem scg_core (fr : FrO O0) (ad : AdO Ad) {pins : List (Addr × Obj)} {s : Shared} {σ : L2.St} {H : Hp} {Q : VK} {elt tg iter : Expr} {ifs : List Expr} {scope : Scope} {own : List (PySem.Str × Nat)} {pos pos' : Pos} {wi : TI} {g : TG} {tt : TT} {te : TE} {use : Option (Value → Sem Unit)} {Qf : Value → Shared → Prop}
    (hc : X.calm = true) (hN : X.N.Nodup) (I : Inv X pins σ H s) (hi : PI X tg iter wi) (ok : BlkOk X.N X.env.scope scope own)
    (hg : ∀ (s : Shared) (H : Hp) (C : Addr) (cl : List (PySem.Str × Addr)) (fp : List Addr), PG (X.blk s H scope (compEnvC scope cl C X.env) fp) tg g) (ht : ∀ (s : Shared) (H : Hp) (C : Addr) (cl : List (PySem.Str × Addr)) (fp : List Addr), PTs (X.blk s H scope (compEnvC scope cl C X.env) fp) ifs tt)
    (he : ∀ (s : Shared) (H : Hp) (C : Addr) (cl : List (PySem.Str × Addr)) (fp : List Addr), PE (X.blk s H scope (compEnvC scope cl C X.env) fp) elt te) (hs : ∀ x, foldedSetIterable iter X.env x = pure x)
    (h : tScG O0 Ad X.w wi g tt te (own.map (·.2)) σ H Q)
    (hRR : ∀ D C s' m H', Inv X pins σ H' s' → Q (.ref D) H' → s'.heap.Ns C m → FpOk X pins H' C → compPost (model X.prog X.w) X.A X.xe use Qf (.ref D) C (.ok .next) s') :
    wpAny (model X.prog X.w) X.A (comprehension (.SetComp elt [⟨tg, iter, ifs, 0⟩] scope pos) scope X.env pos' (newSet (.type "set")) false (eval iter X.env) use) Qf X.xe s := by
  have hfree : ∀ y ∈ scope.names, y.2 = .free → ∃ c, X.env.cells.lookup y.1 = some c := fun y hy e => by
    rcases ok.free y hy e with k | k
    · exact I.ok.has _ (.inl k)
    · exact I.ok.has _ (.inr k)
  refine wpAny_comprehension_free (use := use) rfl hs (closure_ok hfree) ok.kind (fun y hy e => by rw [ok.uniq y hy, e])
    (thn (hi.run pins s σ H _ I h) fun xv s1 hx => thn hx fun itv s2 h2 => ?_)
  obtain ⟨it, fp, tn, J, H2, e, I2, T, st2, f2, q⟩ := h2
  subst e
  refine PpSet.newSet_ok (newEnv_comp ?_)
  generalize hD : s2.heap.objs.size = D
  have hDn : H2 D = none := I2.hok.fresh (Nat.le_of_eq hD)
  obtain ⟨W, ⟨m0, w0⟩, turn⟩ := q D hDn
  -- the new list
  generalize hs3 : ({ s2 with heap := s2.heap.push { cls := .type "set", dict := none, data := .set #[] 0 (.fresh 0 0 (!X.w.params.followText "set-order")) } } : Shared) = s3
  have I3 : Inv X pins σ (upd H2 D (O0 X.w D)) s3 := by
    rw [← hs3]
    refine I2.laid (t' := s2.toks) (fun b o e => Heap.get?_push_of_some _ e) (Nat.le_of_eq hD) ?_
    rw [← hD]
    exact fr _ _ _ _
  have h3 : s3.heap = s2.heap.push { cls := .type "set", dict := none, data := .set #[] 0 (.fresh 0 0 (!X.w.params.followText "set-order")) } := by rw [← hs3]
  have sz : ∀ b ∈ fp, b < s2.heap.objs.size := fun b hb => by
    obtain ⟨o, e, _⟩ := T.obj _ _ st2 b hb
    exact Heap.lt_size e
  have f3 : ∀ b ∈ fp, FpOk X pins (upd H2 D (O0 X.w D)) b ∧ b < s3.heap.objs.size := fun b hb => by
    have hlt := sz b hb
    refine ⟨⟨?_, (f2 b hb).2⟩, by rw [h3, Heap.size_push]; exact Nat.lt_succ_of_lt hlt⟩
    rw [upd_ne (by rw [← hD]; exact Nat.ne_of_lt hlt)]
    exact (f2 b hb).1
  have st3 : tn 0 s3.heap := T.keep _ _ _ st2 fun b _ o e => by rw [h3]; exact Heap.get?_push_of_some _ e
  have I4 := block_start I3 ok hN f3
  have pg := hg s3 (upd H2 D (O0 X.w D)) s3.heap.objs.size (cellsFrom (s3.heap.objs.size + 1) scope.names (cloFrom X.env.cells scope.names [])) fp
  have pt := ht s3 (upd H2 D (O0 X.w D)) s3.heap.objs.size (cellsFrom (s3.heap.objs.size + 1) scope.names (cloFrom X.env.cells scope.names [])) fp
  have pe := he s3 (upd H2 D (O0 X.w D)) s3.heap.objs.size (cellsFrom (s3.heap.objs.size + 1) scope.names (cloFrom X.env.cells scope.names [])) fp
  show codeAny _ _ (.compStart (.SetComp elt [⟨tg, iter, ifs, 0⟩] scope pos) 0 (.ref it) (.ref D) (compEnvC scope (cellsFrom (s3.heap.objs.size + 1) scope.names (cloFrom X.env.cells scope.names [])) s3.heap.objs.size X.env)) (compPost (model X.prog X.w) X.A X.xe use Qf (.ref D) s3.heap.objs.size) { s3 with heap := pushCells (s3.heap.push { cls := .type "dict", data := .dict #[] }) scope.names }
  have nfp : ∀ b ∈ fp, (upd H2 D (O0 X.w D)) b = none := fun b hb => (f3 b hb).1.1
  generalize hce : compEnvC scope (cellsFrom (s3.heap.objs.size + 1) scope.names (cloFrom X.env.cells scope.names [])) s3.heap.objs.size X.env = ce at I4 pg pt pe ⊢
  have cL : ce.locals = s3.heap.objs.size := by subst hce; rfl
  generalize hH3 : upd H2 D (O0 X.w D) = H3 at I3 I4 pg pt pe w0 nfp f3
  generalize hs4 : ({ s3 with heap := pushCells (s3.heap.push { cls := .type "dict", data := .dict #[] }) scope.names } : Shared) = s4 at I4 ⊢
  have st4 : tn 0 s4.heap := T.keep _ _ _ st3 fun b _ o e => by rw [← hs4]; exact pushCells_keeps _ _ _ _ (Heap.get?_push_of_some _ e)
  have stat : ∀ {σ' : L2.St} {H' : Hp} {s' : Shared}, Inv (X.blk s3 H3 scope ce fp) [] σ' H' s' → (∀ b ∈ fp, H' b = none) → ∀ b ∈ fp, FpOk (X.blk s3 H3 scope ce fp) [] H' b := fun {σ' H' s'} I' hn b hb =>
    ⟨hn b hb, (I'.ok.exf b hb).1, I'.ok.exfs b hb, .inl hb, fun x c e => (I'.ok.exf b hb).2 x c e, fun p hp => absurd (show p ∈ ([] : List (Addr × Obj)) ++ [] from hp) (by simp)⟩
  have loop : codeAny (model X.prog X.w) X.A (.compLoop (.SetComp elt [⟨tg, iter, ifs, 0⟩] scope pos) 0 (.ref it) (.ref D) ce) (compPost (model X.prog X.w) X.A X.xe use Qf (.ref D) s3.heap.objs.size) s4 := by
    refine PpSet.compLoopS_any (fun n s' => ∃ i H', Inv (X.blk s3 H3 scope ce fp) [] (wipe σ (own.map (·.2))) H' s' ∧ tn i s'.heap ∧ (∀ b ∈ fp, H' b = none) ∧ W i n H') ?_ m0 ⟨0, H3, I4, st4, nfp, w0⟩
    rintro n s5 ⟨i, H5, I5, st5, n5, w5⟩
    rcases turn i n H5 w5 with ⟨stop, qq⟩ | ⟨go, Nx, hNx, step⟩
    · have td := T.done (X.blk s3 H3 scope ce fp) rfl rfl rfl hc i [] s5 _ H5 (fun _ _ => False) I5 (stat I5 n5) st5 stop
      refine thnF td fun r s6 ⟨hr, I6⟩ => ?_
      subst hr
      -- back in the def's context
      have I7 : Inv X pins σ H5 s6 := I3.call' (ch := fp) I6.os I6.base I6.hok I6.bare fun b hb => ⟨(f3 b hb).1.2.2.2.1, (f3 b hb).1.2.1, (f3 b hb).1.2.2.2.2.1, (f3 b hb).1.2.2.2.2.2⟩
      have nC : H5 s3.heap.objs.size = none := by
        have z : H5 ce.locals = none := I6.free
        rw [cL] at z
        exact z
      obtain ⟨m, hn, _⟩ := I6.loc
      have hn : s6.heap.Ns ce.locals m := hn
      rw [cL] at hn
      exact hRR D s3.heap.objs.size s6 m H5 I7 qq hn (I3.fpOk (Nat.le_refl _) nC)
    · have ti := T.item (X.blk s3 H3 scope ce fp) rfl rfl rfl hc i [] s5 _ H5 (fun _ _ => False) I5 (stat I5 n5) st5 go
      refine thnF ti fun r s6 ⟨u, hr, h6⟩ => ?_
      subst hr
      refine thnF h6 fun _ s7 ⟨x, H7, I7, r7, y7, st7, n7⟩ => ?_
      have I7' := I7.pinned (stat I7 n7) (T.obj _ _ st7)
      refine thnF (pg.run _ s7 _ H7 x u _ I7' r7 (step x H7 y7)) fun _ s8 ⟨σ8, H8, I8, hw8, q8⟩ => ?_
      refine thnF (pt.run _ s8 σ8 H8 _ I8 q8) fun b s9 ⟨H9, I9, q9⟩ => ?_
      -- the turn's end
      have fin : ∀ {s' : Shared} {H' : Hp}, Inv (X.blk s3 H3 scope ce fp) ([] ++ pinsAt fp s7.heap) σ8 H' s' → Nx H' → ∃ m, m < n ∧ ∃ i H', Inv (X.blk s3 H3 scope ce fp) [] (wipe σ (own.map (·.2))) H' s' ∧ tn i s'.heap ∧ (∀ b ∈ fp, H' b = none) ∧ W i m H' := fun {s' H'} I' nx => by
        obtain ⟨m', hm, w'⟩ := hNx H' nx
        have pin' : ∀ b ∈ fp, ∀ o, s7.heap.get? b = some o → s'.heap.get? b = some o ∧ H' b = none := fun b hb o e =>
          let z := I'.pin (b, o) (List.mem_append_right _ (List.mem_append_right _ (mem_pinsAt hb e)))
          ⟨z.1, z.2.1⟩
        have hl : (wipe σ (own.map (·.2))).length = σ8.length := by rw [← hw8, wipe_length]
        refine ⟨m', hm, i + 1, H', (I'.unpinned (pins := [])).weak hl (fun j v e => ?_), T.keep _ _ _ st7 fun b hb o e => (pin' b hb o e).1, fun b hb => ?_, w'⟩
        · rw [← hw8] at e
          exact (wipe_some e).1
        · obtain ⟨o, e, _⟩ := T.obj _ _ st7 b hb
          exact (pin' b hb o e).2
      cases b with
      | false =>
        simp only [Bool.false_eq_true, if_false] at q9 ⊢
        exact fin I9 q9
      | true =>
        simp only [if_true] at q9 ⊢
        refine thnF (pe.run _ s9 σ8 H9 _ I9 q9) fun z s10 ⟨yv, H10, I10, r10, H11, ea, nx⟩ => ?_
        exact ad (X.blk s3 H3 scope ce fp) I10 r10 ea fun s11 I11 => fin I11 nx
  exact PpSet.codeAny_compStart_set loop (T.self X.A 0 _ _ _ st4 loop)
/-- as a value -/
theorem pe_scg (fr : FrO O0) (ad : AdO Ad) {elt tg iter : Expr} {ifs : List Expr} {scope : Scope} {own : List (PySem.Str × Nat)} {pos : Pos} {wi : TI} {g : TG} {tt : TT} {te : TE} (hc : X.calm = true) (hN : X.N.Nodup) (hi : PI X tg iter wi) (ok : BlkOk X.N X.env.scope scope own)
    (hg : ∀ (s : Shared) (H : Hp) (C : Addr) (cl : List (PySem.Str × Addr)) (fp : List Addr), PG (X.blk s H scope (compEnvC scope cl C X.env) fp) tg g) (ht : ∀ (s : Shared) (H : Hp) (C : Addr) (cl : List (PySem.Str × Addr)) (fp : List Addr), PTs (X.blk s H scope (compEnvC scope cl C X.env) fp) ifs tt)
    (he : ∀ (s : Shared) (H : Hp) (C : Addr) (cl : List (PySem.Str × Addr)) (fp : List Addr), PE (X.blk s H scope (compEnvC scope cl C X.env) fp) elt te) (hs : ∀ x, foldedSetIterable iter X.env x = pure x := by intro _; rfl) :
    PE X (.SetComp elt [⟨tg, iter, ifs, 0⟩] scope pos) (tScG O0 Ad X.w wi g tt te (own.map (·.2))) := by
  refine ⟨fun pins s σ H Q I h => ?_⟩
  rw [PpSet.eval_SetComp]
  refine scg_core fr ad hc hN I hi ok hg ht he hs h fun D C s' m H' I' q hn f => ⟨m, hn, fun h'' sb => ?_⟩
  obtain ⟨f0, f1, f2, f3, f4, f5⟩ := f
  exact ⟨.ref D, H', I'.turned (t' := s'.toks) (fun b o hb e => (sb.2 b hb).trans e) f0 f1 f3 f4 f5, rfl, q⟩
end
/-! ### .. of ints -/
def adI (w : World) (D : Addr) (y : V) (H H' : Hp) : Prop := ∃ (c : Int) (S : Int → Bool) (n : Nat), y = .int c ∧ H D = some (SetO w D S n) ∧ n + 1 < scanBound ∧ H' = upd H D (SetO w D (fun j => S j || decide (j = c)) (if S c = true then n else n + 1))
theorem frI : FrO (fun w D => SetO w D (fun _ => false) 0) := fun P w H h => setO_new (setR_fresh w)
theorem adI_ok : AdO adI := by
  intro X pins σ H H' s E D y z Q I r ⟨c, S, n, ey, hD, room, eH⟩ h
  subst ey eH
  obtain ⟨tk, rfl⟩ := r
  refine setR_add (setO_get I hD) room fun h' sb new => ?_
  have he : ∃ u, h'.get? D = some u := by
    have ⟨o, _, _, _, ho, _⟩ := new
    exact ⟨o, ho⟩
  exact h _ (I.write (e := D) (t' := s.toks + 1) (by rw [hD]; trivial) (.inl rfl) (fun b u hb hu => (sb.2 b hb).trans hu) he (setO_new new))
/-- over a list that the block leaves as it is -/
theorem sci_lst {w : World} {K : PySem.W.Frag} {a : Addr} {xs : List V} {g : TG} {tt : TT} {te : TE} {vs : List Nat} {σ : L2.St} {H1 : Hp} {D : Addr} {Qd : Hp → Prop} (Pv : Nat → Hp → Prop) (h0 : Pv 0 (upd H1 D (SetO w D (fun _ => false) 0))) (hl : ∀ i H, i ≤ xs.length → Pv i H → SqL K H a xs)
    (hs : ∀ i x H, xs[i]? = some x → Pv i H → g x (wipe σ vs) H fun σ2 H2 => wipe σ2 vs = wipe σ vs ∧ tt σ2 H2 fun b H3 => if b = true then te σ2 H3 fun y H4 => ∃ H5, adI w D y H4 H5 ∧ Pv (i + 1) H5 else Pv (i + 1) H3) (hd : ∀ H, Pv xs.length H → Qd H) :
    ∃ W : Nat → Nat → Hp → Prop, (∃ m, W 0 m (upd H1 D (SetO w D (fun _ => false) 0))) ∧ ∀ i m H, W i m H →
      ((Itl K a).stop i H ∧ Qd H) ∨ ((Itl K a).go i H ∧ ∃ Nx : Hp → Prop, (∀ H', Nx H' → ∃ m', m' < m ∧ W (i + 1) m' H') ∧ ∀ x H', (Itl K a).yld i H x H' → g x (wipe σ vs) H' fun σ2 H2 => wipe σ2 vs = wipe σ vs ∧ tt σ2 H2 fun b H3 =>
        if b = true then te σ2 H3 fun y H4 => ∃ H5, adI w D y H4 H5 ∧ Nx H5 else Nx H3) := by
  refine ⟨fun i m H => m = xs.length - i ∧ i ≤ xs.length ∧ Pv i H, ⟨xs.length, by simp, Nat.zero_le _, h0⟩, ?_⟩
  rintro i m H ⟨rfl, hi, p⟩
  have q := hl i H hi p
  by_cases hlt : i < xs.length
  · refine .inr ⟨⟨xs, xs[i], q, by simp [hlt]⟩, Pv (i + 1), fun H' p' => ⟨xs.length - (i + 1), by omega, rfl, hlt, p'⟩, fun x H' y => ?_⟩
    obtain ⟨e, y⟩ := y
    subst e
    exact hs i x _ (y xs q) p
  · have e : i = xs.length := by omega
    subst e
    exact .inl ⟨⟨xs, q, Nat.le_refl _⟩, hd H p⟩
/-! ### < of nested data, min of a list of it -/
section
open K23 PySem.W
variable {X : Cx}
theorem minD_mem : ∀ (ds : List PyData) (d : PyData), minD d ds ∈ d :: ds
  | [], d => List.mem_cons_self
  | e :: ds, d => by
    have h := minD_mem ds (if dataLt e d then e else d)
    show minD (if dataLt e d then e else d) ds ∈ _
    rcases List.mem_cons.mp h with h | h
    · rw [h]
      split
      · exact List.mem_cons_of_mem _ List.mem_cons_self
      · exact List.mem_cons_self
    · exact List.mem_cons_of_mem _ (List.mem_cons_of_mem _ h)
def rLtD (K : PySem.W.Frag) : R2 := fun x y H Q => ∃ d e, Dp K H x d ∧ Dp K H y e ∧ alike d e = true ∧ d ≠ .none ∧ d.depth ≤ 64 ∧ Q (.bl (dataLt d e)) H
theorem op_ltD (hu : X.A.units + 64 < cLine) : OpR X (compareOp .Lt) (rLtD X.K) := by
  intro pins s σ H x y v u Q I rx ry h
  obtain ⟨d, e, hd, he, ha, hn, hz, q⟩ := h
  obtain ⟨as, r1⟩ := Dp.reads I d x v hd rx
  obtain ⟨bs, r2⟩ := Dp.reads I e y u he ry
  exact rcLt_alike d e X.A s v u as bs r1 r2 ha hn (by omega) X.prog X.w X.xe _ ⟨.bl _, H, I, rfl, q⟩
def rMinD (K : PySem.W.Frag) : List V → Hp → VK → Prop := fun vs H Q => ∃ a xs d ds, vs = [.ref a] ∧ SqL K H a xs ∧ DpAll K H xs (d :: ds) ∧ AlikeAll (d :: ds) ∧ PyData.depthAll (d :: ds) ≤ 60 ∧ ∀ (i : Nat) (x : V), xs[i]? = some x → Dp K H x (minD d ds) → Q x H
theorem cr_minD (hc : X.calm = true) (hu : X.A.units + 64 < cLine) : CallR X (.builtin "min") (rMinD X.K) := by
  intro pins s σ H vs us Q I r h
  obtain ⟨a, xs, d, ds, rfl, hs, hd, ha, hz, q⟩ := h
  rw [Vals.ref1 r]
  obtain ⟨its, rv, pl, _⟩ := I.list hs
  obtain ⟨as, hr⟩ := Dp.readsAll I (d :: ds) xs its hd rv
  refine min_list_data (I.ok.hd hc) pl.isList (by simpa using hr) ha (by omega) fun i v h' tk bs hv rd hk => ?_
  have hv' : its[i]? = some v := by simpa using hv
  have hi : i < xs.length := by
    rw [rv.length]
    obtain ⟨h1, _⟩ := List.getElem?_eq_some_iff.mp hv'
    exact h1
  obtain ⟨u, hu2, ru⟩ := rv.get (List.getElem?_eq_getElem hi)
  rw [hv'] at hu2
  cases hu2
  obtain ⟨di, hdi, pdi⟩ := dpAll_get hd (List.getElem?_eq_getElem hi)
  obtain ⟨cs, rc⟩ := Dp.reads I di _ _ pdi ru
  have e : di = minD d ds := alike_unique di (minD d ds) _ cs bs (ha.1 _ (List.mem_of_getElem? hdi) _ (minD_mem ds d)) (reads_keeps hk rc) rd
  rw [e] at pdi
  exact ⟨xs[i], H, I.kept (t' := tk) hk, ru, q i _ (List.getElem?_eq_getElem hi) pdi⟩
end
end KSup
set_option maxHeartbeats 1000000
namespace K23
open PySem PySem.Spec PyProof.Rows L2 KSup NdefX StX
/-! ### data under a heap where one object, no sequence, has changed -/
def But (x : Addr) (H H' : Hp) : Prop := ∀ b o, b ≠ x → H b = some o → H' b = some o
theorem But.refl (x : Addr) (H : Hp) : But x H H := fun _ _ _ h => h
theorem But.trans {x : Addr} {H H1 H2 : Hp} (a : But x H H1) (b : But x H1 H2) : But x H H2 := fun c o n h => b c o n (a c o n h)
theorem sameBut {x : Addr} {H H' : Hp} (s : Same H H') : But x H H' := fun b o _ h => s b o h
theorem but_upd {x : Addr} {H : Hp} {o : HO} : But x H (upd H x o) := fun b u n h => by rw [upd_ne n]; exact h
/-- no sequence stands at x -/
def NoSeq (x : Addr) (H : Hp) : Prop := ∀ xs, H x ≠ some (.lst xs) ∧ H x ≠ some (.tup xs) ∧ ∀ o, H x ≠ some (.frz o (.lst xs)) ∧ H x ≠ some (.frz o (.tup xs))
theorem noSeq_ins {x C dx : Addr} {fs : List (Str × V)} {H : Hp} (h : H x = some (.ins C dx fs)) : NoSeq x H := fun xs => by
  rw [h]
  exact ⟨(fun e => nomatch e), (fun e => nomatch e), fun o => ⟨(fun e => nomatch e), (fun e => nomatch e)⟩⟩
theorem noSeq_none {x : Addr} {H : Hp} (h : H x = none) : NoSeq x H := fun xs => by
  rw [h]
  exact ⟨(fun e => nomatch e), (fun e => nomatch e), fun o => ⟨(fun e => nomatch e), (fun e => nomatch e)⟩⟩
theorem noSeq_dK {x : Addr} {kvs : List (Key × V)} {H : Hp} (h : H x = some (.dK kvs)) : NoSeq x H := fun xs => by
  rw [h]
  exact ⟨(fun e => nomatch e), (fun e => nomatch e), fun o => ⟨(fun e => nomatch e), (fun e => nomatch e)⟩⟩
section
variable {K : PySem.W.Frag} {H H' : Hp} {x : Addr}
theorem sqT_but {a : Addr} {xs : List V} (n : NoSeq x H) (e : But x H H') (h : SqT K H a xs) : SqT K H' a xs := by
  rcases h with (h | ⟨o, h⟩) | h
  · exact .inl (.inl (e _ _ (fun z => (n xs).2.1 (z ▸ h)) h))
  · exact .inl (.inr ⟨o, e _ _ (fun z => ((n xs).2.2 o).2 (z ▸ h)) h⟩)
  · exact .inr h
theorem sqL_but {a : Addr} {xs : List V} (n : NoSeq x H) (e : But x H H') (h : SqL K H a xs) : SqL K H' a xs := by
  rcases h with (h | ⟨o, h⟩) | h
  · exact .inl (.inl (e _ _ (fun z => (n xs).1 (z ▸ h)) h))
  · exact .inl (.inr ⟨o, e _ _ (fun z => ((n xs).2.2 o).1 (z ▸ h)) h⟩)
  · exact .inr h
mutual
theorem dp_but (n : NoSeq x H) (e : But x H H') : ∀ {d : PyData} {v : V}, Dp K H v d → Dp K H' v d
  | .none, _, h => by cases h; exact .non
  | .bool b, _, h => by cases h; exact .bl b
  | .int i, _, h => by cases h; exact .int i
  | .str x, _, h => by cases h; exact .str x
  | .list ds, _, h => by
    cases h with
    | lst s a => exact .lst (sqL_but n e s) (dpAll_but n e a)
  | .tuple ds, _, h => by
    cases h with
    | tup s a => exact .tup (sqT_but n e s) (dpAll_but n e a)
  | .dict _, _, h => by cases h
theorem dpAll_but (n : NoSeq x H) (e : But x H H') : ∀ {ds : List PyData} {vs : List V}, DpAll K H vs ds → DpAll K H' vs ds
  | [], _, h => by cases h; exact .nil
  | d :: ds, _, h => by
    cases h with
    | cons h1 h2 => exact .cons (dp_but n e h1) (dpAll_but n e h2)
end
end
/-! ### Paper -/
section
variable {P : Program} {w : World} {K : PySem.W.Frag} {mg : Str → Option Value} {base : Heap} {f g : Addr} {fd gd : FuncData}
/-- a paper's fields -/
def spPInit (K : PySem.W.Frag) (n : Nat) : Sp := fun vs H Q _ => ∃ x C dx u rest ds, vs = [.ref x, .str u] ++ rest ∧ H x = some (.ins C dx []) ∧ Cls K C ∧ NoAttr K C "word" ∧ NoAttr K C "parts" ∧ rest.length ≤ sizeLine ∧ DpAll K H rest ds ∧ fits n (.tuple ds) ∧
  ∀ H' v, But x H H' → H' x = some (.ins C dx [("word", .str u), ("parts", v)]) → Dp K H' v (tupD (.tuple ds)) → Q .non H'
abbrev FnM (K : PySem.W.Frag) (x q : Str) (st : Stmt) (f : Addr) (fd : FuncData) : Prop := FunD K x q (defArgs st) (defBody st) (defScope st) [] [] f fd
theorem cxUp0 : CXUp CX0 := fun _ _ _ _ _ _ _ _ _ _ _ z => z
theorem ok_pinit (F : FnM K "__init__" "Paper.__init__" sPInit f fd) (n : Nat) (G : FnOk P w K mg base CX0 (n + 1) g gd ["value"] (spFixed K n)) (kg : PySem.W.keepIn K (.ref g) = true) (bg : Binds K gd ["value"] []) (gm : mg "fixed" = some (.ref g)) :
    FnR P w K mg base CX0 (n + 2) f (spPInit K n) := by
  obtain ⟨oc, od, dV, kV, doc, pm, an, cdv, ct, osl, e, lk, hcd, hD, _⟩ := F.ex
  have e0 : dV = .none := by
    rcases hD with ⟨_, e⟩ | ⟨e, _⟩
    · exact e
    · exact absurd rfl e
  subst e0
  subst e
  refine FnR.imp (fn_star (k := n + 1) (ps := ["self", "word"]) (pv := "parts") (sp := fun vs H Q _ => ∃ x C dx u p rest ds, vs = [.ref x, .str u, .ref p] ∧ H x = some (.ins C dx []) ∧ Cls K C ∧ NoAttr K C "word" ∧ NoAttr K C "parts" ∧ H p = some (.tup rest) ∧ DpAll K H rest ds ∧ fits n (.tuple ds) ∧
      ∀ H' v, But x H H' → H' x = some (.ins C dx [("word", .str u), ("parts", v)]) → Dp K H' v (tupD (.tuple ds)) → Q .non H') lk hcd scPInit cxUp0 ?_ ?_) ?_
  · exact bind_star2 (B := fun us => bindArgs (PySem.W.fnOf "__init__" "Paper.__init__" (defArgs sPInit) (defBody sPInit) (defScope sPInit) .none kV doc pm an cdv ct) ⟨us, []⟩) (p1 := "self") (p2 := "word") (pv := "parts") (fun a b => by rfl) (fun a b r rs => by rfl)
  · intro A outer s H vs Q E hr h
    obtain ⟨x, C, dx, u, p, rest, ds, rfl, hx, hc, n1, n2, hp, hd, hf, hq⟩ := h
    refine ⟨_, PSs.nox (pss_cons (ps_fld (pv 0) (pv 1) rfl) (pss_one (ps_fld (pv 0) (pe_call G hr (by rfl) gm kg bg .nil pass0 (pa_cons (pv 2) pa_nil)) rfl))), ?_⟩
    have hpx : p ≠ x := by
      rintro rfl
      rw [hx] at hp
      cases hp
    have b1 : But x H (upd H x (.ins C dx (putF "word" (.str u) []))) := but_upd
    have d1 : Dp K H (.ref p) (.tuple ds) := .tup (.inl (.inl hp)) hd
    refine ⟨_, rfl, _, rfl, x, C, dx, [], rfl, hx, hc, n1, by decide, ?_⟩
    refine ⟨_, rfl, _, _, rfl, dp_but (noSeq_ins hx) b1 d1, hf, fun H' v' s2 hv => ?_⟩
    refine ⟨_, rfl, x, C, dx, _, rfl, s2 _ _ upd_same, hc, n2, by show 1 < 1000; omega, ?_⟩
    have b2 : But x H' (upd H' x (.ins C dx (putF "parts" v' (putF "word" (.str u) [])))) := but_upd
    exact hq _ v' ((b1.trans (sameBut s2)).trans b2) upd_same (dp_but (noSeq_ins (s2 _ _ upd_same)) b2 hv)
  · intro vs H Q E h
    obtain ⟨x, C, dx, u, rest, ds, rfl, hx, hc, n1, n2, hz, hd, hf, hq⟩ := h
    refine ⟨[.ref x, .str u], rest, rfl, rfl, hz, fun p hp => ?_⟩
    have s1 : Same H (upd H p (.tup rest)) := same_upd hp
    exact ⟨x, C, dx, u, p, rest, ds, rfl, s1 _ _ hx, hc, n1, n2, upd_same, dpAll_same s1 hd, hf, fun H' v b e d => hq H' v ((sameBut s1).trans b) e d⟩
end
end K23
set_option maxHeartbeats 1000000
namespace K23
open PySem PySem.Spec PyProof.Rows L2 KSup NdefX StX
section
variable {X : Cx}
def gFld (K : PySem.W.Frag) (to : TE) (f : Str) : TG := fun v σ H Q => to σ H fun o H1 => ∃ a C dx fs, o = .ref a ∧ H1 a = some (.ins C dx fs) ∧ Cls K C ∧ NoAttr K C f ∧ fs.length < 1000 ∧ Q σ (upd H1 a (.ins C dx (putF f v fs)))
theorem pg_fld {o : Expr} {f : Str} {to : TE} {pos : Pos} (ho : PE X o to) : PG X (.Attribute o f pos) (gFld X.K to f) := by
  refine ⟨fun pins s σ H v u Q I r h => ?_⟩
  rw [assign_Attribute]
  refine wpAny_bind (wpAny_holding (thn (ho.run pins s σ H _ I h) fun ov s1 ⟨x, H1, I1, r1, a, C, dx, fs, ex, ea, c, n, l, q⟩ => ?_))
  subst ex
  obtain rfl : ov = Value.ref a := r1
  refine wpAny_bind (wpAny_standAt (wpAny_bind (wpAny_holding (setattr_ok I1 ea c n l r fun s3 I3 => ?_))))
  exact wpAny_release ⟨σ, _, I3, q⟩
end
theorem nsB : NScope ["self", "cells", "blocks", "__class__"] ["self", "cells", "blocks"] ["__class__"] (defScope sBInit) := nscope_by (by decide +kernel)
theorem nsU : NScope ["self", "__class__"] ["self"] ["__class__"] (defScope sUInit) := nscope_by (by decide +kernel)
section
variable {P : Program} {w : World} {K : PySem.W.Frag} {mg : Str → Option Value} {base : Heap} {f f2 g C : Addr} {fd gd : FuncData} {F : NF}
def spBInit (K : PySem.W.Frag) (C : Addr) (n : Nat) : Sp := fun vs H Q _ => ∃ x dx c b dc db, vs = [.ref x, c, b] ∧ H x = some (.ins C dx []) ∧ Dp K H c dc ∧ Dp K H b db ∧ fits n (.tuple [dc, db]) ∧
  ∀ H' v c' b', But x H H' → H' x = some (.ins C dx [("word", .str "bars"), ("parts", v), ("cells", c'), ("blocks", b')]) → Dp K H' v (tupD (.tuple [dc, db])) → Dp K H' c' (tupD dc) → Dp K H' b' (tupD db) → Q .non H'
structure PapC (K : PySem.W.Frag) (C : Addr) : Prop where
  cl : Cls K C
  w : NoAttr K C "word"
  p : NoAttr K C "parts"
  c : NoAttr K C "cells"
  b : NoAttr K C "blocks"
theorem ok_binit (S : SupD P K "__init__" "Bars.__init__" (defArgs sBInit) (defBody sBInit) (defScope sBInit) C f f2 F) (pc : PapC K C) (sup : mg "super" = none) (n k : Nat) (G : FnR P w K mg base CX0 k f2 (spPInit K n)) : FnR P w K mg base CX0 (k + 1) f (spBInit K C n) := by
  obtain ⟨cda, cc, hF⟩ := id S.hF
  subst hF
  refine fnR_sup S nsB (fun _ _ _ _ _ _ us hl => match us, hl with | [_, _, _], _ => rfl) (fun vs H Q E h => ?_) (fun A outer s H vs Q E hr h s1 I => ?_)
  · obtain ⟨x, dx, c, b, dc, db, rfl, _⟩ := h
    rfl
  · obtain ⟨x, dx, c, b, dc, db, rfl, hx, hc, hb, hf, hq⟩ := h
    refine wpAt_body (t := tAsg (tFld K (tVar 0) "parts") (gTup K 2 (gCons (gFld K (tVar 0) "cells") (gCons (gFld K (tVar 0) "blocks") gNil))))
      (sup_stmt (X := ncx CX0 P w K mg base _ _ f A outer s H E) (C := C) (k := k) (t := tCons (tC (.str "bars")) (tCons (tVar 1) (tCons (tVar 2) tNil))) (x := x) (dx := dx) (fs := []) (L := s.heap.objs.size) S rfl rfl rfl rfl (by rfl) sup I rfl hx G hr pass0
        (pa_cons pe_str (pa_cons (pv 1) (pa_cons (pv 2) pa_nil))) rfl rfl rfl rfl rfl ?_)
      (pss_one (ps_asg (pe_fld (pv 0) rfl) (pg_tup rfl (pgs_cons (pg_fld (pv 0)) (pgs_cons (pg_fld (pv 0)) pgs_nil)))))
    intro q q0
    have s1 : Same H (upd H q (.met f2 x)) := same_upd q0
    refine ⟨_, rfl, _, rfl, upd_same, x, C, dx, "bars", [c, b], [dc, db], rfl, s1 _ _ hx, pc.cl, pc.w, pc.p, by rw [sizeLine_eq]; show 2 ≤ 16777216; omega, .cons (dp_same s1 hc) (.cons (dp_same s1 hb) .nil), hf, fun H' v b1 e1 d1 => ?_⟩
    refine ⟨_, rfl, x, C, dx, _, v, rfl, e1, pc.cl, pc.p, rfl, ?_⟩
    have hv := d1
    rw [tupD, tupDs, tupDs, tupDs] at d1
    have b2 : But x H H' := (sameBut s1).trans b1
    cases d1 with
    | tup st at_ =>
    rename_i p xs
    cases at_ with
    | cons h1 at_ =>
    cases at_ with
    | cons h2 at_ =>
    cases at_
    rename_i c' b'
    refine ⟨p, _, rfl, st, rfl, _, _, rfl, _, rfl, x, C, dx, _, rfl, e1, pc.cl, pc.c, by show 2 < 1000; omega, ?_⟩
    refine ⟨_, _, rfl, _, rfl, x, C, dx, _, rfl, upd_same, pc.cl, pc.b, by show 3 < 1000; omega, ?_⟩
    have b3 : But x H' (upd H' x (.ins C dx (putF "cells" c' [("word", .str "bars"), ("parts", .ref p)]))) := but_upd
    have b4 := b3.trans (but_upd (o := .ins C dx (putF "blocks" b' (putF "cells" c' [("word", .str "bars"), ("parts", .ref p)]))))
    have nsq := noSeq_ins e1
    exact ⟨rfl, hq _ (.ref p) c' b' (b2.trans b4) upd_same (dp_but nsq b4 hv) (dp_but nsq b4 h1) (dp_but nsq b4 h2)⟩
def spUInit (K : PySem.W.Frag) (C : Addr) : Sp := fun vs H Q _ => ∃ x dx, vs = [.ref x] ∧ H x = some (.ins C dx []) ∧
  ∀ H' v, But x H H' → H' x = some (.ins C dx [("word", .str "unbarred"), ("parts", v)]) → Dp K H' v (.tuple []) → Q .non H'
theorem ok_uinit (S : SupD P K "__init__" "Unbarred.__init__" (defArgs sUInit) (defBody sUInit) (defScope sUInit) C f f2 F) (pc : PapC K C) (sup : mg "super" = none) (n k : Nat) (G : FnR P w K mg base CX0 k f2 (spPInit K (n + 1))) : FnR P w K mg base CX0 (k + 1) f (spUInit K C) := by
  obtain ⟨cda, cc, hF⟩ := id S.hF
  subst hF
  refine fnR_sup S nsU (fun _ _ _ _ _ _ us hl => match us, hl with | [_], _ => rfl) (fun vs H Q E h => ?_) (fun A outer s H vs Q E hr h s1 I => ?_)
  · obtain ⟨x, dx, rfl, _⟩ := h
    rfl
  · obtain ⟨x, dx, rfl, hx, hq⟩ := h
    refine wpAt_body (t := tNext)
      (sup_stmt (X := ncx CX0 P w K mg base _ _ f A outer s H E) (C := C) (k := k) (t := tCons (tC (.str "unbarred")) tNil) (x := x) (dx := dx) (fs := []) (L := s.heap.objs.size) S rfl rfl rfl rfl (by rfl) sup I rfl hx G hr pass0
        (pa_cons pe_str pa_nil) rfl rfl rfl rfl rfl ?_)
      pss_nil
    intro q q0
    have s1 : Same H (upd H q (.met f2 x)) := same_upd q0
    refine ⟨upd_same, x, C, dx, "unbarred", [], [], rfl, s1 _ _ hx, pc.cl, pc.w, pc.p, by rw [sizeLine_eq]; show 0 ≤ 16777216; omega, .nil, ?_, fun H' v b1 e1 d1 => hq H' v ((sameBut s1).trans b1) e1 (by rw [tupD, tupDs] at d1; exact d1)⟩
    rw [fits]
    exact ⟨by show 0 ≤ 1000000; omega, fun d hd => absurd hd (by simp)⟩
/-! ### truth -/
def spT : Sp := fun vs H Q _ => ∃ v, vs = [v] ∧ Q (.bl true) H
def spF : Sp := fun vs H Q _ => ∃ v, vs = [v] ∧ Q (.bl false) H
theorem ok_pbool (F : FnM K "__bool__" "Paper.__bool__" sPBool f fd) : FnOk P w K mg base CX0 1 f fd ["self"] spT := by
  refine F.ok scPBool (fun vs H Q E h => ?_) (fun cdv A outer s H vs Q E hr h => ?_)
  · obtain ⟨v, rfl, _⟩ := h
    rfl
  · obtain ⟨v, rfl, hq⟩ := h
    exact ⟨_, PSs.nox (pss_one (ps_ret pe_bl)), hq⟩
theorem ok_dbool (F : FnM K "__bool__" "Denial.__bool__" sDBool f fd) : FnOk P w K mg base CX0 1 f fd ["self"] spF := by
  refine F.ok scDBool (fun vs H Q E h => ?_) (fun cdv A outer s H vs Q E hr h => ?_)
  · obtain ⟨v, rfl, _⟩ := h
    rfl
  · obtain ⟨v, rfl, hq⟩ := h
    exact ⟨_, PSs.nox (pss_one (ps_ret pe_bl)), hq⟩
/-! ### == of papers -/
/-- the paper at a: its class, its word, its parts -/
def IsPap (K : PySem.W.Frag) (H : Hp) (a C : Addr) (y u : Str) (d : PyData) : Prop := ∃ dx fs v, H a = some (.ins C dx fs) ∧ fs.lookup ("word" : Str) = some (.str u) ∧ fs.lookup ("parts" : Str) = some v ∧ Dp K H v d ∧ PapC K C ∧ CName K C y
/-- .. an instance of Paper -/
structure InP (K : PySem.W.Frag) (C CP : Addr) : Prop where
  ha : PySem.W.findIn K (.ref C) "__class__" = some (some (.builtin "object.__class__"))
  hn : PySem.W.specialIn K (.builtin "object.__class__") "__get__" = some (some (.builtin "getset_descriptor.__get__"))
  htk : PySem.W.takesIn K (.builtin "object.__class__") = some true
  hm : PySem.W.mroIn K C (.type "object") = some true
  is : PySem.W.kitOne K (.ref C) (.ref CP) = some true
def spPEq (K : PySem.W.Frag) (CP : Addr) (n : Nat) : Sp := fun vs H Q _ => ∃ a b C D y z u t d e, vs = [.ref a, .ref b] ∧ IsPap K H a C y u d ∧ IsPap K H b D z t e ∧ InP K D CP ∧ (y = z → pairT n (.tuple [.str u, d]) (.tuple [.str t, e])) ∧
  ∀ H', Same H H' → Q (.bl (decide (y = z) && likeD (.tuple [.str u, d]) (.tuple [.str t, e]))) H'
theorem IsPap.same {H H' : Hp} {a C : Addr} {y u : Str} {d : PyData} (s : Same H H') (h : IsPap K H a C y u d) : IsPap K H' a C y u d := by
  obtain ⟨dx, fs, v, h1, h2, h3, h4, h5, h6⟩ := h
  exact ⟨dx, fs, v, s _ _ h1, h2, h3, dp_same s h4, h5, h6⟩
theorem ok_peq (F : FnM K "__eq__" "Paper.__eq__" sPEq f fd) (T : Bl mg) (CP : Addr) (hP : mg "Paper" = some (.ref CP)) (n k : Nat) (G : FnOk P w K mg base CX0 k g gd ["one", "other"] (spLike K n)) (kg : PySem.W.keepIn K (.ref g) = true) (bg : Binds K gd ["one", "other"] []) (gm : mg "are_like" = some (.ref g)) :
    FnOk P w K mg base CX0 (k + 1) f fd ["self", "other"] (spPEq K CP n) := by
  refine F.ok scPEq (fun vs H Q E h => ?_) (fun cdv A outer s H vs Q E hr h => ?_)
  · obtain ⟨a, b, C, D, y, z, u, t, d, e, rfl, _⟩ := h
    rfl
  · obtain ⟨a, b, C, D, y, z, u, t, d, e, rfl, hA, hB, hin, hp, hq⟩ := h
    refine ⟨_, PSs.nox (pss_cons (ps_if (PW.pt (pw_or (pt_not (pt_val (pe_callB call_isi (by rfl) T.isi (by decide +kernel) (pa_cons (pv 1) (pa_cons (pe_glob (v := .ref CP) (by rfl) hP rfl) pa_nil)))))
        (pw_or1 (pt_cmpR op_ne (pe_className (pv 0) rfl rfl) (pe_className (pv 1) rfl rfl) (nomark _))))) (pss_one (ps_ret pe_bl)) pss_nil)
      (pss_one (ps_ret (pe_call G hr (by rfl) gm kg bg .nil pass0 (pa_cons (pe_tup (pa_cons (pe_fld (pv 0) rfl) (pa_cons (pe_fld (pv 0) rfl) pa_nil))) (pa_cons (pe_tup (pa_cons (pe_fld (pv 1) rfl) (pa_cons (pe_fld (pv 1) rfl) pa_nil))) pa_nil)))))), ?_⟩
    obtain ⟨dx, fs, v, a1, a2, a3, a4, a5, a6⟩ := hA
    obtain ⟨ey, gs, w', b1, b2, b3, b4, b5, b6⟩ := hB
    refine ⟨_, rfl, _, _, _, _, _, rfl, .own _, .base (.ins b1 b5.cl hin.ha hin.hn hin.htk hin.hm), hin.is, _, rfl, iteF ?_⟩
    refine ⟨_, rfl, a, C, dx, fs, y, rfl, a1, a6, _, rfl, b, D, ey, gs, z, rfl, b1, b6, rfl, _, rfl, ?_⟩
    by_cases hyz : y = z
    · have e1 : (!decide (V.str y = V.str z)) = false := by simp [hyz]
      rw [e1]
      refine iteF ?_
      rw [decide_eq_true hyz, Bool.true_and] at hq
      refine ⟨_, rfl, a, C, dx, fs, _, rfl, a1, a5.cl, a5.w, a2, _, rfl, a, C, dx, fs, _, rfl, a1, a5.cl, a5.p, a3, by show 2 ≤ sizeLine; rw [sizeLine_eq]; omega, fun p np => ?_⟩
      have s1 : Same H (upd H p (.tup [.str u, v])) := same_upd np
      refine ⟨_, rfl, b, D, ey, gs, _, rfl, s1 _ _ b1, b5.cl, b5.w, b2, _, rfl, b, D, ey, gs, _, rfl, s1 _ _ b1, b5.cl, b5.p, b3, by show 2 ≤ sizeLine; rw [sizeLine_eq]; omega, fun q nq => ?_⟩
      have s2 : Same (upd H p (.tup [.str u, v])) (upd (upd H p (.tup [.str u, v])) q (.tup [.str t, w'])) := same_upd nq
      refine ⟨_, _, _, _, rfl, .tup (.inl (.inl (s2 _ _ upd_same))) (.cons (.str u) (.cons (dp_same (s1.trans s2) a4) .nil)), .tup (.inl (.inl upd_same)) (.cons (.str t) (.cons (dp_same (s1.trans s2) b4) .nil)), hp hyz, fun H' s3 => hq H' ((s1.trans s2).trans s3)⟩
    · have e1 : (!decide (V.str y = V.str z)) = true := by simp [hyz]
      rw [e1]
      refine iteT ?_
      rw [decide_eq_false hyz, Bool.false_and] at hq
      exact hq _ (Same.refl _)
end
end K23
set_option maxHeartbeats 1000000
namespace K23
open PySem PySem.Spec PyProof.Rows L2 KSup NdefX StX
theorem dpAll_ints {K : PySem.W.Frag} {H : Hp} : ∀ ns : List Int, DpAll K H (ns.map V.int) (ns.map PyData.int)
  | [] => .nil
  | n :: ns => .cons (.int n) (dpAll_ints ns)
section
variable {P : Program} {w : World} {K : PySem.W.Frag} {mg : Str → Option Value} {base : Heap} {f g g2 : Addr} {fd gd gd2 : FuncData}
structure Co (mg : Str → Option Value) : Prop where
  cells : ∃ t, mg "MOST_CELLS" = some (.int 12 t)
  size : ∃ t, mg "MOST_SIZE" = some (.int 3 t)
  blocks : ∃ t, mg "MOST_BLOCKS" = some (.int 12 t)
def spNeedSizes (K : PySem.W.Frag) : Sp := fun vs H Q _ => ∃ (a : Addr) (ns : List Int), vs = [.ref a] ∧ SqL K H a (ns.map V.int) ∧ 1 ≤ ns.length ∧ ns.length ≤ 12 ∧ (∀ n ∈ ns, 1 ≤ n ∧ n ≤ 3) ∧
  ∀ (H' : Hp) (p : Addr) (ns' : List Int), Same H H' → H' p = some (.lst (ns'.map V.int)) → ns'.Pairwise (· < ·) → (∀ k, k ∈ ns' ↔ k ∈ ns) → Q (.ref p) H'
theorem ok_needSizes (F : FnP K "need_sizes" sNeedSizes f fd) (T : Bl mg) (co : Co mg) (G : FnOk P w K mg base CX0 1 g gd ["value"] (spIsListed K)) (kg : PySem.W.keepIn K (.ref g) = true) (bg : Binds K gd ["value"] []) (gm : mg "is_listed" = some (.ref g))
    (G2 : FnOk P w K mg base CX0 2 g2 gd2 ["value", "least", "most"] (spIsWithin K)) (kg2 : PySem.W.keepIn K (.ref g2) = true) (bg2 : Binds K gd2 ["value", "least", "most"] []) (gm2 : mg "is_within" = some (.ref g2)) :
    FnOk P w K mg base CX0 3 f fd ["value"] (spNeedSizes K) := by
  obtain ⟨tb, hmb⟩ := co.blocks
  obtain ⟨ts, hms⟩ := co.size
  refine F.ok scNeedSizes (fun vs H Q E h => ?_) (fun cdv A outer s H vs Q E hr h => ?_)
  · obtain ⟨a, ns, rfl, _⟩ := h
    rfl
  · obtain ⟨a, ns, rfl, hs, hl1, hl2, hns, hq⟩ := h
    have r1 : Room 1 (A.deeper (envOfC _ _ s.heap.objs.size f cdv)) := hr.mono (by omega)
    refine ⟨_, PSs.nox (pss_cons (ps_if (PW.pt (pw_or (pt_not (pt_val (pe_call G r1 (by rfl) gm kg bg .nil pass0 (pa_cons (pv 0) pa_nil))))
        (pw_or1 (pt_not (pt_chain op_le op_le pe_int (pe_callB call_len_seq (by rfl) T.len PySem.boot_len (pa_cons (pv 0) pa_nil)) (pe_glob (v := .int 12) (by rfl) hmb ⟨tb, rfl⟩)))))) pss_never pss_nil)
      (pss_cons (ps_if (pt_not (pt_val (pe_callB (cr_all rfl) (by rfl) T.all (by decide +kernel) (pa_cons (pe_lc (own := [("one", 1)]) (g := gName 1) (tt := tYes) rfl scNeedSizes.nd (pi_list (pv 0)) (blkOk_by (N := ["value", "one"]) (sc := defScope sNeedSizes) (by decide +kernel))
          (fun _ _ _ _ _ => pg_name (i := 1) scNeedSizes.nd rfl (Or.inl rfl)) (fun _ _ _ _ _ => pts_nil) (fun _ _ _ _ _ => pe_call G2 hr (by rfl) gm2 kg2 bg2 .nil pass0 (pa_cons (pv 1) (pa_cons pe_int (pa_cons (pe_glob (v := .int 3) (by rfl) hms ⟨ts, rfl⟩) pa_nil))))) pa_nil)))) pss_never pss_nil)
      (pss_one (ps_ret (pe_callB (cr_sortedSet rfl) (by rfl) T.sorted (by decide +kernel) (pa_cons (pe_scg (O0 := fun w D => SetO w D (fun _ => false) 0) (Ad := adI) frI adI_ok (own := [("one", 1)]) (g := gName 1) (tt := tYes) rfl scNeedSizes.nd (pi_list (pv 0))
          (blkOk_by (N := ["value", "one"]) (sc := defScope sNeedSizes) (by decide +kernel)) (fun _ _ _ _ _ => pg_name (i := 1) scNeedSizes.nd rfl (Or.inl rfl)) (fun _ _ _ _ _ => pts_nil) (fun _ _ _ _ _ => pv 1)) pa_nil)))))), ?_⟩
    have hdp : DpAll K H (ns.map V.int) (ns.map PyData.int) := dpAll_ints ns
    refine ⟨_, rfl, _, _, rfl, .lst hs hdp, fun H1 s1 => ⟨_, rfl, ?_⟩⟩
    show (if (!isSeq (.list (ns.map PyData.int))) = true then _ else _)
    refine iteF ?_
    refine ⟨_, rfl, _, _, rfl, .inl (s1.seq hs), ?_⟩
    refine ⟨_, _, rfl, rfl, _, rfl, ?_⟩
    rw [if_pos (decide_eq_true (by rw [List.length_map]; omega))]
    refine ⟨_, _, rfl, rfl, _, rfl, ?_⟩
    rw [List.length_map]
    have e2 : decide ((ns.length : Int) ≤ 12) = true := decide_eq_true (by omega)
    rw [e2]
    refine iteF ?_
    -- all of them within
    refine ⟨_, rfl, a, rfl, ⟨_, s1.seq hs⟩, fun D nD => ?_⟩
    have hdp1 := dpAll_same s1 hdp
    refine lc_dpL (K := K) (ds := ns.map PyData.int) (keep := fun _ => true) (F := fun d => .bool (inI d 1 3)) (by rw [List.length_map]; omega) (s1.seq hs) nD hdp1 (fun d hd _ => rfl) (fun x d H3 s3 hx hm R S hR hS => ?_) (fun H2 ys s2 eD hys => ?_)
    · refine ⟨wipe_one _ 1 _, ?_⟩
      dsimp only [tYes]
      rw [if_pos rfl]
      exact ⟨_, rfl, _, _, _, _, rfl, hx, hR _ _ (Same.refl _) rfl (.bl _)⟩
    rw [filter_tt, List.map_map] at hys
    have hb := bools_of (bs := ns.map fun n => inI (.int n) 1 3) (ys := ys) (by rw [List.map_map]; exact hys)
    subst hb
    refine ⟨D, _, rfl, .inl (.inl eD), ?_⟩
    have e3 : ((ns.map fun n => inI (.int n) 1 3).all id) = true := by
      rw [List.all_eq_true]
      intro b hb
      obtain ⟨n, hn, rfl⟩ := List.mem_map.mp hb
      obtain ⟨h1, h2⟩ := hns n hn
      show (decide (1 ≤ n) && decide (n ≤ 3)) = true
      rw [decide_eq_true h1, decide_eq_true h2]
      rfl
    rw [e3]
    refine ⟨_, rfl, iteF ?_⟩
    -- the set, sorted
    have s12 := s1.trans s2
    refine ⟨_, rfl, a, rfl, ⟨_, s12.seq hs⟩, fun D2 nD2 => ?_⟩
    have hlen : (ns.map V.int).length = ns.length := List.length_map _
    refine sci_lst (w := w) (K := K) (xs := ns.map V.int) (fun i H3 => Same H2 H3 ∧ ∃ S n, H3 D2 = some (SetO w D2 S n) ∧ n ≤ i ∧ ∀ k : Int, S k = true ↔ k ∈ ns.take i) ?_ (fun i H3 hi p => ?_) (fun i x H3 hx p => ?_) (fun H3 p => ?_)
    · exact ⟨same_upd nD2, _, 0, upd_same, Nat.le_refl _, fun k => by simp⟩
    · exact p.1.seq (s12.seq hs)
    · obtain ⟨s3, S, n, e4, hn, hS⟩ := p
      rw [List.getElem?_map] at hx
      cases hc : ns[i]? with
      | none => rw [hc] at hx; cases hx
      | some c =>
        rw [hc] at hx
        cases hx
        have hi : i < ns.length := (List.getElem?_eq_some_iff.mp hc).1
        refine ⟨wipe_one _ 1 _, ?_⟩
        dsimp only [tYes]
        rw [if_pos rfl]
        refine ⟨_, rfl, _, ⟨c, S, n, rfl, e4, by show n + 1 < 4096; omega, rfl⟩, fun b o e => ?_, _, _, upd_same, by split <;> omega, fun k => ?_⟩
        · rw [upd_ne (ne_of_none e nD2)]
          exact s3 _ _ e
        · rw [Bool.or_eq_true, hS k, decide_eq_true_iff, List.take_add_one, hc]
          simp
    · obtain ⟨s3, S, n, e4, hn, hS⟩ := p
      rw [hlen] at hn hS
      rw [List.take_length] at hS
      refine ⟨D2, S, n, rfl, e4, by omega, fun ns' p pw mem _ np => ?_⟩
      exact hq _ p ns' ((s12.trans s3).trans (same_upd np)) upd_same pw (fun k => (mem k).trans (hS k))
end
end K23
set_option maxHeartbeats 1000000
namespace K23
open PySem PySem.Spec PyProof.Rows L2 KSup NdefX StX
section
variable {P : Program} {w : World} {K : PySem.W.Frag} {mg : Str → Option Value} {base : Heap} {f g g2 : Addr} {fd gd gd2 : FuncData}
def spNeedBars (K : PySem.W.Frag) : Sp := fun vs H Q _ => ∃ (c wn m : Int) (a : Addr) (ns : List Int), vs = [.int c, .ref a, .int wn, .int m] ∧ (1 ≤ c ∧ c ≤ 12) ∧ (1 ≤ wn ∧ wn ≤ 12) ∧ (0 ≤ m ∧ m ≤ 12) ∧ SqL K H a (ns.map V.int) ∧ 1 ≤ ns.length ∧ ns.length ≤ 12 ∧ (∀ n ∈ ns, 1 ≤ n ∧ n ≤ 3) ∧
  ∀ (H' : Hp) (p : Addr) (ns' : List Int), Same H H' → H' p = some (.lst (ns'.map V.int)) → ns'.Pairwise (· < ·) → (∀ k, k ∈ ns' ↔ k ∈ ns) → Q (.ref p) H'
theorem inI_t {i l m : Int} (h : l ≤ i ∧ i ≤ m) : inI (.int i) l m = true := by
  show (decide (l ≤ i) && decide (i ≤ m)) = true
  rw [decide_eq_true h.1, decide_eq_true h.2]
  rfl
theorem ok_needBars (F : FnP K "need_bars" sNeedBars f fd) (co : Co mg) (G : FnOk P w K mg base CX0 3 g gd ["value"] (spNeedSizes K)) (kg : PySem.W.keepIn K (.ref g) = true) (bg : Binds K gd ["value"] []) (gm : mg "need_sizes" = some (.ref g))
    (G2 : FnOk P w K mg base CX0 2 g2 gd2 ["value", "least", "most"] (spIsWithin K)) (kg2 : PySem.W.keepIn K (.ref g2) = true) (bg2 : Binds K gd2 ["value", "least", "most"] []) (gm2 : mg "is_within" = some (.ref g2)) :
    FnOk P w K mg base CX0 4 f fd ["cells", "sizes", "wanted", "most"] (spNeedBars K) := by
  obtain ⟨tb, hmb⟩ := co.blocks
  obtain ⟨tc, hmc⟩ := co.cells
  refine F.ok scNeedBars (fun vs H Q E h => ?_) (fun cdv A outer s H vs Q E hr h => ?_)
  · obtain ⟨c, wn, m, a, ns, rfl, _⟩ := h
    rfl
  · obtain ⟨c, wn, m, a, ns, rfl, hc, hw, hm, hs, hl1, hl2, hns, hq⟩ := h
    have r2 : Room 2 (A.deeper (envOfC _ _ s.heap.objs.size f cdv)) := hr.mono (by omega)
    refine ⟨_, PSs.nox (pss_cons (ps_if (pt_not (pt_val (pe_call G2 r2 (by rfl) gm2 kg2 bg2 .nil pass0 (pa_cons (pv 0) (pa_cons pe_int (pa_cons (pe_glob (v := .int 12) (by rfl) hmc ⟨tc, rfl⟩) pa_nil)))))) pss_never pss_nil)
      (pss_cons (ps_set (i := 4) scNeedBars.nd rfl (Or.inl rfl) (pe_call G hr (by rfl) gm kg bg .nil pass0 (pa_cons (pv 1) pa_nil)))
      (pss_cons (ps_if (pt_not (pt_val (pe_call G2 r2 (by rfl) gm2 kg2 bg2 .nil pass0 (pa_cons (pv 2) (pa_cons pe_int (pa_cons (pe_glob (v := .int 12) (by rfl) hmc ⟨tc, rfl⟩) pa_nil)))))) pss_never pss_nil)
      (pss_cons (ps_if (pt_not (pt_val (pe_call G2 r2 (by rfl) gm2 kg2 bg2 .nil pass0 (pa_cons (pv 3) (pa_cons pe_int (pa_cons (pe_glob (v := .int 12) (by rfl) hmb ⟨tb, rfl⟩) pa_nil)))))) pss_never pss_nil)
      (pss_one (ps_ret (pv 4))))))), ?_⟩
    refine ⟨_, rfl, _, _, _, _, rfl, .int c, _, rfl, ?_⟩
    rw [inI_t hc]
    refine iteF ⟨_, rfl, a, ns, rfl, hs, hl1, hl2, hns, fun H' p ns' s1 hp pw mem => ?_⟩
    refine ⟨_, rfl, _, _, _, _, rfl, .int wn, _, rfl, ?_⟩
    rw [inI_t hw]
    refine iteF ⟨_, rfl, _, _, _, _, rfl, .int m, _, rfl, ?_⟩
    rw [inI_t hm]
    exact iteF ⟨_, rfl, hq H' p ns' s1 hp pw mem⟩
end
end K23
namespace K23
open PySem PySem.W PySem.Calls PyProof.Rows
/-! ### rows of blocks, their order -/
abbrev Blk := Int × Int
abbrev Row := Int × List Blk
def encB (b : Blk) : PyData := .tuple [.int b.1, .int b.2]
def encBs (bs : List Blk) : PyData := .tuple (bs.map encB)
def encR (r : Row) : PyData := .tuple [.int r.1, encBs r.2]
def ltL : List Int → List Int → Bool
  | _, [] => false
  | [], _ :: _ => true
  | a :: as, b :: bs => if a < b then true else if b < a then false else ltL as bs
def flatB : List Blk → List Int
  | [] => []
  | b :: bs => b.1 :: b.2 :: flatB bs
def flat (r : Row) : List Int := r.1 :: flatB r.2
def ltR (r t : Row) : Bool := ltL (flat r) (flat t)
theorem ltL_irr : ∀ l, ltL l l = false
  | [] => rfl
  | a :: l => by
    rw [ltL, if_neg (Int.lt_irrefl a), if_neg (Int.lt_irrefl a), ltL_irr l]
theorem ltL_cons {a b : Int} {as bs : List Int} : ltL (a :: as) (b :: bs) = true ↔ a < b ∨ (a = b ∧ ltL as bs = true) := by
  rw [ltL]
  split
  · rename_i h
    exact ⟨fun _ => .inl h, fun _ => rfl⟩
  · split
    · rename_i h1 h2
      exact ⟨(fun z => by cases z), (fun z => by rcases z with z | ⟨z, _⟩ <;> omega)⟩
    · rename_i h1 h2
      have e : a = b := by omega
      exact ⟨fun z => .inr ⟨e, z⟩, fun z => by
        rcases z with z | ⟨_, z⟩
        · omega
        · exact z⟩
theorem ltL_trans : ∀ {a b c : List Int}, ltL a b = true → ltL b c = true → ltL a c = true
  | a, [], c, h, _ => by cases a <;> cases h
  | a, b, [], _, h => by cases b <;> cases h
  | [], _ :: _, _ :: _, _, _ => rfl
  | x :: a, y :: b, z :: c, h1, h2 => by
    rw [ltL_cons] at *
    rcases h1 with h1 | ⟨h1, h1'⟩
    · rcases h2 with h2 | ⟨h2, h2'⟩
      · exact .inl (by omega)
      · exact .inl (by omega)
    · rcases h2 with h2 | ⟨h2, h2'⟩
      · exact .inl (by omega)
      · exact .inr ⟨by omega, ltL_trans h1' h2'⟩
theorem ltL_tot : ∀ a b : List Int, ltL a b = true ∨ a = b ∨ ltL b a = true
  | [], [] => .inr (.inl rfl)
  | [], _ :: _ => .inl rfl
  | _ :: _, [] => .inr (.inr rfl)
  | x :: a, y :: b => by
    simp only [ltL_cons]
    rcases Int.lt_trichotomy x y with h | h | h
    · exact .inl (.inl h)
    · rcases ltL_tot a b with q | q | q
      · exact .inl (.inr ⟨h, q⟩)
      · exact .inr (.inl (by rw [h, q]))
      · exact .inr (.inr (.inr ⟨h.symm, q⟩))
    · exact .inr (.inr (.inl h))
theorem ltL_snoc : ∀ {a b : List Int} (c : List Int), a.length = b.length → ltL a b = true → ltL (a ++ c) (b ++ c) = true
  | [], [], _, _, h => by cases h
  | [], _ :: _, _, h, _ => by cases h
  | _ :: _, [], _, h, _ => by cases h
  | x :: a, y :: b, c, hl, h => by
    rw [List.cons_append, List.cons_append]
    rw [ltL_cons] at *
    rcases h with h | ⟨h, h'⟩
    · exact .inl h
    · exact .inr ⟨h, ltL_snoc c (by simpa using hl) h'⟩
theorem flatB_inj : ∀ {a b : List Blk}, flatB a = flatB b → a = b
  | [], [], _ => rfl
  | [], _ :: _, h => by simp [flatB] at h
  | _ :: _, [], h => by simp [flatB] at h
  | (x, x') :: a, (y, y') :: b, h => by
    simp only [flatB, List.cons.injEq] at h
    obtain ⟨h1, h2, h3⟩ := h
    rw [h1, h2, flatB_inj h3]
theorem flat_inj {r t : Row} (h : flat r = flat t) : r = t := by
  obtain ⟨a, b⟩ := r
  obtain ⟨c, d⟩ := t
  simp only [flat, List.cons.injEq] at h
  rw [h.1, flatB_inj h.2]
theorem flatB_snoc : ∀ (bs : List Blk) (b : Blk), flatB (bs ++ [b]) = flatB bs ++ [b.1, b.2]
  | [], b => rfl
  | c :: bs, b => by
    show c.1 :: c.2 :: flatB (bs ++ [b]) = _
    rw [flatB_snoc bs b]
    rfl
theorem flatB_len : ∀ bs : List Blk, (flatB bs).length = 2 * bs.length
  | [] => rfl
  | b :: bs => by
    show (flatB bs).length + 1 + 1 = 2 * (bs.length + 1)
    rw [flatB_len bs]
    omega
theorem ltR_irr (r : Row) : ltR r r = false := ltL_irr _
theorem ltR_trans {a b c : Row} (h1 : ltR a b = true) (h2 : ltR b c = true) : ltR a c = true := ltL_trans h1 h2
theorem ltR_tot (a b : Row) : ltR a b = true ∨ a = b ∨ ltR b a = true := by
  rcases ltL_tot (flat a) (flat b) with h | h | h
  · exact .inl h
  · exact .inr (.inl (flat_inj h))
  · exact .inr (.inr h)
/-- a row with a block behind -/
def addR (r : Row) (b : Blk) : Row := (r.1 + b.2, r.2 ++ [b])
theorem ltR_add {r t : Row} (b : Blk) (hl : r.2.length = t.2.length) (h : ltR r t = true) : ltR (addR r b) (addR t b) = true := by
  unfold ltR flat at h
  unfold ltR flat addR
  dsimp only
  rw [flatB_snoc, flatB_snoc]
  rw [ltL_cons] at *
  rcases h with h | ⟨h, h'⟩
  · exact .inl (by omega)
  · exact .inr ⟨by omega, ltL_snoc _ (by rw [flatB_len, flatB_len, hl]) h'⟩
/-- the least of a set of rows -/
def IsMin (A : Row → Prop) (r : Row) : Prop := A r ∧ ∀ t, A t → ltR t r = false
theorem IsMin.uniq {A : Row → Prop} {r t : Row} (h : IsMin A r) (g : IsMin A t) : r = t := by
  rcases ltR_tot r t with q | q | q
  · rw [g.2 r h.1] at q
    cases q
  · exact q
  · rw [h.2 t g.1] at q
    cases q
theorem IsMin.congr {A B : Row → Prop} {r : Row} (h : IsMin A r) (e : ∀ t, A t ↔ B t) : IsMin B r := ⟨(e r).mp h.1, fun t ht => h.2 t ((e t).mpr ht)⟩
/-- the lesser of two -/
theorem IsMin.or_lt {A B : Row → Prop} {r t : Row} (h : IsMin A r) (g : IsMin B t) (q : ltR t r = true) : IsMin (fun x => A x ∨ B x) t := by
  refine ⟨.inr g.1, fun x hx => ?_⟩
  rcases hx with hx | hx
  · cases e : ltR x t with
    | false => rfl
    | true =>
      have := h.2 x hx
      rw [ltR_trans e q] at this
      cases this
  · exact g.2 x hx
theorem IsMin.or_ge {A B : Row → Prop} {r t : Row} (h : IsMin A r) (g : IsMin B t) (q : ltR t r = false) : IsMin (fun x => A x ∨ B x) r := by
  refine ⟨.inl h.1, fun x hx => ?_⟩
  rcases hx with hx | hx
  · exact h.2 x hx
  · cases e : ltR x r with
    | false => rfl
    | true =>
      rcases ltR_tot t r with z | z | z
      · rw [z] at q
        cases q
      · subst z
        rw [g.2 x hx] at e
        cases e
      · have := g.2 x hx
        rw [ltR_trans e z] at this
        cases this
theorem IsMin.or_none {A B : Row → Prop} {t : Row} (h : ∀ x, ¬ A x) (g : IsMin B t) : IsMin (fun x => A x ∨ B x) t :=
  g.congr fun x => ⟨.inr, fun z => z.elim (fun z => absurd z (h x)) id⟩
/-! ### the order of the data -/
theorem eqv_encB (b c : Blk) : PyData.eqv (encB b) (encB c) = decide (b = c) := by
  obtain ⟨x, y⟩ := b
  obtain ⟨z, u⟩ := c
  simp only [encB, PyData.eqv, PyData.eqvAll, Bool.and_true]
  by_cases h1 : x = z <;> by_cases h2 : y = u <;> simp [h1, h2]
theorem alike_encB (b c : Blk) : alike (encB b) (encB c) = true := by simp [encB, alike, alikeAll]
theorem alike_encBs : ∀ bs cs : List Blk, alikeAll (bs.map encB) (cs.map encB) = true
  | [], _ => by simp [alikeAll]
  | b :: bs, [] => by simp [alikeAll]
  | b :: bs, c :: cs => by
    rw [List.map_cons, List.map_cons, alikeAll, alike_encB, alike_encBs bs cs]
    rfl
theorem alike_encR (r t : Row) : alike (encR r) (encR t) = true := by
  simp only [encR, encBs, alike, alikeAll, alike_encBs, Bool.and_true]
theorem eqvAll_encBs : ∀ bs cs : List Blk, PyData.eqvAll (bs.map encB) (cs.map encB) = decide (bs = cs)
  | [], [] => by simp [PyData.eqvAll]
  | [], c :: cs => by simp [PyData.eqvAll]
  | b :: bs, [] => by simp [PyData.eqvAll]
  | b :: bs, c :: cs => by
    rw [List.map_cons, List.map_cons, PyData.eqvAll, eqv_encB, eqvAll_encBs bs cs]
    by_cases h1 : b = c <;> by_cases h2 : bs = cs <;> simp [h1, h2]
theorem rowLt_bs : ∀ bs cs : List Blk, rowLt (bs.map encB) (cs.map encB) = ltL (flatB bs) (flatB cs)
  | [], [] => lex_irrefl _
  | [], c :: cs => by
    show rowLt [] (encB c :: cs.map encB) = true
    unfold rowLt
    rw [toks_all_cons]
    simp only [keyToksAll]
    rw [lex_diff (O := itemOrd) (by simp)]
    rfl
  | b :: bs, [] => by
    show rowLt (encB b :: bs.map encB) [] = false
    unfold rowLt
    rw [toks_all_cons]
    simp only [keyToksAll]
    rw [lex_diff (O := itemOrd) (by simp)]
    rfl
  | b :: bs, c :: cs => by
    show PyProof.Rows.lexLt itemOrd (keyToksAll (encB b :: bs.map encB)) (keyToksAll (encB c :: cs.map encB)) = _
    rw [dataLt_cons (alike_encB b c), eqv_encB]
    have ih := rowLt_bs bs cs
    unfold rowLt at ih
    rw [ih]
    obtain ⟨x, y⟩ := b
    obtain ⟨z, u⟩ := c
    show _ = ltL (x :: y :: flatB bs) (z :: u :: flatB cs)
    have e : dataLt (encB (x, y)) (encB (z, u)) = decide (x < z ∨ (x = z ∧ y < u)) := dataLt_ii x y z u
    rw [e]
    by_cases h : ((x, y) : Blk) = (z, u)
    · injection h with h1 h2
      subst h1 h2
      simp [ltL]
    · rw [decide_eq_false h]
      simp only [Bool.false_eq_true, if_false]
      have h' : ¬ (x = z ∧ y = u) := fun q => h (by rw [q.1, q.2])
      rw [Bool.eq_iff_iff, decide_eq_true_iff, ltL_cons, ltL_cons]
      constructor
      · rintro (q | ⟨q1, q2⟩)
        · exact .inl q
        · exact .inr ⟨q1, .inl q2⟩
      · rintro (q | ⟨q1, q2 | ⟨q2, _⟩⟩)
        · exact .inl q
        · exact .inr ⟨q1, q2⟩
        · exact absurd ⟨q1, q2⟩ h'
theorem lt_encR (r t : Row) : dataLt (encR r) (encR t) = ltR r t := by
  obtain ⟨n, bs⟩ := r
  obtain ⟨m, cs⟩ := t
  have ha : alike (encBs bs) (encBs cs) = true := by simp only [encBs, alike, alike_encBs]
  have hn : alike (.int n) (.int m) = true := by simp [alike]
  show dataLt (.tuple [.int n, encBs bs]) (.tuple [.int m, encBs cs]) = ltL (n :: flatB bs) (m :: flatB cs)
  rw [dataLt_pair hn ha]
  have e1 : PyData.eqv (.int n) (.int m) = decide (n = m) := by
    simp only [PyData.eqv]
    by_cases h : n = m <;> simp [h]
  have e2 : PyData.eqv (encBs bs) (encBs cs) = decide (bs = cs) := by
    simp only [encBs, PyData.eqv, eqvAll_encBs]
  have e3 : dataLt (encBs bs) (encBs cs) = ltL (flatB bs) (flatB cs) := rowLt_bs bs cs
  rw [e1, e2, e3, dataLt_int]
  by_cases h : n = m
  · subst h
    simp only [decide_true, if_true]
    by_cases g : bs = cs
    · subst g
      simp [ltL, ltL_irr]
    · simp [g, ltL]
  · simp only [h, decide_false, Bool.false_eq_true, if_false]
    rw [Bool.eq_iff_iff, ltL_cons, decide_eq_true_iff]
    exact ⟨fun q => .inl q, fun q => q.elim id fun q => absurd q.1 h⟩
theorem depth_encBs : ∀ bs : List Blk, PyData.depthAll (bs.map encB) ≤ 1
  | [] => by simp [PyData.depthAll]
  | b :: bs => by
    have := depth_encBs bs
    simp only [List.map_cons, PyData.depthAll, encB, PyData.depth]
    omega
theorem depth_encR (r : Row) : (encR r).depth ≤ 3 := by
  have := depth_encBs r.2
  simp only [encR, encBs, PyData.depth, PyData.depthAll]
  omega
theorem encR_ne (r : Row) : encR r ≠ .none := fun h => by cases h
theorem encB_inj {b c : Blk} (h : encB b = encB c) : b = c := by
  obtain ⟨x, y⟩ := b
  obtain ⟨z, u⟩ := c
  simp [encB] at h
  rw [h.1, h.2]
theorem encBs_inj : ∀ {bs cs : List Blk}, bs.map encB = cs.map encB → bs = cs
  | [], [], _ => rfl
  | [], _ :: _, h => by simp at h
  | _ :: _, [], h => by simp at h
  | b :: bs, c :: cs, h => by
    rw [List.map_cons, List.map_cons] at h
    injection h with h1 h2
    rw [encB_inj h1, encBs_inj h2]
theorem encR_inj {r t : Row} (h : encR r = encR t) : r = t := by
  obtain ⟨n, bs⟩ := r
  obtain ⟨m, cs⟩ := t
  simp only [encR, encBs, PyData.tuple.injEq, List.cons.injEq, PyData.int.injEq, and_true] at h
  rw [h.1, encBs_inj h.2]
end K23
namespace K23
open PySem PySem.W PySem.Calls PyProof.Rows
/-! ### chains of blocks -/
inductive Ch (c w : Int) (S : Int → Prop) : Nat → Int → Row → Prop
  | nil : Ch c w S 0 0 (0, [])
  | snoc {k : Nat} {e : Int} {r : Row} {s z : Int} : Ch c w S k e r → e ≤ s → s < e + w → S z → s + z ≤ c → Ch c w S (k + 1) (s + z) (addR r (s, z))
theorem Ch.len {c w : Int} {S : Int → Prop} {k : Nat} {e : Int} {r : Row} (h : Ch c w S k e r) : r.2.length = k := by
  induction h with
  | nil => rfl
  | snoc h _ _ _ _ ih => simp [addR, ih]
theorem Ch.bnd {c w : Int} {S : Int → Prop} (hS : ∀ z, S z → 1 ≤ z) (hc : 0 ≤ c) {k : Nat} {e : Int} {r : Row} (h : Ch c w S k e r) : 0 ≤ e ∧ e ≤ c := by
  induction h with
  | nil => exact ⟨Int.le_refl _, hc⟩
  | snoc h h1 h2 h3 h4 ih => have := hS _ h3; omega
def tot : List Blk → Int
  | [] => 0
  | b :: bs => b.2 + tot bs
theorem tot_snoc : ∀ (bs : List Blk) (b : Blk), tot (bs ++ [b]) = tot bs + b.2
  | [], b => by simp [tot]
  | c :: bs, b => by
    show c.2 + tot (bs ++ [b]) = c.2 + tot bs + b.2
    rw [tot_snoc bs b]
    omega
theorem Ch.tot {c w : Int} {S : Int → Prop} {k : Nat} {e : Int} {r : Row} (h : Ch c w S k e r) : r.1 = tot r.2 := by
  induction h with
  | nil => rfl
  | snoc h _ _ _ _ ih => simp [addR, tot_snoc, ih]
theorem Ch.mono {c w : Int} {S S' : Int → Prop} (hS : ∀ z, S z → S' z) {k : Nat} {e : Int} {r : Row} (h : Ch c w S k e r) : Ch c w S' k e r := by
  induction h with
  | nil => exact .nil
  | snoc h h1 h2 h3 h4 ih => exact .snoc ih h1 h2 (hS _ h3) h4
/-- the best rows by their ends -/
def MinMap (C : Int → Row → Prop) (M : Int → Option Row) : Prop := ∀ e, match M e with
  | none => ∀ r, ¬ C e r
  | some r => IsMin (C e) r
def upM (M : Int → Option Row) (e : Int) (r : Row) : Int → Option Row := fun j => if j = e then some r else M j
theorem MinMap.get {C : Int → Row → Prop} {M : Int → Option Row} (h : MinMap C M) {e : Int} {r : Row} (g : M e = some r) : IsMin (C e) r := by
  have := h e
  rw [g] at this
  exact this
theorem MinMap.no {C : Int → Row → Prop} {M : Int → Option Row} (h : MinMap C M) {e : Int} (g : M e = none) : ∀ r, ¬ C e r := by
  have := h e
  rw [g] at this
  exact this
theorem MinMap.has {C : Int → Row → Prop} {M : Int → Option Row} (h : MinMap C M) {e : Int} {r : Row} (g : C e r) : ∃ t, M e = some t := by
  cases q : M e with
  | none => exact absurd g (h.no q r)
  | some t => exact ⟨t, rfl⟩
theorem minMap_of {C : Int → Row → Prop} {M : Int → Option Row} (h1 : ∀ e r, M e = some r → IsMin (C e) r) (h2 : ∀ e, M e = none → ∀ r, ¬ C e r) : MinMap C M := fun e => by
  cases q : M e with
  | none => exact h2 e q
  | some r => exact h1 e r q
theorem MinMap.congr {C D : Int → Row → Prop} {M : Int → Option Row} (h : MinMap C M) (g : ∀ e r, C e r ↔ D e r) : MinMap D M :=
  minMap_of (fun e r q => (h.get q).congr (g e)) fun e q r d => h.no q r ((g e r).mpr d)
/-- one more set of candidates at one end: its least goes in where it is better -/
theorem MinMap.put {C : Int → Row → Prop} {M : Int → Option Row} (h : MinMap C M) {e0 : Int} {B : Row → Prop} {t : Row} (g : IsMin B t) (q : ∀ r, M e0 = Option.some r → ltR t r = true) : MinMap (fun e r => C e r ∨ (e = e0 ∧ B r)) (upM M e0 t) := by
  refine minMap_of (fun e r hr => ?_) (fun e hr r hc => ?_)
  · unfold upM at hr
    split at hr
    · rename_i he
      subst he
      cases hr
      cases m : M e with
      | none => exact (IsMin.or_none (h.no m) g).congr fun x => ⟨fun z => z.elim .inl fun z => .inr ⟨rfl, z⟩, fun z => z.elim .inl fun z => .inr z.2⟩
      | some r0 => exact (IsMin.or_lt (h.get m) g (q r0 m)).congr fun x => ⟨fun z => z.elim .inl fun z => .inr ⟨rfl, z⟩, fun z => z.elim .inl fun z => .inr z.2⟩
    · rename_i he
      exact (h.get hr).congr fun x => ⟨.inl, fun z => z.elim id fun z => absurd z.1 he⟩
  · unfold upM at hr
    split at hr
    · cases hr
    · rename_i he
      rcases hc with hc | hc
      · exact h.no hr r hc
      · exact he hc.1
theorem MinMap.keep {C : Int → Row → Prop} {M : Int → Option Row} (h : MinMap C M) {e0 : Int} {B : Row → Prop} {t r : Row} (g : IsMin B t) (m : M e0 = Option.some r) (q : ltR t r = false) : MinMap (fun e r => C e r ∨ (e = e0 ∧ B r)) M := by
  refine minMap_of (fun e x hx => ?_) (fun e hx x hc => ?_)
  · by_cases he : e = e0
    · subst he
      rw [m] at hx
      cases hx
      exact (IsMin.or_ge (h.get m) g q).congr fun x => ⟨fun z => z.elim .inl fun z => .inr ⟨rfl, z⟩, fun z => z.elim .inl fun z => .inr z.2⟩
    · exact (h.get hx).congr fun x => ⟨.inl, fun z => z.elim id fun z => absurd z.1 he⟩
  · rcases hc with hc | hc
    · exact h.no hx x hc
    · rw [hc.1, m] at hx
      cases hx
/-- all rows of a set with one block behind -/
theorem IsMin.add {A : Row → Prop} {r : Row} {n : Nat} (h : IsMin A r) (b : Blk) (hn : ∀ t, A t → t.2.length = n) : IsMin (fun x => ∃ t, A t ∧ x = addR t b) (addR r b) := by
  refine ⟨⟨r, h.1, rfl⟩, ?_⟩
  rintro x ⟨t, ht, rfl⟩
  rcases ltR_tot r t with q | q | q
  · have := ltR_add b (by rw [hn r h.1, hn t ht]) q
    cases e : ltR (addR t b) (addR r b) with
    | false => rfl
    | true =>
      have z := ltR_trans e this
      rw [ltR_irr] at z
      cases z
  · rw [q, ltR_irr]
  · rw [h.2 t ht] at q
    cases q
end K23
set_option maxHeartbeats 1000000
namespace K23
open PySem PySem.Spec PyProof.Rows L2 KSup NdefX StX
/-! ### a dict from ends to rows -/
theorem valV_mem {κ : Type} [DecidableEq κ] : ∀ {kvs : List (κ × V)} {k : κ} {v : V}, (kvs.map (·.1)).Nodup → (k, v) ∈ kvs → valV kvs k = some v
  | [], _, _, _, h => by cases h
  | p :: r, k, v, nd, h => by
    rw [List.map_cons, List.nodup_cons] at nd
    rcases List.mem_cons.mp h with h | h
    · subst h
      exact valV_pos rfl
    · rw [valV_neg (fun e => nd.1 (e ▸ List.mem_map.mpr ⟨(k, v), h, rfl⟩))]
      exact valV_mem nd.2 h
theorem mem_valV {κ : Type} [DecidableEq κ] : ∀ {kvs : List (κ × V)} {k : κ} {v : V}, valV kvs k = some v → (k, v) ∈ kvs
  | [], _, _, h => by cases h
  | p :: r, k, v, h => by
    by_cases e : p.1 = k
    · rw [valV_pos e] at h
      cases h
      subst e
      exact List.mem_cons_self
    · rw [valV_neg e] at h
      exact List.mem_cons_of_mem _ (mem_valV h)
theorem putK_keys {κ : Type} [DecidableEq κ] (kvs : List (κ × V)) (k : κ) (v : V) (nd : (kvs.map (·.1)).Nodup) : ((putK kvs k v).map (·.1)).Nodup := by
  unfold putK
  split
  · have e : (kvs.map fun kv => if kv.1 = k then (kv.1, v) else kv).map (·.1) = kvs.map (·.1) := by
      rw [List.map_map]
      refine List.map_congr_left fun p _ => ?_
      show (if p.1 = k then (p.1, v) else p).1 = p.1
      split <;> rfl
    rw [e]
    exact nd
  · rename_i h
    rw [List.map_append, List.nodup_append]
    refine ⟨nd, by simp, fun a ha b hb => ?_⟩
    simp at hb
    subst hb
    rintro rfl
    obtain ⟨p, hp, rfl⟩ := List.mem_map.mp ha
    exact h (List.any_eq_true.mpr ⟨p, hp, by simp⟩)
theorem mem_putK {κ : Type} [DecidableEq κ] {kvs : List (κ × V)} {k : κ} {v : V} {p : κ × V} (h : p ∈ putK kvs k v) : p = (k, v) ∨ (p ∈ kvs ∧ p.1 ≠ k) := by
  unfold putK at h
  split at h
  · obtain ⟨q, hq, rfl⟩ := List.mem_map.mp h
    by_cases e : q.1 = k
    · rw [if_pos e, e]
      exact .inl rfl
    · rw [if_neg e]
      exact .inr ⟨hq, e⟩
  · rename_i hn
    rcases List.mem_append.mp h with h | h
    · refine .inr ⟨h, fun e => hn (List.any_eq_true.mpr ⟨p, h, by simpa using e⟩)⟩
    · simp at h
      exact .inl h
theorem len_sub {α : Type} [DecidableEq α] : ∀ {l m : List α}, l.Nodup → (∀ x ∈ l, x ∈ m) → l.length ≤ m.length
  | [], _, _, _ => Nat.zero_le _
  | x :: l, m, nd, h => by
    rw [List.nodup_cons] at nd
    have hx := h x List.mem_cons_self
    have ih := len_sub (l := l) (m := m.erase x) nd.2 fun y hy => (List.mem_erase_of_ne (fun e : y = x => nd.1 (by rw [← e]; exact hy))).mpr (h y (List.mem_cons_of_mem _ hy))
    rw [List.length_erase_of_mem hx] at ih
    have := List.length_pos_of_mem hx
    rw [List.length_cons]
    omega
structure DI (K : PySem.W.Frag) (H : Hp) (kvs : List (Key × V)) (M : Int → Option Row) : Prop where
  nd : (kvs.map (·.1)).Nodup
  keys : ∀ p ∈ kvs, ∃ e r, p.1 = .inl e ∧ (0 ≤ e ∧ e ≤ 12) ∧ M e = some r ∧ Dp K H p.2 (encR r)
  has : ∀ e r, M e = some r → ∃ v, (Sum.inl e, v) ∈ kvs
section
variable {K : PySem.W.Frag} {H H' : Hp} {kvs : List (Key × V)} {M : Int → Option Row}
theorem DI.get (d : DI K H kvs M) {e : Int} {r : Row} (h : M e = some r) : ∃ v, valV kvs (.inl e) = some v ∧ Dp K H v (encR r) := by
  obtain ⟨v, hv⟩ := d.has e r h
  obtain ⟨e', r', h1, _, h2, h3⟩ := d.keys _ hv
  injection h1 with h1
  subst h1
  rw [h] at h2
  cases h2
  exact ⟨v, valV_mem d.nd hv, h3⟩
theorem DI.no (d : DI K H kvs M) {e : Int} (h : M e = none) : valV kvs (.inl e) = none := by
  cases q : valV kvs (.inl e) with
  | none => rfl
  | some v =>
    obtain ⟨e', r', h1, _, h2, _⟩ := d.keys _ (mem_valV q)
    injection h1 with h1
    subst h1
    rw [h] at h2
    cases h2
theorem DI.len (d : DI K H kvs M) : kvs.length ≤ 13 := by
  have h := len_sub (l := kvs.map (·.1)) (m := (List.range 13).map fun i : Nat => (Sum.inl (Int.ofNat i) : Key)) d.nd fun x hx => by
    obtain ⟨p, hp, rfl⟩ := List.mem_map.mp hx
    obtain ⟨e, r, h1, ⟨h2, h3⟩, _⟩ := d.keys p hp
    rw [h1]
    exact List.mem_map.mpr ⟨e.toNat, List.mem_range.mpr (by omega), congrArg Sum.inl (show (e.toNat : Int) = e by omega)⟩
  simpa using h
theorem DI.mono (d : DI K H kvs M) (h : ∀ v x, Dp K H v x → Dp K H' v x) : DI K H' kvs M := ⟨d.nd, fun p hp => by
  obtain ⟨e, r, h1, h2, h3, h4⟩ := d.keys p hp
  exact ⟨e, r, h1, h2, h3, h _ _ h4⟩, d.has⟩
theorem DI.put (d : DI K H kvs M) {e : Int} {r : Row} {v : V} (he : 0 ≤ e ∧ e ≤ 12) (hv : Dp K H v (encR r)) : DI K H (putK kvs (.inl e) v) (upM M e r) := by
  refine ⟨putK_keys _ _ _ d.nd, fun p hp => ?_, fun e' r' h => ?_⟩
  · rcases mem_putK hp with rfl | ⟨h1, h2⟩
    · exact ⟨e, r, rfl, he, if_pos rfl, hv⟩
    · obtain ⟨e', r', q1, q2, q3, q4⟩ := d.keys p h1
      refine ⟨e', r', q1, q2, ?_, q4⟩
      unfold upM
      rw [if_neg (fun z => h2 (by rw [q1, z]))]
      exact q3
  · unfold upM at h
    have hp : valV (putK kvs (.inl e) v) (.inl e') = if (Sum.inl e' : Key) = .inl e then some v else valV kvs (.inl e') := valV_put _ _ _ _
    by_cases q : e' = e
    · subst q
      rw [if_pos rfl] at hp
      exact ⟨v, mem_valV hp⟩
    · rw [if_neg q] at h
      obtain ⟨u, hu, _⟩ := d.get h
      rw [if_neg (fun z => q (by injection z))] at hp
      rw [hu] at hp
      exact ⟨u, mem_valV hp⟩
theorem DI.nil : DI K H [] (fun _ => none) := ⟨List.nodup_nil, fun p hp => absurd hp (by simp), fun e r h => nomatch h⟩
end
end K23
set_option maxHeartbeats 1000000
namespace K23
open PySem PySem.Spec PyProof.Rows L2 KSup NdefX StX
/-! ### candidates of one turn -/
def Cand (c w : Int) (S : Int → Prop) (k : Nat) (T : Int → Int → Int → Prop) (e' : Int) (r' : Row) : Prop := ∃ e s z r, T e s z ∧ s + z ≤ c ∧ s + z = e' ∧ Ch c w S k e r ∧ r' = addR r (s, z)
section
variable {c w : Int} {S : Int → Prop} {k : Nat} {T : Int → Int → Int → Prop} {M M0 : Int → Option Row} {e s z : Int} {r0 : Row}
theorem cand_congr {T' : Int → Int → Int → Prop} (h : MinMap (Cand c w S k T) M) (g : ∀ e s z, T e s z ↔ T' e s z) : MinMap (Cand c w S k T') M := h.congr fun e r =>
  ⟨fun ⟨e, s, z, r, h1, h2⟩ => ⟨e, s, z, r, (g e s z).mp h1, h2⟩, fun ⟨e, s, z, r, h1, h2⟩ => ⟨e, s, z, r, (g e s z).mpr h1, h2⟩⟩
def one (T : Int → Int → Int → Prop) (e s z : Int) : Int → Int → Int → Prop := fun e' s' z' => T e' s' z' ∨ (e' = e ∧ s' = s ∧ z' = z)
theorem cand_out (h : MinMap (Cand c w S k T) M) (hc : ¬ s + z ≤ c) : MinMap (Cand c w S k (one T e s z)) M := h.congr fun e' r' => by
  constructor
  · rintro ⟨e, s, z, r, h1, h2⟩
    exact ⟨e, s, z, r, .inl h1, h2⟩
  · rintro ⟨e, s, z, r, h1 | ⟨rfl, rfl, rfl⟩, h2, h3⟩
    · exact ⟨e, s, z, r, h1, h2, h3⟩
    · exact absurd h2 hc
theorem cand_or (hc : s + z ≤ c) (e' : Int) (r' : Row) : (Cand c w S k T e' r' ∨ (e' = s + z ∧ ∃ r, Ch c w S k e r ∧ r' = addR r (s, z))) ↔ Cand c w S k (one T e s z) e' r' := by
  constructor
  · rintro (⟨e, s, z, r, h1, h2⟩ | ⟨rfl, r, h1, h2⟩)
    · exact ⟨e, s, z, r, .inl h1, h2⟩
    · exact ⟨e, s, z, r, .inr ⟨rfl, rfl, rfl⟩, hc, rfl, h1, h2⟩
  · rintro ⟨e, s, z, r, h1 | ⟨rfl, rfl, rfl⟩, h2, h3, h4⟩
    · exact .inl ⟨e, s, z, r, h1, h2, h3, h4⟩
    · exact .inr ⟨h3.symm, r, h4⟩
theorem cand_put (h : MinMap (Cand c w S k T) M) (hc : s + z ≤ c) (m : IsMin (Ch c w S k e) r0) (q : ∀ r, M (s + z) = some r → ltR (addR r0 (s, z)) r = true) :
    MinMap (Cand c w S k (one T e s z)) (upM M (s + z) (addR r0 (s, z))) := (h.put (m.add (s, z) fun t ht => ht.len) q).congr (cand_or hc)
theorem cand_keep (h : MinMap (Cand c w S k T) M) (hc : s + z ≤ c) (m : IsMin (Ch c w S k e) r0) {r : Row} (g : M (s + z) = some r) (q : ltR (addR r0 (s, z)) r = false) :
    MinMap (Cand c w S k (one T e s z)) M := (h.keep (m.add (s, z) fun t ht => ht.len) g q).congr (cand_or hc)
theorem cand_all (h : MinMap (Cand c w S k T) M) (h0 : MinMap (Ch c w S k) M0) (hS : ∀ z, S z → 1 ≤ z) (hT : ∀ e s z, T e s z ↔ (∃ r, M0 e = some r) ∧ e ≤ s ∧ s < e + w ∧ s < c ∧ S z) : MinMap (Ch c w S (k + 1)) M := h.congr fun e' r' => by
  constructor
  · rintro ⟨e, s, z, r, h1, h2, rfl, h4, rfl⟩
    obtain ⟨_, q1, q2, _, q3⟩ := (hT e s z).mp h1
    exact .snoc h4 q1 q2 q3 h2
  · intro g
    cases g with
    | @snoc _ e r s z g1 g2 g3 g4 g5 =>
      refine ⟨e, s, z, r, (hT e s z).mpr ⟨h0.has g1, g2, g3, ?_, g4⟩, g5, rfl, g1, rfl⟩
      have := hS z g4
      omega
end
section
variable {P : Program} {w : World} {K : PySem.W.Frag} {mg : Str → Option Value} {base : Heap} {f g g2 : Addr} {fd gd gd2 : FuncData}
theorem room1 {k : Nat} {A : Around} (r : Room k A) : A.units + 1 < cLine := by have := r.un; omega
/-- a heap over H2 with the best rows of C in the dict at D -/
def HI (K : PySem.W.Frag) (H2 : Hp) (D : Addr) (C : Int → Row → Prop) (H : Hp) : Prop := But D H2 H ∧ ∃ kvs M, H D = some (.dK kvs) ∧ DI K H kvs M ∧ MinMap C M
theorem HI.congr {K : PySem.W.Frag} {H2 H : Hp} {D : Addr} {C C' : Int → Row → Prop} (h : HI K H2 D C H) (g : ∀ e r, C e r ↔ C' e r) : HI K H2 D C' H := by
  obtain ⟨b, kvs, M, h1, h2, h3⟩ := h
  exact ⟨b, kvs, M, h1, h2, h3.congr g⟩
theorem HI.same {K : PySem.W.Frag} {H2 H H' : Hp} {D : Addr} {C : Int → Row → Prop} (h : HI K H2 D C H) (s : Same H H') : HI K H2 D C H' := by
  obtain ⟨b, kvs, M, h1, h2, h3⟩ := h
  exact ⟨b.trans (sameBut s), kvs, M, s _ _ h1, h2.mono fun v x q => dp_same s q, h3⟩
theorem dp_encR {K : PySem.W.Frag} {H : Hp} {v : V} {r : Row} (h : Dp K H v (encR r)) : ∃ p q xs, v = .ref p ∧ SqT K H p [.int r.1, .ref q] ∧ SqT K H q xs ∧ DpAll K H xs (r.2.map encB) := by
  unfold encR at h
  cases h with
  | tup s a =>
    cases a with
    | cons h1 a =>
      cases a with
      | cons h2 a =>
        cases a
        cases h1
        unfold encBs at h2
        cases h2 with
        | tup s2 a2 => exact ⟨_, _, _, rfl, s, s2, a2⟩
theorem dp_addR {K : PySem.W.Frag} {H : Hp} {p1 p2 p3 : Addr} {xs : List V} {r : Row} {b : Blk} (h1 : SqT K H p1 [.int b.1, .int b.2]) (h2 : SqT K H p2 (xs ++ [.ref p1])) (h3 : SqT K H p3 [.int (r.1 + b.2), .ref p2]) (ha : DpAll K H xs (r.2.map encB)) :
    Dp K H (.ref p3) (encR (addR r b)) := by
  have hb : Dp K H (.ref p1) (encB b) := .tup h1 (.cons (.int _) (.cons (.int _) .nil))
  have h2' : Dp K H (.ref p2) (encBs (r.2 ++ [b])) := by
    unfold encBs
    rw [List.map_append]
    exact .tup h2 (dpAll_snoc ha hb)
  exact .tup h3 (.cons (.int _) (.cons h2' .nil))
theorem noSeq_frz {x : Addr} {od : Obj} {kvs : List (Key × V)} {H : Hp} (h : H x = some (.frz od (.dK kvs))) : NoSeq x H := fun xs => by
  rw [h]
  exact ⟨(fun e => nomatch e), (fun e => nomatch e), fun o => ⟨(fun e => nomatch e), (fun e => nomatch e)⟩⟩
def spLonger (K : PySem.W.Frag) : Sp := fun vs H Q _ => ∃ (dl a : Addr) (c wn : Int) (zs : List Int) (k : Nat) (kvs : List (Key × V)) (M : Int → Option Row), vs = [.ref dl, .int c, .ref a, .int wn] ∧ H dl = some (.dK kvs) ∧ DI K H kvs M ∧ SqL K H a (zs.map V.int) ∧
  (∀ z ∈ zs, 1 ≤ z ∧ z ≤ 3) ∧ (1 ≤ c ∧ c ≤ 12) ∧ (1 ≤ wn ∧ wn ≤ 12) ∧ k ≤ 12 ∧ MinMap (Ch c wn (· ∈ zs) k) M ∧
  ∀ (H' : Hp) (D : Addr) (kvs' : List (Key × V)) (M' : Int → Option Row), Same H H' → H D = none → H' D = some (.dK kvs') → DI K H' kvs' M' → MinMap (Ch c wn (· ∈ zs) (k + 1)) M' → Q (.ref D) H'
theorem ok_longer (F : FnP K "longer" sLonger f fd) (T : Bl mg) : FnOk P w K mg base CX0 1 f fd ["lines", "cells", "sizes", "wanted"] (spLonger K) := by
  refine F.ok scLonger (fun vs H Q E h => ?_) (fun cdv A outer s H vs Q E hr h => ?_)
  · obtain ⟨dl, a, c, wn, zs, k, kvs, M, rfl, _⟩ := h
    rfl
  · obtain ⟨dl, a, c, wn, zs, k, kvs, M, rfl, hl, hd, hs, hz, hc, hw, hk, hm, hq⟩ := h
    refine ⟨_, PSs.nox (pss_cons (ps_set (i := 4) scLonger.nd rfl (Or.inl rfl) pe_dnewK)
      (pss_cons (ps_lock (ps_for PassesOwn.never rfl (pi_items (pv 0)) (pg_tup (t := gCons (gName 5) (gCons (gTup K 2 (gCons (gName 6) (gCons (gName 7) gNil))) gNil)) (n := 2) rfl (pgs_cons (pg_name (i := 5) scLonger.nd rfl (Or.inl rfl)) (pgs_cons (pg_tup rfl (pgs_cons (pg_name (i := 6) scLonger.nd rfl (Or.inl rfl)) (pgs_cons (pg_name (i := 7) scLonger.nd rfl (Or.inl rfl)) pgs_nil))) pgs_nil)))
        (pss_one (ps_for PassesOwn.never rfl (pi_range2 (by rfl) T.range (pa_cons (pv 5) (pa_cons (pe_callB (call_min2 rfl) (by rfl) T.min (by decide +kernel) (pa_cons (pe_op op_add (pv 5) (pv 3)) (pa_cons (pv 1) pa_nil))) pa_nil))) (pg_name (i := 8) scLonger.nd rfl (Or.inl rfl))
          (pss_one (ps_for PassesOwn.never rfl (pi_list (pv 2)) (pg_name (i := 9) scLonger.nd rfl (Or.inl rfl))
            (pss_cons (ps_set (i := 10) scLonger.nd rfl (Or.inl rfl) (pe_tup (pa_cons (pe_op op_add (pv 6) (pv 9)) (pa_cons (pe_tup (pa_star (pv 7) (pa_cons (pe_tup (pa_cons (pv 8) (pa_cons (pv 9) pa_nil))) pa_nil))) pa_nil))))
            (pss_one (ps_if (PW.pt (pw_and (pt_cmpR op_le (pe_op op_add (pv 8) (pv 9)) (pv 1) (nomark _)) (pw_and1 (PW.pt (pw_or (pt_cmp (pc_dnotin (room1 hr) (pe_op op_add (pv 8) (pv 9)) (pv 4)) (by with_unfolding_all rfl))
                (pw_or1 (pt_cmpR (op_ltD hr.units) (pv 10) (pe_dget (room1 hr) (pv 4) (pe_op op_add (pv 8) (pv 9)) (fun _ _ => rfl)) (nomark _))))))))
              (pss_one (ps_dput (room1 hr) (pv 4) (pe_op op_add (pv 8) (pv 9)) (pv 10) rfl)) pss_nil)))))))))
      (pss_one (ps_ret (pv 4))))), ?_⟩
    intro D nD
    have hDl : dl ≠ D := ne_of_none hl nD
    have sD : Same H (upd H D (.dK [])) := same_upd nD
    refine ⟨dl, .dK kvs, sD _ _ hl, trivial, fun od => ?_⟩
    generalize hH2 : upd (upd H D (.dK [])) dl (.frz od (.dK kvs)) = H2
    have b12 : But dl (upd H D (.dK [])) H2 := by rw [← hH2]; exact but_upd
    have hD2 : H2 D = some (.dK []) := b12 _ _ (Ne.symm hDl) upd_same
    have hl2 : H2 dl = some (.frz od (.dK kvs)) := by rw [← hH2]; exact upd_same
    have toD : ∀ {H' : Hp}, But D H2 H' → ∀ {v : V} {x : PyData}, Dp K H v x → Dp K H' v x := by
      intro H' b v x q
      exact dp_but (noSeq_dK hD2) b (dp_but (noSeq_dK (sD _ _ hl)) b12 (dp_same sD q))
    have toL : ∀ {H' : Hp}, But D H2 H' → SqL K H' a (zs.map V.int) := fun b => sqL_but (noSeq_dK hD2) b (sqL_but (noSeq_dK (sD _ _ hl)) b12 (sD.seq hs))
    have toF : ∀ {H' : Hp}, But D H2 H' → H' dl = some (.frz od (.dK kvs)) := fun b => b _ _ hDl hl2
    refine ⟨_, rfl, dl, od, kvs, rfl, hl2, ?_⟩
    refine for_it walk_items (fun i σ H' => ∃ x5 x6 x7 x8 x9 x10, σ = [some (.ref dl), some (.int c), some (.ref a), some (.int wn), some (.ref D), x5, x6, x7, x8, x9, x10] ∧
      HI K H2 D (Cand c wn (· ∈ zs) k fun e s z => (∃ j v, j < i ∧ kvs[j]? = some (Sum.inl e, v)) ∧ e ≤ s ∧ s < e + wn ∧ s < c ∧ z ∈ zs) H') ?_ (fun i σ H' hi p => ?_) (fun i x σ H' H'' hi p y => ?_) (fun σ H' p => ?_)
    · exact ⟨_, _, _, _, _, _, rfl, But.refl _ _, [], _, hD2, .nil, minMap_of (fun e r h => nomatch h) fun e _ r ⟨e1, s1, z1, r1, ⟨⟨j, v, hj, _⟩, _⟩, _⟩ => absurd hj (Nat.not_lt_zero j)⟩
    · obtain ⟨_, _, _, _, _, _, _, hI⟩ := p
      exact toF hI.1
    · obtain ⟨x5, x6, x7, x8, x9, x10, rfl, hI⟩ := p
      obtain ⟨T1, kx, vx, rfl, hT1, rfl, hkx, hvx⟩ := y
      dsimp only at hkx hvx
      cases hkv : kvs[i]? with
      | none => rw [hkv] at hkx; cases hkx
      | some pr =>
      rw [hkv] at hkx hvx
      obtain ⟨e, r0, he1, he2, hM, hdp⟩ := hd.keys pr (List.mem_of_getElem? hkv)
      obtain ⟨kk, vv⟩ := pr
      dsimp only at he1
      subst he1
      cases hkx
      cases hvx
      have sT : Same H' (upd H' T1 (.tup [kV (Sum.inl e), vv])) := same_upd hT1
      have hI' := hI.same sT
      obtain ⟨p, q, xs, rfl, w1, w2, w3⟩ := dp_encR hdp
      have sqs : ∀ {H3 : Hp}, But D H2 H3 → SqT K H3 p [.int r0.1, .ref q] ∧ SqT K H3 q xs ∧ DpAll K H3 xs (r0.2.map encB) := by
        intro H3 b
        exact ⟨sqT_but (noSeq_dK hD2) b (sqT_but (noSeq_dK (sD _ _ hl)) b12 (sqT_same sD w1)), sqT_but (noSeq_dK hD2) b (sqT_but (noSeq_dK (sD _ _ hl)) b12 (sqT_same sD w2)), dpAll_but (noSeq_dK hD2) b (dpAll_but (noSeq_dK (sD _ _ hl)) b12 (dpAll_same sD w3))⟩
      have mn : IsMin (Ch c wn (· ∈ zs) k e) r0 := hm.get hM
      have hxk : xs.length ≤ 12 := by rw [dpAll_len w3, List.length_map, mn.1.len]; exact hk
      have eb := mn.1.bnd (fun z q => (hz z q).1) (by omega)
      refine ⟨T1, _, rfl, .inl (.inl upd_same), rfl, _, _, rfl, _, _, rfl, p, _, rfl, (sqs hI'.1).1, rfl, _, _, rfl, _, _, rfl, rfl, rfl, ?_⟩
      refine ⟨_, rfl, _, rfl, _, rfl, _, _, rfl, rfl, _, rfl, _, _, rfl, _, _, rfl, ⟨by omega, by omega, by split <;> omega, by split <;> omega⟩, ?_⟩
      refine for_range (lo := e) (n := ((if c < e + wn then c else e + wn) - e).toNat) (fun b σ H3 => ∃ x8 x9 x10, σ = [some (.ref dl), some (.int c), some (.ref a), some (.int wn), some (.ref D), some (.int e), some (.int r0.1), some (.ref q), x8, x9, x10] ∧
        HI K H2 D (Cand c wn (· ∈ zs) k fun e' s z => ((∃ j v, j < i ∧ kvs[j]? = some (Sum.inl e', v)) ∧ e' ≤ s ∧ s < e' + wn ∧ s < c ∧ z ∈ zs) ∨ (e' = e ∧ e ≤ s ∧ s < e + b ∧ z ∈ zs)) H3) ?_ (fun b σ H3 hb p => ?_) (fun σ H3 p => ?_)
      · refine ⟨x8, x9, x10, rfl, hI'.congr fun e' r' => ?_⟩
        constructor
        · rintro ⟨e1, s1, z1, r1, h1, h2⟩
          exact ⟨e1, s1, z1, r1, .inl h1, h2⟩
        · rintro ⟨e1, s1, z1, r1, h1 | ⟨rfl, h1, h3, _⟩, h2⟩
          · exact ⟨e1, s1, z1, r1, h1, h2⟩
          · omega
      · obtain ⟨y8, y9, y10, rfl, hI3⟩ := p
        have hbr : e + (b : Int) < e + wn ∧ e + (b : Int) < c := by
          split at hb <;> omega
        refine ⟨_, rfl, a, rfl, ⟨_, toL hI3.1⟩, ?_⟩
        refine for_list (K := K) (xs := zs.map V.int) (fun t σ H4 => ∃ x9 x10, σ = [some (.ref dl), some (.int c), some (.ref a), some (.int wn), some (.ref D), some (.int e), some (.int r0.1), some (.ref q), some (.int (e + (b : Int))), x9, x10] ∧
          HI K H2 D (Cand c wn (· ∈ zs) k fun e' s z => (((∃ j v, j < i ∧ kvs[j]? = some (Sum.inl e', v)) ∧ e' ≤ s ∧ s < e' + wn ∧ s < c ∧ z ∈ zs) ∨ (e' = e ∧ e ≤ s ∧ s < e + b ∧ z ∈ zs)) ∨ (e' = e ∧ s = e + b ∧ z ∈ zs.take t)) H4) ?_ (fun t σ H4 ht p => ?_) (fun t x σ H4 hx p => ?_) (fun σ H4 p => ?_)
        · refine ⟨y9, y10, rfl, hI3.congr fun e' r' => ?_⟩
          constructor
          · rintro ⟨e1, s1, z1, r1, h1, h2⟩
            exact ⟨e1, s1, z1, r1, .inl h1, h2⟩
          · rintro ⟨e1, s1, z1, r1, h1 | ⟨_, _, h1⟩, h2⟩
            · exact ⟨e1, s1, z1, r1, h1, h2⟩
            · simp at h1
        · obtain ⟨_, _, _, hI4⟩ := p
          exact toL hI4.1
        · obtain ⟨x9, x10, rfl, hI4⟩ := p
          rw [List.getElem?_map] at hx
          cases hzt : zs[t]? with
          | none => rw [hzt] at hx; cases hx
          | some z =>
          rw [hzt] at hx
          cases hx
          have hz1 := hz z (List.mem_of_getElem? hzt)
          have step : ∀ e' s' z', one (fun e' s z => (((∃ j v, j < i ∧ kvs[j]? = some (Sum.inl e', v)) ∧ e' ≤ s ∧ s < e' + wn ∧ s < c ∧ z ∈ zs) ∨ (e' = e ∧ e ≤ s ∧ s < e + b ∧ z ∈ zs)) ∨ (e' = e ∧ s = e + b ∧ z ∈ zs.take t)) e (e + b) z e' s' z' ↔
              ((((∃ j v, j < i ∧ kvs[j]? = some (Sum.inl e', v)) ∧ e' ≤ s' ∧ s' < e' + wn ∧ s' < c ∧ z' ∈ zs) ∨ (e' = e ∧ e ≤ s' ∧ s' < e + b ∧ z' ∈ zs)) ∨ (e' = e ∧ s' = e + b ∧ z' ∈ zs.take (t + 1))) := by
            intro e' s' z'
            rw [List.take_add_one, hzt]
            simp only [one, Option.toList_some, List.mem_append, List.mem_singleton]
            constructor
            · rintro ((h | ⟨h1, h2, h3⟩) | ⟨h1, h2, h3⟩)
              · exact .inl h
              · exact .inr ⟨h1, h2, .inl h3⟩
              · exact .inr ⟨h1, h2, .inr h3⟩
            · rintro (h | ⟨h1, h2, h3 | h3⟩)
              · exact .inl (.inl h)
              · exact .inl (.inr ⟨h1, h2, h3⟩)
              · exact .inr ⟨h1, h2, h3⟩
          refine ⟨_, rfl, _, rfl, _, _, rfl, rfl, _, rfl, q, xs, rfl, .inl (sqs hI4.1).2.1, _, rfl, _, rfl, by rw [sizeLine_eq]; show 2 ≤ 16777216; omega, fun p1 np1 => ⟨by rw [sizeLine_eq, List.length_append]; show xs.length + 1 ≤ 16777216; omega, fun p2 np2 => ⟨by rw [sizeLine_eq]; show 2 ≤ 16777216; omega, fun p3 np3 => ?_⟩⟩⟩
          have sA := same_upd (o := .tup [.int (e + (b : Int)), .int z]) np1
          have sB := same_upd (o := .tup (xs ++ [.ref p1])) np2
          have sC := same_upd (o := .tup [.int (r0.1 + z), .ref p2]) np3
          generalize hHc : upd (upd (upd H4 p1 (.tup [.int (e + (b : Int)), .int z])) p2 (.tup (xs ++ [.ref p1]))) p3 (.tup [.int (r0.1 + z), .ref p2]) = Hc at sC ⊢
          have sall := (sA.trans sB).trans sC
          have drow : Dp K Hc (.ref p3) (encR (addR r0 (e + (b : Int), z))) := dp_addR (p1 := p1) (p2 := p2) (xs := xs) (.inl (.inl (sC _ _ (sB _ _ upd_same)))) (.inl (.inl (sC _ _ upd_same))) (.inl (.inl (by rw [← hHc]; exact upd_same))) (dpAll_same sall (sqs hI4.1).2.2)
          obtain ⟨bD, kvs', M', e1, e2, e3⟩ := hI4.same sall
          refine ⟨_, rfl, _, rfl, _, _, rfl, rfl, _, rfl, _, _, rfl, rfl, _, rfl, ?_⟩
          by_cases hsc : e + (b : Int) + z ≤ c
          · rw [decide_eq_true hsc]
            refine iteT ?_
            refine ⟨_, rfl, _, rfl, _, _, rfl, rfl, _, rfl, D, _, rfl, DGet.k (k := .inl (e + (b : Int) + z)) e1, _, rfl, ?_⟩
            have putd : (∀ r, M' (e + (b : Int) + z) = some r → ltR (addR r0 (e + (b : Int), z)) r = true) → HI K H2 D (Cand c wn (· ∈ zs) k fun e' s z => (((∃ j v, j < i ∧ kvs[j]? = some (Sum.inl e', v)) ∧ e' ≤ s ∧ s < e' + wn ∧ s < c ∧ z ∈ zs) ∨ (e' = e ∧ e ≤ s ∧ s < e + b ∧ z ∈ zs)) ∨ (e' = e ∧ s = e + b ∧ z ∈ zs.take (t + 1)))
                (upd Hc D (.dK (putK kvs' (.inl (e + (b : Int) + z)) (.ref p3)))) := fun hlt =>
              ⟨bD.trans but_upd, _, _, upd_same, (e2.mono fun v x g => dp_but (noSeq_dK e1) but_upd g).put ⟨by omega, by omega⟩ (dp_but (noSeq_dK e1) but_upd drow), cand_congr (cand_put e3 hsc mn hlt) step⟩
            have lenk : kvs'.length < sizeLine := by have := e2.len; rw [sizeLine_eq]; omega
            cases hm' : M' (e + (b : Int) + z) with
            | none =>
              rw [e2.no hm']
              refine iteT (iteT ?_)
              exact ⟨_, rfl, _, rfl, _, rfl, _, rfl, _, _, rfl, rfl, D, _, rfl, DPut.k (k := .inl (e + (b : Int) + z)) e1 lenk, _, _, rfl, putd fun r h => by rw [hm'] at h; cases h⟩
            | some r =>
              obtain ⟨v, hv, dv⟩ := e2.get hm'
              rw [hv]
              refine iteF ?_
              refine ⟨_, rfl, _, rfl, _, rfl, _, rfl, _, _, rfl, rfl, D, v, rfl, by have := DGet.k (k := .inl (e + (b : Int) + z)) e1; rw [hv] at this; exact this, _, _, drow, dv, alike_encR _ _, encR_ne _, by have := depth_encR (addR r0 (e + (b : Int), z)); omega, _, rfl, ?_⟩
              rw [lt_encR]
              cases hlt : ltR (addR r0 (e + (b : Int), z)) r with
              | true =>
                refine iteT ?_
                exact ⟨_, rfl, _, rfl, _, rfl, _, rfl, _, _, rfl, rfl, D, _, rfl, DPut.k (k := .inl (e + (b : Int) + z)) e1 lenk, _, _, rfl, putd fun r' h => by rw [hm'] at h; cases h; exact hlt⟩
              | false =>
                refine iteF ?_
                exact ⟨_, _, rfl, bD, kvs', M', e1, e2, cand_congr (cand_keep e3 hsc mn hm' hlt) step⟩
          · rw [decide_eq_false hsc]
            refine iteF (iteF ?_)
            exact ⟨_, _, rfl, bD, kvs', M', e1, e2, cand_congr (cand_out e3 hsc) step⟩
        · obtain ⟨x9, x10, rfl, hI4⟩ := p
          refine ⟨_, _, _, rfl, hI4.congr fun e' r' => ?_⟩
          rw [List.length_map, List.take_length]
          constructor
          · rintro ⟨e1, s1, z1, r1, (h1 | ⟨h1, h3, h4, h5⟩) | ⟨rfl, rfl, h1⟩, h2⟩
            · exact ⟨e1, s1, z1, r1, .inl h1, h2⟩
            · exact ⟨e1, s1, z1, r1, .inr ⟨h1, h3, by omega, h5⟩, h2⟩
            · exact ⟨e1, _, z1, r1, .inr ⟨rfl, by omega, by omega, h1⟩, h2⟩
          · rintro ⟨e1, s1, z1, r1, h1 | ⟨h1, h3, h4, h5⟩, h2⟩
            · exact ⟨e1, s1, z1, r1, .inl (.inl h1), h2⟩
            · by_cases hs1 : s1 = e + b
              · exact ⟨e1, s1, z1, r1, .inr ⟨h1, hs1, h5⟩, h2⟩
              · exact ⟨e1, s1, z1, r1, .inl (.inr ⟨h1, h3, by omega, h5⟩), h2⟩
      · obtain ⟨y8, y9, y10, rfl, hI3⟩ := p
        refine ⟨_, _, _, _, _, _, rfl, hI3.congr fun e' r' => ?_⟩
        constructor
        · rintro ⟨e1, s1, z1, r1, ⟨⟨j, v, h1, h3⟩, h4⟩ | ⟨rfl, h1, h3, h4⟩, h2⟩
          · exact ⟨e1, s1, z1, r1, ⟨⟨j, v, by omega, h3⟩, h4⟩, h2⟩
          · refine ⟨e1, s1, z1, r1, ⟨⟨i, _, by omega, hkv⟩, h1, ?_, ?_, h4⟩, h2⟩
            · split at h3 <;> omega
            · split at h3 <;> omega
        · rintro ⟨e1, s1, z1, r1, ⟨⟨j, v, h1, h3⟩, h4⟩, h2⟩
          by_cases hj : j = i
          · subst hj
            rw [hkv] at h3
            injection h3 with h3
            injection h3 with h3 _
            injection h3 with h3
            subst h3
            refine ⟨e, s1, z1, r1, .inr ⟨rfl, h4.1, ?_, h4.2.2.2⟩, h2⟩
            split <;> omega
          · exact ⟨e1, s1, z1, r1, .inl ⟨⟨j, v, by omega, h3⟩, h4⟩, h2⟩
    · obtain ⟨x5, x6, x7, x8, x9, x10, rfl, hI⟩ := p
      obtain ⟨bD, kvs', M', e1, e2, e3⟩ := hI
      refine ⟨toF bD, _, rfl, hq _ D kvs' M' (fun b o eo => ?_) nD (by rw [upd_ne (Ne.symm hDl)]; exact e1) (e2.mono fun v x g => dp_but (noSeq_frz (toF bD)) but_upd g) (cand_all e3 hm (fun z q => (hz z q).1) fun e s z => ?_)⟩
      · by_cases hb : b = dl
        · subst hb
          rw [hl] at eo
          cases eo
          exact upd_same
        · rw [upd_ne hb]
          exact bD _ _ (ne_of_none eo nD) (b12 _ _ hb (sD _ _ eo))
      · constructor
        · rintro ⟨⟨j, v, h1, h2⟩, h3⟩
          obtain ⟨e', r', g1, _, g2, _⟩ := hd.keys _ (List.mem_of_getElem? h2)
          injection g1 with g1
          subst g1
          exact ⟨⟨r', g2⟩, h3⟩
        · rintro ⟨⟨r', h1⟩, h3⟩
          obtain ⟨v, hv⟩ := hd.has e r' h1
          obtain ⟨j, hj, hj2⟩ := List.mem_iff_getElem.mp hv
          exact ⟨⟨j, v, hj, by rw [List.getElem?_eq_getElem hj, hj2]⟩, h3⟩
end
end K23
namespace K23
open PySem PySem.Spec PyProof.Rows L2 PySem.W
theorem geR_trans {a b c : Row} (h1 : ltR a b = false) (h2 : ltR b c = false) : ltR a c = false := by
  cases e : ltR a c with
  | false => rfl
  | true =>
    rcases ltR_tot c b with q | q | q
    · rw [ltR_trans e q] at h1
      cases h1
    · subst q
      rw [e] at h1
      cases h1
    · rw [q] at h2
      cases h2
def minR (r : Row) (rs : List Row) : Row := rs.foldl (fun a y => if ltR y a then y else a) r
theorem minD_enc : ∀ (rs : List Row) (r : Row), minD (encR r) (rs.map encR) = encR (minR r rs)
  | [], r => rfl
  | t :: rs, r => by
    show minD (if dataLt (encR t) (encR r) then encR t else encR r) (rs.map encR) = encR (minR (if ltR t r then t else r) rs)
    rw [lt_encR, ← minD_enc rs]
    cases ltR t r <;> rfl
theorem minR_mem : ∀ (rs : List Row) (r : Row), minR r rs ∈ r :: rs
  | [], r => List.mem_cons_self
  | t :: rs, r => by
    have h := minR_mem rs (if ltR t r then t else r)
    show minR (if ltR t r then t else r) rs ∈ _
    rcases List.mem_cons.mp h with h | h
    · rw [h]
      split
      · exact List.mem_cons_of_mem _ List.mem_cons_self
      · exact List.mem_cons_self
    · exact List.mem_cons_of_mem _ (List.mem_cons_of_mem _ h)
theorem minR_le : ∀ (rs : List Row) (r : Row), ∀ t ∈ r :: rs, ltR t (minR r rs) = false
  | [], r, t, h => by
    rw [List.mem_singleton] at h
    rw [h]
    exact ltR_irr r
  | u :: rs, r, t, h => by
    show ltR t (minR (if ltR u r then u else r) rs) = false
    have ih := minR_le rs (if ltR u r then u else r)
    have h0 := ih _ List.mem_cons_self
    rcases List.mem_cons.mp h with h | h
    · subst h
      refine geR_trans (b := if ltR u t then u else t) ?_ h0
      cases q : ltR u t with
      | true =>
        cases e : ltR t u with
        | false => simpa using e
        | true =>
          have := ltR_trans q e
          rw [ltR_irr] at this
          cases this
      | false => simpa using ltR_irr t
    · rcases List.mem_cons.mp h with h | h
      · subst h
        refine geR_trans (b := if ltR t r then t else r) ?_ h0
        cases q : ltR t r with
        | true => simpa using ltR_irr t
        | false => simpa using q
      · exact ih t (List.mem_cons_of_mem _ h)
theorem alikeAll_rows (rs : List Row) : AlikeAll (rs.map encR) := ⟨fun x hx y hy => by
  obtain ⟨r, _, rfl⟩ := List.mem_map.mp hx
  obtain ⟨t, _, rfl⟩ := List.mem_map.mp hy
  exact alike_encR r t, fun x hx => by
  obtain ⟨r, _, rfl⟩ := List.mem_map.mp hx
  exact encR_ne r⟩
theorem depth_rows : ∀ rs : List Row, PyData.depthAll (rs.map encR) ≤ 3
  | [] => by simp [PyData.depthAll]
  | r :: rs => by
    have h1 := depth_rows rs
    have h2 := depth_encR r
    simp only [List.map_cons, PyData.depthAll]
    omega
theorem canLay_bs : ∀ bs : List Blk, PyData.canLayAll0 (bs.map encB) = true
  | [] => by simp [PyData.canLayAll0]
  | b :: bs => by simp [PyData.canLayAll0, encB, PyData.canLay0, canLay_bs bs]
theorem canLay_row (r : Row) : PyData.canLay0 (encR r) = true := by simp [encR, encBs, PyData.canLay0, PyData.canLayAll0, canLay_bs]
theorem canLay_rows : ∀ rs : List Row, PyData.canLayAll0 (rs.map encR) = true
  | [] => by simp [PyData.canLayAll0]
  | r :: rs => by
    rw [List.map_cons, PyData.canLayAll0, canLay_row, canLay_rows rs]
    rfl
theorem shaped_rows (rs : List Row) : SeqAt.shaped (.list (rs.map encR)) = true := by
  unfold SeqAt.shaped
  rw [PyData.canLay0, canLay_rows, Bool.true_and, decide_eq_true_iff, PyData.depth]
  have := depth_rows rs
  omega
theorem tupOnly_encB (b : Blk) : tupOnly (encB b) = true := by simp [encB, tupOnly, tupAll]
theorem tupOnly_encBs (bs : List Blk) : tupAll (bs.map encB) = true := tupAll_of fun d hd => by
  obtain ⟨b, _, rfl⟩ := List.mem_map.mp hd
  exact tupOnly_encB b
theorem tupOnly_encR (r : Row) : tupOnly (encR r) = true := by
  simp only [encR, encBs, tupOnly, tupAll, tupOnly_encBs, Bool.and_true]
/-- what least_bars picks from -/
def FinB (c w : Int) (S : Int → Prop) (m : Int) (r : Row) : Prop := ∃ (k : Nat) (e : Int), (k : Int) ≤ m ∧ Ch c w S k e r ∧ c - e < w
theorem DI.monoR {K : PySem.W.Frag} {H H' : Hp} {kvs : List (Key × V)} {M : Int → Option Row} (d : DI K H kvs M) (h : ∀ v r, Dp K H v (encR r) → Dp K H' v (encR r)) : DI K H' kvs M := ⟨d.nd, fun p hp => by
  obtain ⟨e, r, h1, h2, h3, h4⟩ := d.keys p hp
  exact ⟨e, r, h1, h2, h3, h _ _ h4⟩, d.has⟩
def keyE : Key → Int
  | .inl e => e
  | .inr _ => 0
end K23
set_option maxHeartbeats 1000000
namespace K23
open PySem PySem.Spec PyProof.Rows L2 KSup NdefX StX
def keepE (c wn : Int) : PyData → Bool
  | .tuple [.int e, _] => decide (c - e < wn)
  | _ => false
def sndD : PyData → PyData
  | .tuple [_, d] => d
  | d => d
theorem dpAll_app {K : PySem.W.Frag} {H : Hp} : ∀ {xs ys : List V} {ds es : List PyData}, DpAll K H xs ds → DpAll K H ys es → DpAll K H (xs ++ ys) (ds ++ es)
  | [], _, [], _, _, h => h
  | x :: xs, _, d :: ds, _, .cons h1 h2, h => .cons h1 (dpAll_app h2 h)
def rowAt (M : Int → Option Row) (p : Key × V) : Row := (M (keyE p.1)).getD (0, [])
section
variable {P : Program} {w : World} {K : PySem.W.Frag} {mg : Str → Option Value} {base : Heap} {f g g2 : Addr} {fd gd gd2 : FuncData}
def spLeast (K : PySem.W.Frag) : Sp := fun vs H Q _ => ∃ (a : Addr) (c wn m : Int) (zs : List Int), vs = [.int c, .ref a, .int wn, .int m] ∧ SqL K H a (zs.map V.int) ∧ (∀ z ∈ zs, 1 ≤ z ∧ z ≤ 3) ∧ (1 ≤ c ∧ c ≤ 12) ∧ (1 ≤ wn ∧ wn ≤ 12) ∧ (0 ≤ m ∧ m ≤ 12) ∧
  (∀ H', Same H H' → (∀ r, ¬ FinB c wn (· ∈ zs) m r) → Q .non H') ∧ ∀ H' v r, Same H H' → IsMin (FinB c wn (· ∈ zs) m) r → Dp K H' v (encR r) → Q v H'
theorem ok_least (F : FnP K "least_bars" sLeast f fd) (T : Bl mg) (G : FnOk P w K mg base CX0 1 g gd ["lines", "cells", "sizes", "wanted"] (spLonger K)) (kg : PySem.W.keepIn K (.ref g) = true) (bg : Binds K gd ["lines", "cells", "sizes", "wanted"] []) (gm : mg "longer" = some (.ref g)) :
    FnOk P w K mg base CX0 2 f fd ["cells", "sizes", "wanted", "most"] (spLeast K) := by
  refine F.ok scLeast (fun vs H Q E h => ?_) (fun cdv A outer s H vs Q E hr h => ?_)
  · obtain ⟨a, c, wn, m, zs, rfl, _⟩ := h
    rfl
  · obtain ⟨a, c, wn, m, zs, rfl, hs, hz, hc, hw, hm, hqn, hqs⟩ := h
    refine ⟨_, PSs.nox (pss_cons (ps_par (i := 4) (j := 5) rfl scLeast.nd rfl rfl (by decide) rfl rfl (pa_cons (pe_disp (pps_cons pe_int (pe_tup (pa_cons pe_int (pa_cons (pe_tup pa_nil) pa_nil))) pps_nil) rfl rfl (by simp) (by show 1 ≤ 15; omega)) (pa_cons (pe_lst pa_nil) pa_nil)) (by rfl))
      (pss_cons (ps_for PassesOwn.never rfl (pi_range1 (by rfl) T.range (pa_cons (pe_op op_add (pv 3) pe_int) pa_nil)) (pg_name (i := 6) scLeast.nd rfl (Or.inl rfl))
        (pss_cons (ps_expr (pe_bm PySem.F.plainAttrs_list PySem.F.slot_list_extend PySem.F.type_list_extend mt_extend (pv 5) (pa_cons (pe_lock (pe_lc (own := [("end", 7), ("row", 8)]) (g := gTup K 2 (gCons (gName 7) (gCons (gName 8) gNil))) rfl scLeast.nd
            (pi_items (pv 4)) (blkOk_by (N := ["cells", "sizes", "wanted", "most", "lines", "found", "turn", "end", "row"]) (sc := defScope sLeast) (by decide +kernel))
            (fun _ _ _ _ _ => pg_tup rfl (pgs_cons (pg_name (i := 7) scLeast.nd rfl (Or.inl rfl)) (pgs_cons (pg_name (i := 8) scLeast.nd rfl (Or.inl rfl)) pgs_nil)))
            (fun _ _ _ _ _ => pts_one (pt_cmpR op_lt (pe_op op_sub (pv 0) (pv 7)) (pv 2) (nomark _))) (fun _ _ _ _ _ => pv 8))) pa_nil)))
          (pss_one (ps_set (i := 4) scLeast.nd rfl (Or.inl rfl) (pe_call G hr (by rfl) gm kg bg .nil pass0 (pa_cons (pv 4) (pa_cons (pv 0) (pa_cons (pv 1) (pa_cons (pv 2) pa_nil)))))))))
      (pss_one (ps_ret (pe_ifExp (pt_cmpR (op_neD hr.units) (pv 5) (pe_lst pa_nil) (nomark _)) (pe_callB (cr_minD rfl hr.units) (by rfl) T.min (by decide +kernel) (pa_cons (pv 5) pa_nil)) pe_non))))), ?_⟩
    intro dl ndl
    refine ⟨by rw [sizeLine_eq]; show 0 ≤ 16777216; omega, fun p1 np1 => ⟨by rw [sizeLine_eq]; show 2 ≤ 16777216; omega, fun p2 np2 => ⟨?_, [(.inl 0, .ref p2)], rfl, by show 1 ≤ 15; omega, ⟨by rw [sizeLine_eq]; show 0 ≤ 16777216; omega, fun fl nfl => ⟨_, _, rfl, ?_⟩⟩⟩⟩⟩
    · rw [upd_ne (ne_of_none (same_upd np1 _ _ upd_same) np2), upd_ne (ne_of_none upd_same np1)]
      exact upd_same
    have sA : Same H (upd H dl (.dK [])) := same_upd ndl
    have sB := same_upd (o := .tup []) np1
    have sC := same_upd (o := .tup [.int 0, .ref p1]) np2
    have hdl0 := sC _ _ (sB _ _ (upd_same (H := H) (a := dl) (o := .dK [])))
    have hp1 := sC _ _ (upd_same (H := upd H dl (.dK [])) (a := p1) (o := .tup []))
    have hp2 := upd_same (H := upd (upd H dl (.dK [])) p1 (.tup [])) (a := p2) (o := .tup [.int 0, .ref p1])
    have sH3 := (sA.trans sB).trans sC
    generalize hH3 : upd (upd (upd H dl (.dK [])) p1 (.tup [])) p2 (.tup [.int 0, .ref p1]) = H3 at *
    have d12 : dl ≠ p1 := fun z => by rw [z, hp1] at hdl0; cases hdl0
    have d22 : dl ≠ p2 := fun z => by rw [z, hp2] at hdl0; cases hdl0
    have sH4 : Same H (upd H3 dl (.dK (mergeK [] [(Sum.inl 0, V.ref p2)]))) := fun b o e => by rw [upd_ne (ne_of_none e ndl)]; exact sH3 _ _ e
    have hp1' : upd H3 dl (.dK (mergeK [] [(Sum.inl 0, V.ref p2)])) p1 = some (.tup []) := by rw [upd_ne (Ne.symm d12)]; exact hp1
    have hp2' : upd H3 dl (.dK (mergeK [] [(Sum.inl 0, V.ref p2)])) p2 = some (.tup [.int 0, .ref p1]) := by rw [upd_ne (Ne.symm d22)]; exact hp2
    have hdl1 : upd H3 dl (.dK (mergeK [] [(Sum.inl 0, V.ref p2)])) dl = some (.dK [(Sum.inl 0, V.ref p2)]) := upd_same
    have nflH : H fl = none := sH4.free nfl
    have sD := same_upd (o := .lst []) nfl
    have sH5 := sH4.trans sD
    have hfl5 := upd_same (H := upd H3 dl (.dK (mergeK [] [(Sum.inl 0, V.ref p2)]))) (a := fl) (o := .lst [])
    have hp1'' := sD _ _ hp1'
    have hp2'' := sD _ _ hp2'
    have hdl2 := sD _ _ hdl1
    generalize hH5 : upd (upd H3 dl (.dK (mergeK [] [(Sum.inl 0, V.ref p2)]))) fl (.lst []) = H5 at *
    refine ⟨_, rfl, _, _, rfl, rfl, m + 1, rfl, by omega, by omega, ?_⟩
    refine for_range (lo := 0) (n := (m + 1).toNat) (fun t σ H' => ∃ dl' xs x6 x7 x8, σ = [some (.int c), some (.ref a), some (.int wn), some (.int m), some (.ref dl'), some (.ref fl), x6, x7, x8] ∧ Same H H' ∧
      ∃ (kvs : List (Key × V)) (M : Int → Option Row) (rs : List Row), H' dl' = some (.dK kvs) ∧ DI K H' kvs M ∧ MinMap (Ch c wn (· ∈ zs) t) M ∧ H' fl = some (.lst xs) ∧ DpAll K H' xs (rs.map encR) ∧ rs.length ≤ 13 * t ∧ (∀ r ∈ rs, ∃ (k : Nat) (e : Int), k < t ∧ Ch c wn (· ∈ zs) k e r ∧ c - e < wn) ∧
        ∀ (k : Nat) (e : Int) (r : Row), k < t → Ch c wn (· ∈ zs) k e r → c - e < wn → ∃ r' ∈ rs, ltR r r' = false) ?_ (fun t σ H' ht p => ?_) (fun σ H' p => ?_)
    · refine ⟨dl, [], _, _, _, rfl, sH5, [(Sum.inl 0, .ref p2)], fun e => if e = 0 then some (0, []) else none, [], hdl2, ⟨by simp, fun p hp => ?_, fun e r h => ?_⟩, minMap_of (fun e r h => ?_) (fun e h r g => ?_), hfl5, .nil, by simp, fun r hr => absurd hr (by simp), fun k e r hk => absurd hk (Nat.not_lt_zero k)⟩
      · rw [List.mem_singleton] at hp
        subst hp
        exact ⟨0, (0, []), rfl, by omega, rfl, .tup (.inl (.inl hp2'')) (.cons (.int 0) (.cons (.tup (.inl (.inl hp1'')) .nil) .nil))⟩
      · split at h
        · rename_i he
          subst he
          exact ⟨_, List.mem_cons_self⟩
        · cases h
      · split at h
        · rename_i he
          subst he
          cases h
          refine ⟨.nil, fun t g => ?_⟩
          generalize hz0 : (0 : Int) = z0 at g
          generalize hk0 : 0 = k0 at g
          cases g with
          | nil => exact ltR_irr _
          | snoc _ _ _ _ _ => cases hk0
        · cases h
      · generalize hk0 : 0 = k0 at g
        cases g with
        | nil => simp at h
        | snoc _ _ _ _ _ => cases hk0
    · obtain ⟨dl', xs, x6, x7, x8, rfl, sH, kvs, M, rs, hdl', hd, hm', hfl, hxs, hrl, hin, hall⟩ := p
      have htm : (t : Int) ≤ m := by omega
      have hfd : fl ≠ dl' := fun z => by rw [z, hdl'] at hfl; cases hfl
      refine ⟨_, rfl, .inl ⟨rfl, _, .inl (.inl hfl)⟩, dl', .dK kvs, hdl', trivial, fun od => ?_⟩
      generalize hHl : upd H' dl' (.frz od (.dK kvs)) = Hl
      have bl : But dl' H' Hl := by rw [← hHl]; exact but_upd
      have hdll : Hl dl' = some (.frz od (.dK kvs)) := by rw [← hHl]; exact upd_same
      have nsq := noSeq_dK hdl'
      refine ⟨_, rfl, dl', od, kvs, rfl, hdll, fun Dn nD => ?_⟩
      have sEl : ∀ {H3 : Hp}, Same Hl H3 → Same H' (upd H3 dl' (.dK kvs)) := by
        intro H3 s3 b o e
        by_cases hb : b = dl'
        · subst hb
          rw [hdl'] at e
          cases e
          exact upd_same
        · rw [upd_ne hb]
          exact s3 _ _ (bl _ _ hb e)
      refine lc_data (K := K) (es := kvs.map fun p => .tuple [.int (keyE p.1), encR (rowAt M p)]) (n := kvs.length) walk_items (keep := keepE c wn) (F := sndD) (by rw [List.length_map]) ?_ nD (fun H3 s3 => s3 _ _ hdll) (fun i H3 x H4 hi s3 y => ?_) (fun d hd' _ => ?_) (fun x d H3 s3 hx hmem R S hR hS => ?_) (fun H4 ys s4 eD hys => ?_)
      · have := hd.len
        rw [List.length_map]
        omega
      · obtain ⟨T1, kx, vx, rfl, hT1, rfl, hkx, hvx⟩ := y
        dsimp only at hkx hvx
        cases hkv : kvs[i]? with
        | none => rw [hkv] at hkx; cases hkx
        | some pr =>
        rw [hkv] at hkx hvx
        obtain ⟨e, r0, he1, he2, hM, hdp⟩ := hd.keys pr (List.mem_of_getElem? hkv)
        obtain ⟨kk, vv⟩ := pr
        dsimp only at he1
        subst he1
        cases hkx
        cases hvx
        have sT : Same H3 (upd H3 T1 (.tup [kV (Sum.inl e), vv])) := same_upd hT1
        refine ⟨sT, _, by rw [List.getElem?_map, hkv]; rfl, .tup (.inl (.inl upd_same)) (.cons (.int e) (.cons ?_ .nil))⟩
        have hr0 : rowAt M (Sum.inl e, vv) = r0 := by
          unfold rowAt
          show (M e).getD (0, []) = r0
          rw [hM]
          rfl
        rw [hr0]
        exact dp_same (s3.trans sT) (dp_but nsq bl hdp)
      · obtain ⟨p, _, rfl⟩ := List.mem_map.mp hd'
        exact tupOnly_encR _
      · obtain ⟨p, _, rfl⟩ := List.mem_map.mp hmem
        cases hx with
        | tup sx ax =>
          cases ax with
          | cons h1 ax =>
            cases ax with
            | cons h2 ax =>
              cases ax
              cases h1
              refine ⟨_, _, rfl, sx, rfl, _, _, rfl, _, _, rfl, rfl, wipe_two _ 7 8 _ _, ?_⟩
              refine ⟨_, rfl, _, rfl, _, _, rfl, rfl, _, rfl, _, _, rfl, rfl, _, rfl, ?_⟩
              by_cases hk : c - keyE p.1 < wn
              · rw [decide_eq_true hk]
                exact iteT ⟨_, rfl, hR _ _ (Same.refl _) (decide_eq_true hk) h2⟩
              · rw [decide_eq_false hk]
                exact iteF (hS _ (Same.refl _) (decide_eq_false hk))
      · have hrows : ((kvs.map fun p => PyData.tuple [.int (keyE p.1), encR (rowAt M p)]).filter (keepE c wn)).map sndD = ((kvs.filter fun p => decide (c - keyE p.1 < wn)).map (rowAt M)).map encR := by
          rw [List.filter_map, List.map_map, List.map_map]
          rfl
        rw [hrows] at hys
        have sE := sEl s4
        have hdl4 := s4 _ _ hdll
        have hDn : Dn ≠ dl' := fun z => by rw [z, hdll] at nD; cases nD
        have hfl4 := sE _ _ hfl
        have nsq4 := noSeq_frz hdl4
        have hys' := dpAll_but nsq4 (but_upd (o := .dK kvs)) hys
        have hDn4 : upd H4 dl' (.dK kvs) Dn = some (.lst ys) := by rw [upd_ne hDn]; exact eD
        have hdl4' := upd_same (H := H4) (a := dl') (o := .dK kvs)
        have ylen : ys.length ≤ 13 := by
          rw [dpAll_len hys, List.length_map, List.length_map]
          have := hd.len
          exact Nat.le_trans (List.length_filter_le _ _) this
        have xlen : xs.length ≤ 13 * t := by rw [dpAll_len hxs, List.length_map]; exact hrl
        refine ⟨hdl4, fl, Dn, xs, ys, rfl, rfl, hfl4, hDn4, by rw [sizeLine_eq]; omega, ?_⟩
        have hnf : H fl = none := nflH
        have sH5' : Same H (upd (upd H4 dl' (.dK kvs)) fl (.lst (xs ++ ys))) := fun b o e => by
          rw [upd_ne (ne_of_none e hnf)]
          exact sE _ _ (sH _ _ e)
        have hdlF : upd (upd H4 dl' (.dK kvs)) fl (.lst (xs ++ ys)) dl' = some (.dK kvs) := by rw [upd_ne (Ne.symm hfd)]; exact hdl4'
        have hflF := upd_same (H := upd H4 dl' (.dK kvs)) (a := fl) (o := .lst (xs ++ ys))
        have hdF : DI K (upd (upd H4 dl' (.dK kvs)) fl (.lst (xs ++ ys))) kvs M := hd.monoR fun v r q => dp_updL hfl4 (tupOnly_encR r) (dp_same sE q)
        have hrowsF : DpAll K (upd (upd H4 dl' (.dK kvs)) fl (.lst (xs ++ ys))) (xs ++ ys) ((rs ++ (kvs.filter fun p => decide (c - keyE p.1 < wn)).map (rowAt M)).map encR) := by
          rw [List.map_append]
          have ta : ∀ l : List Row, tupAll (l.map encR) = true := fun l => tupAll_of fun d hd => by
            obtain ⟨r, _, rfl⟩ := List.mem_map.mp hd
            exact tupOnly_encR r
          exact dpAll_app (dpAll_updL hfl4 (ta _) (dpAll_same sE hxs)) (dpAll_updL hfl4 (ta _) hys')
        refine ⟨_, rfl, _, rfl, _, rfl, _, rfl, dl', a, c, wn, zs, t, kvs, M, rfl, hdlF, hdF, sH5'.seq hs, hz, hc, hw, by omega, hm', fun H6 D' kvs' M' s6 n6 e6 d6 m6 => ?_⟩
        refine ⟨D', xs ++ ys, _, _, _, rfl, sH5'.trans s6, kvs', M', rs ++ (kvs.filter fun p => decide (c - keyE p.1 < wn)).map (rowAt M), e6, d6, m6, s6 _ _ hflF, dpAll_same s6 hrowsF, ?_, fun r hr => ?_, fun k e r hk hch hce => ?_⟩
        · rw [List.length_append, List.length_map]
          have := hd.len
          have := List.length_filter_le (fun p : Key × V => decide (c - keyE p.1 < wn)) kvs
          omega
        · rcases List.mem_append.mp hr with hr | hr
          · obtain ⟨k, e, h1, h2⟩ := hin r hr
            exact ⟨k, e, by omega, h2⟩
          · obtain ⟨p, hp, rfl⟩ := List.mem_map.mp hr
            obtain ⟨hp1, hp2⟩ := List.mem_filter.mp hp
            obtain ⟨e, r0, he1, _, hM, _⟩ := hd.keys p hp1
            have ek : keyE p.1 = e := by rw [he1]; rfl
            have er : rowAt M p = r0 := by
              unfold rowAt
              rw [ek, hM]
              rfl
            rw [er]
            rw [ek] at hp2
            exact ⟨t, e, by omega, (hm'.get hM).1, of_decide_eq_true hp2⟩
        · by_cases hkt : k < t
          · obtain ⟨r', hr', hle⟩ := hall k e r hkt hch hce
            exact ⟨r', List.mem_append_left _ hr', hle⟩
          · have ekt : k = t := by omega
            subst ekt
            obtain ⟨r0, hM⟩ := hm'.has hch
            obtain ⟨v, hv⟩ := hd.has e r0 hM
            refine ⟨r0, List.mem_append_right _ (List.mem_map.mpr ⟨_, List.mem_filter.mpr ⟨hv, decide_eq_true hce⟩, ?_⟩), (hm'.get hM).2 r hch⟩
            unfold rowAt
            show (M e).getD (0, []) = r0
            rw [hM]
            rfl
    · obtain ⟨dl', xs, x6, x7, x8, rfl, sH, kvs, M, rs, hdl', hd, hm', hfl, hxs, hrl, hin, hall⟩ := p
      refine ⟨_, rfl, by rw [sizeLine_eq]; show 0 ≤ 16777216; omega, fun pl npl => ?_⟩
      have sP := same_upd (o := .lst []) npl
      have hpl := upd_same (H := H') (a := pl) (o := .lst [])
      generalize upd H' pl (.lst []) = Hp' at *
      refine ⟨.list (rs.map encR), .list [], .lst (.inl (.inl (sP _ _ hfl))) (dpAll_same sP hxs), .lst (.inl (.inl hpl)) .nil, shaped_rows rs, by decide +kernel, _, rfl, ?_⟩
      cases rs with
      | nil =>
        refine iteF (hqn _ (sH.trans sP) fun r ⟨k, e, h1, h2, h3⟩ => ?_)
        obtain ⟨r', hr', _⟩ := hall k e r (by omega) h2 h3
        cases hr'
      | cons r rs =>
        refine iteT ⟨_, rfl, fl, xs, encR r, rs.map encR, rfl, .inl (.inl (sP _ _ hfl)), dpAll_same sP hxs, alikeAll_rows (r :: rs), Nat.le_trans (depth_rows (r :: rs)) (by omega), fun i x hx dx => hqs _ _ (minR r rs) (sH.trans sP) ⟨?_, fun u hu => ?_⟩ (by rw [← minD_enc]; exact dx)⟩
        · obtain ⟨k, e, h1, h2, h3⟩ := hin _ (minR_mem rs r)
          exact ⟨k, e, by omega, h2, h3⟩
        · obtain ⟨k, e, h1, h2, h3⟩ := hu
          obtain ⟨r', hr', hle⟩ := hall k e u (by omega) h2 h3
          exact geR_trans hle (minR_le rs r r' hr')
end
end K23
set_option maxHeartbeats 1000000
namespace K23
open PySem PySem.Spec PyProof.Rows L2 KSup NdefX StX
/-! ### are_bars on data -/
def topE (c wn at_ : Int) : Int := (if c < at_ + wn then c else at_ + wn) - 1
def stepB (c wn : Int) (zs : List Int) (at_ : Int) : PyData → Option Int
  | .tuple [.int s, .int z] => if at_ ≤ s ∧ s ≤ topE c wn at_ ∧ z ∈ zs then some (s + z) else none
  | _ => none
theorem stepB_int {c wn at_ s z : Int} {zs : List Int} : stepB c wn zs at_ (.tuple [.int s, .int z]) = if at_ ≤ s ∧ s ≤ topE c wn at_ ∧ z ∈ zs then some (s + z) else none := rfl
def walkB (c wn : Int) (zs : List Int) : Int → List PyData → Bool
  | at_, [] => decide (c - wn < at_) && decide (at_ ≤ c)
  | at_, d :: ds => match stepB c wn zs at_ d with
    | some b => walkB c wn zs b ds
    | none => false
def areB (c wn m : Int) (zs : List Int) : PyData → Bool
  | .tuple ds => decide ((ds.length : Int) ≤ m) && ((ds.map fun d => isPlain d 2).all id && walkB c wn zs 0 ds)
  | _ => false
theorem inV_int (z : Int) : ∀ zs : List Int, inV (.int z) (zs.map V.int) = decide (z ∈ zs)
  | [] => by simp [inV]
  | y :: zs => by
    have ih := inV_int z zs
    unfold inV at *
    rw [List.map_cons, List.any_cons, ih]
    have e : eqV (V.int y) (V.int z) = decide (z = y) := by
      show (y == z) = decide (z = y)
      by_cases h : z = y
      · subst h
        simp
      · rw [decide_eq_false h]
        exact beq_eq_false_iff_ne.mpr (fun q => h q.symm)
    rw [e]
    by_cases h : z = y
    · rw [decide_eq_true h, Bool.true_or]
      exact (decide_eq_true (by rw [h]; exact List.mem_cons_self)).symm
    · rw [decide_eq_false h, Bool.false_or]
      by_cases h2 : z ∈ zs
      · rw [decide_eq_true h2]
        exact (decide_eq_true (List.mem_cons_of_mem _ h2)).symm
      · rw [decide_eq_false h2]
        exact (decide_eq_false (fun q => by
          rcases List.mem_cons.mp q with q | q
          · exact h q
          · exact h2 q)).symm
theorem flat_ints (zs : List Int) : (zs.map V.int).all flatV = true := by
  rw [List.all_eq_true]
  intro x hx
  obtain ⟨z, _, rfl⟩ := List.mem_map.mp hx
  rfl
section
variable {P : Program} {w : World} {K : PySem.W.Frag} {mg : Str → Option Value} {base : Heap} {f g1 g2 g3 g4 : Addr} {fd gd1 gd2 gd3 gd4 : FuncData}
def spAreBars (K : PySem.W.Frag) : Sp := fun vs H Q _ => ∃ (a : Addr) (c wn m : Int) (zs : List Int) (v : V) (d : PyData), vs = [.int c, .ref a, .int wn, .int m, v] ∧ SqL K H a (zs.map V.int) ∧ Dp K H v d ∧ tupOnly d = true ∧ (∀ ds, d = .tuple ds → ds.length ≤ 1000000) ∧
  ∀ H', Same H H' → Q (.bl (areB c wn m zs d)) H'
theorem tupAll_mem : ∀ {ds : List PyData}, tupAll ds = true → ∀ {d}, d ∈ ds → tupOnly d = true
  | [], _, _, h => by cases h
  | e :: ds, ht, d, h => by
    rw [tupAll, Bool.and_eq_true] at ht
    rcases List.mem_cons.mp h with h | h
    · rw [h]
      exact ht.1
    · exact tupAll_mem ht.2 h
theorem areB_other {c wn m : Int} {zs : List Int} {d : PyData} (h : isSeq d = false) : areB c wn m zs d = false := by
  cases d <;> first | rfl | cases h
theorem plain2 {d : PyData} (ht : tupOnly d = true) (h : isPlain d 2 = true) : ∃ x y, d = .tuple [x, y] := by
  cases d with
  | tuple ds =>
    have h : (true && decide (((ds.length : Nat) : Int) = 2)) = true := h
    rw [Bool.true_and, decide_eq_true_iff] at h
    match ds, h with
    | [x, y], _ => exact ⟨x, y, rfl⟩
    | [], h => simp at h
    | [_], h => simp at h
    | _ :: _ :: _ :: _, h => simp at h; omega
  | list ds => simp [tupOnly] at ht
  | _ => cases h
theorem stepB_no {c wn at_ : Int} {zs : List Int} {x y : PyData} (h : inI x at_ (topE c wn at_) = false ∨ isInt y = false) : stepB c wn zs at_ (.tuple [x, y]) = none := by
  cases x <;> cases y <;> try rfl
  rename_i i j
  rcases h with h | h
  · have h : (decide (at_ ≤ i) && decide (i ≤ topE c wn at_)) = false := h
    rw [stepB_int, if_neg]
    rintro ⟨h1, h2, _⟩
    rw [decide_eq_true h1, decide_eq_true h2] at h
    cases h
  · cases h
theorem ok_areBars (F : FnP K "are_bars" sAreBars f fd) (T : Bl mg)
    (G1 : FnOk P w K mg base CX0 1 g1 gd1 ["value"] (spIsListed K)) (k1 : PySem.W.keepIn K (.ref g1) = true) (b1 : Binds K gd1 ["value"] []) (m1 : mg "is_listed" = some (.ref g1))
    (G2 : FnOk P w K mg base CX0 2 g2 gd2 ["value", "many"] (spIsPlain K)) (k2 : PySem.W.keepIn K (.ref g2) = true) (b2 : Binds K gd2 ["value", "many"] []) (m2 : mg "is_plain_tuple" = some (.ref g2))
    (G3 : FnOk P w K mg base CX0 2 g3 gd3 ["value", "least", "most"] (spIsWithin K)) (k3 : PySem.W.keepIn K (.ref g3) = true) (b3 : Binds K gd3 ["value", "least", "most"] []) (m3 : mg "is_within" = some (.ref g3))
    (G4 : FnOk P w K mg base CX0 1 g4 gd4 ["value"] (spIsInt K)) (k4 : PySem.W.keepIn K (.ref g4) = true) (b4 : Binds K gd4 ["value"] []) (m4 : mg "is_integer" = some (.ref g4)) :
    FnOk P w K mg base CX0 3 f fd ["cells", "sizes", "wanted", "most", "value"] (spAreBars K) := by
  refine F.ok scAreBars (fun vs H Q E h => ?_) (fun cdv A outer s H vs Q E hr h => ?_)
  · obtain ⟨a, c, wn, m, zs, v, d, rfl, _⟩ := h
    rfl
  · obtain ⟨a, c, wn, m, zs, v, d, rfl, hs, hd, ht, hlen, hq⟩ := h
    refine ⟨_, PSs.nox (pss_cons (ps_if (PW.pt (pw_or (pt_not (pt_val (pe_call G1 (hr.mono (by omega)) (by rfl) m1 k1 b1 .nil pass0 (pa_cons (pv 4) pa_nil)))) (pw_or (pt_cmpR op_gt (pe_callB call_len_seq (by rfl) T.len PySem.boot_len (pa_cons (pv 4) pa_nil)) (pv 3) (nomark _))
        (pw_or1 (pt_not (pt_val (pe_callB (cr_all rfl) (by rfl) T.all (by decide +kernel) (pa_cons (pe_lc (own := [("row", 8)]) (g := gName 8) (tt := tYes) rfl scAreBars.nd (pi_tup (pv 4)) (blkOk_by (N := ["cells", "sizes", "wanted", "most", "value", "at", "start", "size", "row"]) (sc := defScope sAreBars) (by decide +kernel))
          (fun _ _ _ _ _ => pg_name (i := 8) scAreBars.nd rfl (Or.inl rfl)) (fun _ _ _ _ _ => pts_nil) (fun _ _ _ _ _ => pe_call G2 hr (by rfl) m2 k2 b2 .nil pass0 (pa_cons (pv 8) (pa_cons pe_int pa_nil)))) pa_nil)))))))) (pss_one (ps_ret pe_bl)) pss_nil)
      (pss_cons (ps_set (i := 5) scAreBars.nd rfl (Or.inl rfl) pe_int)
      (pss_cons (ps_for PassesOwn.never rfl (pi_tup (pv 4)) (pg_tup (t := gCons (gName 6) (gCons (gName 7) gNil)) (n := 2) rfl (pgs_cons (pg_name (i := 6) scAreBars.nd rfl (Or.inl rfl)) (pgs_cons (pg_name (i := 7) scAreBars.nd rfl (Or.inl rfl)) pgs_nil)))
        (pss_cons (ps_if (PW.pt (pw_or (pt_not (pt_val (pe_call G3 hr (by rfl) m3 k3 b3 .nil pass0 (pa_cons (pv 6) (pa_cons (pv 5) (pa_cons (pe_op op_sub (pe_callB (call_min2 rfl) (by rfl) T.min (by decide +kernel) (pa_cons (pe_op op_add (pv 5) (pv 2)) (pa_cons (pv 0) pa_nil))) pe_int) pa_nil))))))
            (pw_or (pt_not (pt_val (pe_call G4 (hr.mono (by omega)) (by rfl) m4 k4 b4 .nil pass0 (pa_cons (pv 7) pa_nil)))) (pw_or1 (pt_cmpR op_notIn_seq (pv 7) (pv 1) (by with_unfolding_all rfl)))))) (pss_one (ps_ret pe_bl)) pss_nil)
        (pss_one (ps_set (i := 5) scAreBars.nd rfl (Or.inl rfl) (pe_op op_add (pv 6) (pv 7))))))
      (pss_one (ps_ret (pe_chain op_lt op_le (pe_op op_sub (pv 0) (pv 2)) (pv 5) (pv 0))))))), ?_⟩
    refine ⟨_, rfl, v, d, rfl, hd, fun H1 s1 => ⟨_, rfl, ?_⟩⟩
    cases hsq : isSeq d with
    | false =>
      rw [areB_other hsq] at hq
      exact iteT (iteT (hq _ s1))
    | true =>
    refine iteF ?_
    have htup : ∃ ds, d = .tuple ds := by
      cases d with
      | tuple ds => exact ⟨ds, rfl⟩
      | list ds => simp [tupOnly] at ht
      | _ => cases hsq
    obtain ⟨ds, rfl⟩ := htup
    have hl6 := hlen ds rfl
    rw [tupOnly] at ht
    cases hd with
    | tup sq ax =>
    rename_i p xs
    have exl := dpAll_len ax
    refine ⟨_, rfl, _, _, rfl, .inr (sqT_same s1 sq), _, rfl, _, _, rfl, rfl, _, rfl, ?_⟩
    by_cases hml : m < (xs.length : Int)
    · rw [decide_eq_true hml]
      refine iteT (iteT ?_)
      have e : areB c wn m zs (.tuple ds) = false := by
        show (decide ((ds.length : Int) ≤ m) && _) = false
        rw [decide_eq_false (by omega), Bool.false_and]
      rw [e] at hq
      exact hq _ s1
    rw [decide_eq_false hml]
    refine iteF ?_
    refine ⟨_, rfl, p, rfl, ⟨_, sqT_same s1 sq⟩, fun D nD => ?_⟩
    refine lc_dpT (K := K) (keep := fun _ => true) (F := fun d => .bool (isPlain d 2)) hl6 (sqT_same s1 sq) nD (dpAll_same s1 ax) (fun d hd _ => rfl) (fun x d H3 s3 hx hmem R S hR hS => ?_) (fun H2 ys s2 eD hys => ?_)
    · refine ⟨wipe_one _ 8 _, ?_⟩
      dsimp only [tYes]
      rw [if_pos rfl]
      exact ⟨_, rfl, _, _, _, rfl, hx, fun H' s4 => hR _ _ s4 rfl (.bl _)⟩
    rw [filter_tt] at hys
    have hb := bools_of (bs := ds.map fun d => isPlain d 2) (ys := ys) (by rw [List.map_map]; exact hys)
    subst hb
    refine ⟨D, _, rfl, .inl (.inl eD), _, rfl, ?_⟩
    have s12 := s1.trans s2
    have e0 : areB c wn m zs (.tuple ds) = ((ds.map fun d => isPlain d 2).all id && walkB c wn zs 0 ds) := by
      show (decide ((ds.length : Int) ≤ m) && _) = _
      rw [decide_eq_true (by omega), Bool.true_and]
    rw [e0] at hq
    cases hall : (ds.map fun d => isPlain d 2).all id with
    | false =>
      rw [hall, Bool.false_and] at hq
      exact iteT (hq _ s12)
    | true =>
    rw [hall, Bool.true_and] at hq
    refine iteF ?_
    have hpl : ∀ d ∈ ds, isPlain d 2 = true := fun d hd => List.all_eq_true.mp hall _ (List.mem_map.mpr ⟨d, hd, rfl⟩)
    refine ⟨_, rfl, p, rfl, ⟨_, sqT_same s12 sq⟩, ?_⟩
    refine for_tup (K := K) (xs := xs) (fun i σ H' => ∃ at_ x6 x7 x8, σ = [some (.int c), some (.ref a), some (.int wn), some (.int m), some (.ref p), some (.int at_), x6, x7, x8] ∧ Same H H' ∧ walkB c wn zs 0 ds = walkB c wn zs at_ (ds.drop i)) ?_ (fun i σ H' hi q => ?_) (fun i x σ H' hx q => ?_) (fun σ H' q => ?_)
    · exact ⟨0, _, _, _, rfl, s12, rfl⟩
    · obtain ⟨_, _, _, _, _, sH, _⟩ := q
      exact sqT_same sH sq
    · obtain ⟨at_, x6, x7, x8, rfl, sH, hwk⟩ := q
      obtain ⟨d, hdi, hdx⟩ := dpAll_get (dpAll_same sH ax) hx
      obtain ⟨x, y, rfl⟩ := plain2 (tupAll_mem ht (List.mem_of_getElem? hdi)) (hpl _ (List.mem_of_getElem? hdi))
      have hdrop : ds.drop i = .tuple [x, y] :: ds.drop (i + 1) := by
        obtain ⟨h1, h2⟩ := List.getElem?_eq_some_iff.mp hdi
        rw [← h2]
        exact List.drop_eq_getElem_cons h1
      rw [hdrop, walkB] at hwk
      cases hdx with
      | tup sx ax' =>
      cases ax' with
      | cons h1 ax' =>
      cases ax' with
      | cons h2 ax' =>
      cases ax'
      refine ⟨_, _, rfl, sx, rfl, _, _, rfl, _, _, rfl, rfl, ?_⟩
      refine ⟨_, rfl, _, rfl, _, rfl, _, rfl, _, _, rfl, rfl, _, rfl, _, _, rfl, _, _, rfl, rfl, _, _, _, _, rfl, h1, _, rfl, ?_⟩
      show (if (!inI x at_ (topE c wn at_)) = true then _ else _)
      cases hin : inI x at_ (topE c wn at_) with
      | false =>
        rw [stepB_no (.inl hin)] at hwk
        rw [hwk] at hq
        exact iteT (iteT (hq _ sH))
      | true =>
      refine iteF ?_
      refine ⟨_, rfl, _, _, rfl, h2, _, rfl, ?_⟩
      cases hiy : isInt y with
      | false =>
        rw [stepB_no (.inr hiy)] at hwk
        rw [hwk] at hq
        exact iteT (iteT (hq _ sH))
      | true =>
      refine iteF ?_
      have ey : ∃ z, y = .int z := by
        cases y <;> first | exact ⟨_, rfl⟩ | cases hiy
      obtain ⟨z, rfl⟩ := ey
      have ex : ∃ u, x = .int u := by
        cases x <;> first | exact ⟨_, rfl⟩ | cases hin
      obtain ⟨u, rfl⟩ := ex
      cases h1
      cases h2
      have hin2 : (decide (at_ ≤ u) && decide (u ≤ topE c wn at_)) = true := hin
      rw [Bool.and_eq_true, decide_eq_true_iff, decide_eq_true_iff] at hin2
      refine ⟨_, rfl, _, rfl, a, _, rfl, .inl (sH.seq hs), rfl, flat_ints zs, _, rfl, ?_⟩
      rw [if_pos rfl, inV_int]
      by_cases hz : z ∈ zs
      · rw [decide_eq_true hz]
        refine iteF ?_
        refine ⟨_, rfl, _, rfl, _, _, rfl, rfl, u + z, _, _, _, rfl, sH, ?_⟩
        rw [hwk]
        rw [stepB_int, if_pos ⟨hin2.1, hin2.2, hz⟩]
      · rw [decide_eq_false hz]
        refine iteT ?_
        have e : stepB c wn zs at_ (.tuple [.int u, .int z]) = none := by
          rw [stepB_int, if_neg (fun q => hz q.2.2)]
        rw [e] at hwk
        rw [hwk] at hq
        exact hq _ sH
    · obtain ⟨at_, x6, x7, x8, rfl, sH, hwk⟩ := q
      rw [exl, List.drop_length, walkB] at hwk
      rw [hwk] at hq
      refine ⟨_, rfl, _, rfl, _, _, rfl, rfl, _, rfl, _, _, rfl, rfl, _, rfl, ?_⟩
      by_cases h1 : c - wn < at_
      · rw [decide_eq_true h1]
        rw [decide_eq_true h1, Bool.true_and] at hq
        exact iteT ⟨_, rfl, _, _, rfl, rfl, hq _ sH⟩
      · rw [decide_eq_false h1]
        rw [decide_eq_false h1, Bool.false_and] at hq
        exact iteF (hq _ sH)
end
end K23
set_option maxHeartbeats 1000000
namespace K23
open PySem PySem.Spec PyProof.Rows L2 KSup NdefX StX
section
variable {X : Cx} {CX : CXT} {k : Nat} {f C : Addr} {sp : Sp} {E : XK} {x : Str} {p pos : Pos}
theorem pe_makeR0 (M : Mk X.K C f) (F : FnR X.prog X.w X.K X.mg X.base CX k f sp) (hr : Room (k + 1) X.A) (hg : Gl X x) (hm : X.mg x = some (.ref C)) (hx : Passes CX X E) (hdb : (x == ("__debug__" : Str)) = false := by decide) :
    PE X (.Call (.Name x p) [] [] pos) (tMakeR C sp E tNil) := by
  refine ⟨fun pins s σ H Q I h => ?_⟩
  refine wpAny_Call_Name_kw (ld_glob I hg hm ?_ hdb)
  exact PySem.W.callWith_K0 I.kIn M.kp (run_makeR (us := []) M F hr hx I .nil h)
end
/-! ### papers of bars -/
def IsBD (K : PySem.W.Frag) (H : Hp) (C a : Addr) (x y : PyData) : Prop := ∃ dx v c b, H a = some (.ins C dx [("word", .str "bars"), ("parts", v), ("cells", c), ("blocks", b)]) ∧ Dp K H v (.tuple [x, y]) ∧ Dp K H c x ∧ Dp K H b y
def IsUB (K : PySem.W.Frag) (H : Hp) (C a : Addr) : Prop := ∃ dx v, H a = some (.ins C dx [("word", .str "unbarred"), ("parts", v)]) ∧ Dp K H v (.tuple [])
section
variable {K : PySem.W.Frag} {H H' : Hp} {C a : Addr} {x y : PyData}
theorem IsBD.same (s : Same H H') (h : IsBD K H C a x y) : IsBD K H' C a x y := by
  obtain ⟨dx, v, c, b, h1, h2, h3, h4⟩ := h
  exact ⟨dx, v, c, b, s _ _ h1, dp_same s h2, dp_same s h3, dp_same s h4⟩
theorem IsUB.same (s : Same H H') (h : IsUB K H C a) : IsUB K H' C a := by
  obtain ⟨dx, v, h1, h2⟩ := h
  exact ⟨dx, v, s _ _ h1, dp_same s h2⟩
theorem same_make {x dx C : Addr} (nx : H x = none) (nd : H dx = none) (b : But x (upd (upd H dx (.own x)) x (.ins C dx [])) H') : Same H H' := fun c o e => by
  have h1 := ne_of_none e nx
  refine b c o h1 ?_
  rw [upd_ne h1, upd_ne (ne_of_none e nd)]
  exact e
theorem noSeq_fresh {x dx C : Addr} : NoSeq x (upd (upd H dx (.own x)) x (.ins C dx [])) := noSeq_ins upd_same
theorem same_fresh {x dx : Addr} {o u : HO} (nx : H x = none) (nd : H dx = none) : Same H (upd (upd H dx u) x o) := fun c v e => by
  rw [upd_ne (ne_of_none e nx), upd_ne (ne_of_none e nd)]
  exact e
theorem make_bars {n : Nat} {c b : V} {dc db : PyData} {Q : VK} {E : XK} (hc : Dp K H c dc) (hb : Dp K H b db) (hf : fits n (.tuple [dc, db])) (h : ∀ H' x, Same H H' → IsBD K H' C x (tupD dc) (tupD db) → Q (.ref x) H') :
    ∀ x dx, H x = none → H dx = none → dx ≠ x → spBInit K C n (V.ref x :: [c, b]) (upd (upd H dx (.own x)) x (.ins C dx [])) (fun v H2 => v = .non ∧ Q (.ref x) H2) E := fun x dx nx nd _ => by
  have s1 := same_fresh (o := .ins C dx []) (u := .own x) nx nd
  refine ⟨x, dx, c, b, dc, db, rfl, upd_same, dp_same s1 hc, dp_same s1 hb, hf, fun H' v c' b' bt e d1 d2 d3 => ⟨rfl, ?_⟩⟩
  rw [tupD, tupDs, tupDs, tupDs] at d1
  exact h H' x (same_make nx nd bt) ⟨dx, v, c', b', e, d1, d2, d3⟩
theorem make_unb {Q : VK} {E : XK} (h : ∀ H' x, Same H H' → IsUB K H' C x → Q (.ref x) H') :
    ∀ x dx, H x = none → H dx = none → dx ≠ x → spUInit K C (V.ref x :: []) (upd (upd H dx (.own x)) x (.ins C dx [])) (fun v H2 => v = .non ∧ Q (.ref x) H2) E := fun x dx nx nd _ =>
  ⟨x, dx, rfl, upd_same, fun H' v bt e d1 => ⟨rfl, h H' x (same_make nx nd bt) ⟨dx, v, e, d1⟩⟩⟩
end
theorem tupD_encB (b : Blk) : tupD (encB b) = encB b := by simp [encB, tupD, tupDs]
theorem tupD_encBs (bs : List Blk) : tupD (encBs bs) = encBs bs := by
  unfold encBs
  rw [tupD, tupDs_map, List.map_map]
  exact congrArg PyData.tuple (List.map_congr_left fun b _ => tupD_encB b)
theorem fits_int (n : Nat) (i : Int) : fits n (.int i) := by cases n <;> simp [fits]
theorem fits_encB (n : Nat) (b : Blk) : fits (n + 1) (encB b) := by
  unfold encB
  rw [fits]
  refine ⟨by simp, fun d hd => ?_⟩
  simp at hd
  rcases hd with rfl | rfl <;> exact fits_int _ _
theorem fits_encBs (n : Nat) {bs : List Blk} (h : bs.length ≤ 1000000) : fits (n + 2) (encBs bs) := by
  unfold encBs
  rw [fits]
  refine ⟨by rw [List.length_map]; exact h, fun d hd => ?_⟩
  obtain ⟨b, _, rfl⟩ := List.mem_map.mp hd
  exact fits_encB n b
theorem fits_two {n : Nat} {x y : PyData} (hx : fits n x) (hy : fits n y) : fits (n + 1) (.tuple [x, y]) := by
  rw [fits]
  refine ⟨by simp, fun d hd => ?_⟩
  simp at hd
  rcases hd with rfl | rfl
  · exact hx
  · exact hy
theorem FinB.congr {c w m : Int} {S S' : Int → Prop} (h : ∀ z, S z ↔ S' z) (r : Row) : FinB c w S m r ↔ FinB c w S' m r :=
  ⟨fun ⟨k, e, h1, h2, h3⟩ => ⟨k, e, h1, h2.mono fun z q => (h z).mp q, h3⟩, fun ⟨k, e, h1, h2, h3⟩ => ⟨k, e, h1, h2.mono fun z q => (h z).mpr q, h3⟩⟩
theorem FinB.len {c w m : Int} {S : Int → Prop} {r : Row} (h : FinB c w S m r) : (r.2.length : Int) ≤ m := by
  obtain ⟨k, e, h1, h2, _⟩ := h
  rw [h2.len]
  exact h1
section
variable {P : Program} {w : World} {K : PySem.W.Frag} {mg : Str → Option Value} {base : Heap} {f g1 g2 fB fU CB CU : Addr} {fd gd1 gd2 : FuncData}
/-- the arguments are fit: a room, a list of sizes, a breadth, a number -/
structure Arg (K : PySem.W.Frag) (H : Hp) (c wn m : Int) (a : Addr) (ns : List Int) : Prop where
  c : 1 ≤ c ∧ c ≤ 12
  w : 1 ≤ wn ∧ wn ≤ 12
  m : 0 ≤ m ∧ m ≤ 12
  s : SqL K H a (ns.map V.int)
  l1 : 1 ≤ ns.length
  l2 : ns.length ≤ 12
  z : ∀ n ∈ ns, 1 ≤ n ∧ n ≤ 3
def spBars (K : PySem.W.Frag) (CB CU : Addr) : Sp := fun vs H Q _ => ∃ (c wn m : Int) (a : Addr) (ns : List Int), vs = [.int c, .ref a, .int wn, .int m] ∧ Arg K H c wn m a ns ∧
  (∀ H' x, Same H H' → (∀ r, ¬ FinB c wn (· ∈ ns) m r) → IsUB K H' CU x → Q (.ref x) H') ∧ ∀ H' x r, Same H H' → IsMin (FinB c wn (· ∈ ns) m) r → IsBD K H' CB x (.int r.1) (encBs r.2) → Q (.ref x) H'
theorem ok_bars {dvs : List V} (F : FunD K "bars" "bars" (defArgs sBars) (defBody sBars) (defScope sBars) dvs [] f fd)
    (G1 : FnOk P w K mg base CX0 4 g1 gd1 ["cells", "sizes", "wanted", "most"] (spNeedBars K)) (k1 : PySem.W.keepIn K (.ref g1) = true) (b1 : Binds K gd1 ["cells", "sizes", "wanted", "most"] []) (m1 : mg "need_bars" = some (.ref g1))
    (G2 : FnOk P w K mg base CX0 2 g2 gd2 ["cells", "sizes", "wanted", "most"] (spLeast K)) (k2 : PySem.W.keepIn K (.ref g2) = true) (b2 : Binds K gd2 ["cells", "sizes", "wanted", "most"] []) (m2 : mg "least_bars" = some (.ref g2))
    (MB : Mk K CB fB) (FB : FnR P w K mg base CX0 7 fB (spBInit K CB 4)) (mB : mg "Bars" = some (.ref CB)) (MU : Mk K CU fU) (FU : FnR P w K mg base CX0 7 fU (spUInit K CU)) (mU : mg "Unbarred" = some (.ref CU)) :
    FnOk P w K mg base CX0 9 f fd ["cells", "sizes", "wanted", "most"] (spBars K CB CU) := by
  refine F.ok scBars (fun vs H Q E h => ?_) (fun cdv A outer s H vs Q E hr h => ?_)
  · obtain ⟨c, wn, m, a, ns, rfl, _⟩ := h
    rfl
  · obtain ⟨c, wn, m, a, ns, rfl, ag, hqu, hqb⟩ := h
    refine ⟨_, PSs.nox (pss_cons (ps_set (i := 4) scBars.nd rfl (Or.inl rfl) (pe_call G1 (hr.mono (by omega)) (by rfl) m1 k1 b1 .nil pass0 (pa_cons (pv 0) (pa_cons (pv 1) (pa_cons (pv 2) (pa_cons (pv 3) pa_nil))))))
      (pss_cons (ps_set (i := 5) scBars.nd rfl (Or.inl rfl) (pe_call G2 (hr.mono (by omega)) (by rfl) m2 k2 b2 .nil pass0 (pa_cons (pv 0) (pa_cons (pv 4) (pa_cons (pv 2) (pa_cons (pv 3) pa_nil))))))
      (pss_one (ps_ret (pe_ifExp (pt_cmpR op_isN (pv 5) pe_non (nomark _)) (pe_makeR0 MU FU hr (by rfl) mU pass0)
        (pe_makeR MB FB hr (by rfl) mB pass0 (pa_cons (pe_ix ix_tup (pv 5) pe_int (fun _ _ => rfl)) (pa_cons (pe_ix ix_tup (pv 5) pe_int (fun _ _ => rfl)) pa_nil))))))))  , ?_⟩
    refine ⟨_, rfl, _, rfl, _, rfl, _, rfl, c, wn, m, a, ns, rfl, ag.c, ag.w, ag.m, ag.s, ag.l1, ag.l2, ag.z, fun H1 p ns' s1 hp pw mem => ?_⟩
    refine ⟨_, rfl, _, rfl, _, rfl, _, rfl, p, c, wn, m, ns', rfl, .inl (.inl hp), fun z hz => ag.z z ((mem z).mp hz), ag.c, ag.w, ag.m, fun H2 s2 hno => ?_, fun H2 v r s2 hmin hv => ?_⟩
    · refine ⟨_, rfl, rfl, _, rfl, iteT ?_⟩
      exact make_unb fun H3 x s3 hx => hqu H3 x ((s1.trans s2).trans s3) (fun r hr' => hno r ((FinB.congr mem r).mpr hr')) hx
    · obtain ⟨q, q2, xs, rfl, w1, w2, w3⟩ := dp_encR hv
      refine ⟨_, rfl, rfl, _, rfl, iteF ?_⟩
      refine ⟨_, rfl, q, _, 0, .int r.1, rfl, rfl, w1, rfl, _, rfl, q, _, 1, .ref q2, rfl, rfl, w1, rfl, ?_⟩
      have hlen := hmin.1.len
      have hm12 := ag.m
      refine make_bars (dc := .int r.1) (db := encBs r.2) (.int _) (.tup w2 w3) (fits_two (fits_int _ _) (fits_encBs 1 (by omega))) fun H3 x s3 hx => ?_
      rw [tupD_encBs] at hx
      exact hqb H3 x r ((s1.trans s2).trans s3) (hmin.congr fun t => FinB.congr mem t) (by simpa [tupD] using hx)
end
end K23
set_option maxHeartbeats 1000000
namespace K23
open PySem PySem.Spec PyProof.Rows L2 KSup NdefX StX
theorem tyX_same {K : PySem.W.Frag} {H H' : Hp} {v : V} {t : Value} (s : Same H H') (h : TyX K H v t) : TyX K H' v t := by
  cases h with
  | base h =>
    refine .base ?_
    cases h with
    | non => exact .non
    | bl x => exact .bl x
    | int i => exact .int i
    | str x => exact .str x
    | flt x => exact .flt x
    | lst e => exact .lst (s _ _ e)
    | frz e => exact .frz (s _ _ e)
    | tup e => exact .tup (s _ _ e)
    | dK e => exact .dK (s _ _ e)
    | dT e => exact .dT (s _ _ e)
    | ins e cl ha hn htk hm => exact .ins (s _ _ e) cl ha hn htk hm
  | byt b => exact .byt b
  | set e => exact .set (s _ _ e)
  | kList e c => exact .kList e c
  | kTuple e c => exact .kTuple e c
  | kDict e c => exact .kDict e c
  | fTuple e => exact .fTuple (s _ _ e)
  | fDict e => exact .fDict (s _ _ e)
/-- an own class, as isinstance asks of it -/
structure OwnC (K : PySem.W.Frag) (C : Addr) : Prop where
  cl : Cls K C
  ha : PySem.W.findIn K (.ref C) "__class__" = some (some (.builtin "object.__class__"))
  hn : PySem.W.specialIn K (.builtin "object.__class__") "__get__" = some (some (.builtin "getset_descriptor.__get__"))
  htk : PySem.W.takesIn K (.builtin "object.__class__") = some true
  hm : PySem.W.mroIn K C (.type "object") = some true
theorem OwnC.ty {K : PySem.W.Frag} {C : Addr} (o : OwnC K C) {H : Hp} {a dx : Addr} {fs : List (Str × V)} (h : H a = some (.ins C dx fs)) : TyX K H (.ref a) (.ref C) := .base (.ins h o.cl o.ha o.hn o.htk o.hm)
def secI : PyData → Int
  | .tuple [_, .int z] => z
  | _ => 0
def sizesD : PyData → Int
  | .tuple ds => (ds.map secI).sum
  | _ => 0
def cellsOk (r : Row) (y : PyData) : PyData → Bool
  | .int i => decide (i = r.1) && decide (r.1 = sizesD y)
  | _ => false
def showB (c wn m : Int) (ns : List Int) (x y : PyData) (r : Row) : Bool := areB c wn m ns y && cellsOk r y x
theorem walkB_ints {c wn : Int} {zs : List Int} : ∀ {ds : List PyData} {at_ : Int}, walkB c wn zs at_ ds = true → ∀ d ∈ ds, ∃ s z, d = .tuple [.int s, .int z]
  | [], _, _, d, h => by cases h
  | e :: ds, at_, h, d, hd => by
    rw [walkB] at h
    split at h
    · rename_i b hb
      rcases List.mem_cons.mp hd with hd | hd
      · subst hd
        unfold stepB at hb
        split at hb
        · exact ⟨_, _, rfl⟩
        · cases hb
      · exact walkB_ints h d hd
    · cases h
theorem areB_tup {c wn m : Int} {zs : List Int} {y : PyData} (h : areB c wn m zs y = true) : ∃ ds, y = .tuple ds ∧ ∀ d ∈ ds, ∃ s z, d = .tuple [.int s, .int z] := by
  cases y with
  | tuple ds =>
    have h : (decide ((ds.length : Int) ≤ m) && ((ds.map fun d => isPlain d 2).all id && walkB c wn zs 0 ds)) = true := h
    rw [Bool.and_eq_true, Bool.and_eq_true] at h
    exact ⟨ds, rfl, walkB_ints h.2.2⟩
  | _ => cases h
theorem stepB_congr {c wn : Int} {zs zs' : List Int} (h : ∀ z, z ∈ zs ↔ z ∈ zs') (at_ : Int) (d : PyData) : stepB c wn zs at_ d = stepB c wn zs' at_ d := by
  unfold stepB
  split
  · simp only [h]
  · rfl
theorem walkB_congr {c wn : Int} {zs zs' : List Int} (h : ∀ z, z ∈ zs ↔ z ∈ zs') : ∀ (ds : List PyData) (at_ : Int), walkB c wn zs at_ ds = walkB c wn zs' at_ ds
  | [], _ => by rw [walkB, walkB]
  | d :: ds, at_ => by
    rw [walkB, walkB, stepB_congr h]
    cases stepB c wn zs' at_ d with
    | none => rfl
    | some b => exact walkB_congr h ds b
theorem areB_congr {c wn m : Int} {zs zs' : List Int} (h : ∀ z, z ∈ zs ↔ z ∈ zs') (y : PyData) : areB c wn m zs y = areB c wn m zs' y := by
  cases y with
  | tuple ds =>
    show (_ && (_ && walkB c wn zs 0 ds)) = (_ && (_ && walkB c wn zs' 0 ds))
    rw [walkB_congr h]
  | _ => rfl
theorem ints_of {K : PySem.W.Frag} {H : Hp} : ∀ {ns : List Int} {ys : List V}, DpAll K H ys (ns.map PyData.int) → ys = ns.map V.int
  | [], _, h => by cases h; rfl
  | n :: ns, _, h => by
    cases h with
    | cons h1 h2 =>
      cases h1
      rw [List.map_cons, ints_of h2]
section
variable {P : Program} {w : World} {K : PySem.W.Frag} {mg : Str → Option Value} {base : Heap} {f g1 g2 g3 g4 CB CU : Addr} {fd gd1 gd2 gd3 gd4 : FuncData}
def spShows (K : PySem.W.Frag) (CB CU : Addr) : Sp := fun vs H Q _ => ∃ (c wn m : Int) (a : Addr) (ns : List Int) (v : V), vs = [.int c, .ref a, .int wn, .int m, v] ∧ Arg K H c wn m a ns ∧
  ((∃ x, v = .ref x ∧ IsUB K H CU x ∧ (∀ H', Same H H' → (∀ r, ¬ FinB c wn (· ∈ ns) m r) → Q (.bl true) H') ∧ ∀ H' r, Same H H' → IsMin (FinB c wn (· ∈ ns) m) r → Q (.bl false) H') ∨
   (∃ x dx dy, v = .ref x ∧ IsBD K H CB x dx dy ∧ tupOnly dy = true ∧ (∀ ds, dy = .tuple ds → ds.length ≤ 1000000) ∧ (∀ H', Same H H' → (∀ r, ¬ FinB c wn (· ∈ ns) m r) → Q (.bl false) H') ∧
      ∀ H' r, Same H H' → IsMin (FinB c wn (· ∈ ns) m) r → Q (.bl (showB c wn m ns dx dy r)) H') ∨
   (∃ t, TyX K H v t ∧ PySem.W.kitOne K t (.ref CU) = some false ∧ PySem.W.kitOne K t (.ref CB) = some false ∧ ∀ H', Same H H' → Q (.bl false) H'))
structure KitB (K : PySem.W.Frag) (CB CU : Addr) : Prop where
  oB : OwnC K CB
  oU : OwnC K CU
  pB : PapC K CB
  uu : PySem.W.kitOne K (.ref CU) (.ref CU) = some true
  bu : PySem.W.kitOne K (.ref CB) (.ref CU) = some false
  bb : PySem.W.kitOne K (.ref CB) (.ref CB) = some true
theorem ok_shows (F : FnP K "shows_bars" sShows f fd) (T : Bl mg) (kb : KitB K CB CU) (mB : mg "Bars" = some (.ref CB)) (mU : mg "Unbarred" = some (.ref CU))
    (G1 : FnOk P w K mg base CX0 4 g1 gd1 ["cells", "sizes", "wanted", "most"] (spNeedBars K)) (k1 : PySem.W.keepIn K (.ref g1) = true) (b1 : Binds K gd1 ["cells", "sizes", "wanted", "most"] []) (m1 : mg "need_bars" = some (.ref g1))
    (G2 : FnOk P w K mg base CX0 2 g2 gd2 ["cells", "sizes", "wanted", "most"] (spLeast K)) (k2 : PySem.W.keepIn K (.ref g2) = true) (b2 : Binds K gd2 ["cells", "sizes", "wanted", "most"] []) (m2 : mg "least_bars" = some (.ref g2))
    (G3 : FnOk P w K mg base CX0 3 g3 gd3 ["cells", "sizes", "wanted", "most", "value"] (spAreBars K)) (k3 : PySem.W.keepIn K (.ref g3) = true) (b3 : Binds K gd3 ["cells", "sizes", "wanted", "most", "value"] []) (m3 : mg "are_bars" = some (.ref g3))
    (G4 : FnOk P w K mg base CX0 1 g4 gd4 ["value"] (spIsInt K)) (k4 : PySem.W.keepIn K (.ref g4) = true) (b4 : Binds K gd4 ["value"] []) (m4 : mg "is_integer" = some (.ref g4)) :
    FnOk P w K mg base CX0 5 f fd ["cells", "sizes", "wanted", "most", "value"] (spShows K CB CU) := by
  refine F.ok scShows (fun vs H Q E h => ?_) (fun cdv A outer s H vs Q E hr h => ?_)
  · obtain ⟨c, wn, m, a, ns, v, rfl, _⟩ := h
    rfl
  · obtain ⟨c, wn, m, a, ns, v, rfl, ag, hv⟩ := h
    refine ⟨_, PSs.nox (pss_cons (ps_set (i := 5) scShows.nd rfl (Or.inl rfl) (pe_call G1 (hr.mono (by omega)) (by rfl) m1 k1 b1 .nil pass0 (pa_cons (pv 0) (pa_cons (pv 1) (pa_cons (pv 2) (pa_cons (pv 3) pa_nil))))))
      (pss_cons (ps_set (i := 6) scShows.nd rfl (Or.inl rfl) (pe_call G2 (hr.mono (by omega)) (by rfl) m2 k2 b2 .nil pass0 (pa_cons (pv 0) (pa_cons (pv 5) (pa_cons (pv 2) (pa_cons (pv 3) pa_nil))))))
      (pss_cons (ps_if (pt_val (pe_callB call_isi (by rfl) T.isi (by decide +kernel) (pa_cons (pv 4) (pa_cons (pe_glob (v := .ref CU) (by rfl) mU rfl) pa_nil)))) (pss_one (ps_ret (pe_cmpR op_isN (pv 6) pe_non (nomark _)))) pss_nil)
      (pss_cons (ps_if (PW.pt (pw_or (pt_cmpR op_isN (pv 6) pe_non (nomark _)) (pw_or (pt_not (pt_val (pe_callB call_isi (by rfl) T.isi (by decide +kernel) (pa_cons (pv 4) (pa_cons (pe_glob (v := .ref CB) (by rfl) mB rfl) pa_nil)))))
          (pw_or1 (pt_not (pt_val (pe_call G3 (hr.mono (by omega)) (by rfl) m3 k3 b3 .nil pass0 (pa_cons (pv 0) (pa_cons (pv 5) (pa_cons (pv 2) (pa_cons (pv 3) (pa_cons (pe_fld (pv 4) rfl) pa_nil))))))))))))
        (pss_one (ps_ret pe_bl)) pss_nil)
      (pss_one (ps_ret (pe_and (pe_call G4 (hr.mono (by omega)) (by rfl) m4 k4 b4 .nil pass0 (pa_cons (pe_fld (pv 4) rfl) pa_nil)) (pe_one (pe_chain op_eq op_eq (pe_fld (pv 4) rfl) (pe_ix ix_tup (pv 6) pe_int (fun _ _ => rfl))
        (pe_callB (cr_sum rfl) (by rfl) T.sum (by decide +kernel) (pa_cons (pe_lc (own := [("start", 7), ("size", 8)]) (g := gTup K 2 (gCons (gName 7) (gCons (gName 8) gNil))) (tt := tYes) rfl scShows.nd (pi_tup (pe_fld (pv 4) rfl))
          (blkOk_by (N := ["cells", "sizes", "wanted", "most", "value", "told", "found", "start", "size"]) (sc := defScope sShows) (by decide +kernel))
          (fun _ _ _ _ _ => pg_tup rfl (pgs_cons (pg_name (i := 7) scShows.nd rfl (Or.inl rfl)) (pgs_cons (pg_name (i := 8) scShows.nd rfl (Or.inl rfl)) pgs_nil)))
          (fun _ _ _ _ _ => pts_nil) (fun _ _ _ _ _ => pv 8)) pa_nil))))))))))), ?_⟩
    refine ⟨_, rfl, _, rfl, _, rfl, _, rfl, c, wn, m, a, ns, rfl, ag.c, ag.w, ag.m, ag.s, ag.l1, ag.l2, ag.z, fun H1 p ns' s1 hp pw mem => ?_⟩
    refine ⟨_, rfl, _, rfl, _, rfl, _, rfl, p, c, wn, m, ns', rfl, .inl (.inl hp), fun z hz => ag.z z ((mem z).mp hz), ag.c, ag.w, ag.m, fun H2 s2 hno => ?_, fun H2 v2 r s2 hmin hv2 => ?_⟩
    · have s12 := s1.trans s2
      have hno' : ∀ r, ¬ FinB c wn (· ∈ ns) m r := fun r hr' => hno r ((FinB.congr mem r).mpr hr')
      rcases hv with ⟨x, rfl, hx, hq1, _⟩ | ⟨x, dx, dy, rfl, hx, ht, hl, hq1, _⟩ | ⟨t, hty, e1, e2, hq⟩
      · obtain ⟨dx, v, hx1, _⟩ := hx
        exact ⟨_, rfl, _, _, _, _, _, rfl, .own _, kb.oU.ty (s12 _ _ hx1), kb.uu, _, rfl, iteT ⟨_, rfl, rfl, hq1 _ s12 hno'⟩⟩
      · obtain ⟨dx', v, c', b', hx1, _⟩ := hx
        refine ⟨_, rfl, _, _, _, _, _, rfl, .own _, kb.oB.ty (s12 _ _ hx1), kb.bu, _, rfl, iteF ?_⟩
        exact ⟨_, rfl, rfl, _, rfl, iteT (iteT (hq1 _ s12 hno'))⟩
      · refine ⟨_, rfl, _, _, _, _, _, rfl, .own _, tyX_same s12 hty, e1, _, rfl, iteF ?_⟩
        exact ⟨_, rfl, rfl, _, rfl, iteT (iteT (hq _ s12))⟩
    · have s12 := s1.trans s2
      have hmin' : IsMin (FinB c wn (· ∈ ns) m) r := hmin.congr fun t => FinB.congr mem t
      obtain ⟨q, q2, xs, rfl, w1, w2, w3⟩ := dp_encR hv2
      rcases hv with ⟨x, rfl, hx, _, hq1⟩ | ⟨x, dx, dy, rfl, hx, ht, hl, _, hq1⟩ | ⟨t, hty, e1, e2, hq⟩
      · obtain ⟨dx, v, hx1, _⟩ := hx
        exact ⟨_, rfl, _, _, _, _, _, rfl, .own _, kb.oU.ty (s12 _ _ hx1), kb.uu, _, rfl, iteT ⟨_, rfl, rfl, hq1 _ r s12 hmin'⟩⟩
      · obtain ⟨dx', v, c', b', hx1, _, hc, hb⟩ := hx
        refine ⟨_, rfl, _, _, _, _, _, rfl, .own _, kb.oB.ty (s12 _ _ hx1), kb.bu, _, rfl, iteF ?_⟩
        refine ⟨_, rfl, rfl, _, rfl, iteF ?_⟩
        refine ⟨_, rfl, _, _, _, _, _, rfl, .own _, kb.oB.ty (s12 _ _ hx1), kb.bb, _, rfl, iteF ?_⟩
        refine ⟨_, rfl, _, rfl, _, rfl, _, rfl, _, rfl, x, CB, dx', _, _, rfl, s12 _ _ hx1, kb.pB.cl, kb.pB.b, rfl, p, c, wn, m, ns', _, dy, rfl, .inl (.inl (s2 _ _ hp)), dp_same s12 hb, ht, hl, fun H3 s3 => ⟨_, rfl, ?_⟩⟩
        have s13 := s12.trans s3
        rw [areB_congr mem]
        have hshow : showB c wn m ns dx dy r = (areB c wn m ns dy && cellsOk r dy dx) := rfl
        cases ha : areB c wn m ns dy with
        | false =>
          have hq2 := hq1 _ r s13 hmin'
          rw [hshow, ha, Bool.false_and] at hq2
          exact iteT hq2
        | true =>
        refine iteF ?_
        obtain ⟨ds, rfl, hds⟩ := areB_tup ha
        have hx3 := s13 _ _ hx1
        have hc3 := dp_same s13 hc
        have hb3 := dp_same s13 hb
        have w13 := sqT_same s3 w1
        refine ⟨_, rfl, x, CB, dx', _, _, rfl, hx3, kb.pB.cl, kb.pB.c, rfl, _, dx, rfl, hc3, _, rfl, ?_⟩
        cases hi : isInt dx with
        | false =>
          have hq2 := hq1 _ r s13 hmin'
          have e : cellsOk r (.tuple ds) dx = false := by
            cases dx <;> first | rfl | cases hi
          rw [hshow, e, Bool.and_false] at hq2
          exact iteF hq2
        | true =>
        have ei : ∃ i, dx = .int i := by
          cases dx <;> first | exact ⟨_, rfl⟩ | cases hi
        obtain ⟨i, rfl⟩ := ei
        cases hc3
        refine iteT ?_
        have hsh : ∀ H', Same H H' → Q (.bl (decide (i = r.1) && decide (r.1 = (ds.map secI).sum))) H' := fun H' s' => by
          have hq2 := hq1 H' r s' hmin'
          rw [hshow, ha, Bool.true_and] at hq2
          exact hq2
        refine ⟨_, rfl, x, CB, dx', _, _, rfl, hx3, kb.pB.cl, kb.pB.c, rfl, _, rfl, q, _, 0, .int r.1, rfl, rfl, w13, rfl, rfl, _, rfl, ?_⟩
        by_cases hir : i = r.1
        · rw [decide_eq_true (by rw [hir])]
          refine iteT ?_
          cases hb3 with
          | tup sqb axb =>
          refine ⟨_, rfl, x, CB, dx', _, _, rfl, hx3, kb.pB.cl, kb.pB.b, rfl, _, rfl, ⟨_, sqb⟩, fun D nD => ?_⟩
          refine lc_dpT (K := K) (keep := fun _ => true) (F := sndD) (hl ds rfl) sqb nD axb (fun d hd _ => ?_) (fun z d H4 s4 hz hmem R S hR hS => ?_) (fun H4 ys s4 eD hys => ?_)
          · obtain ⟨u, z, rfl⟩ := hds d hd
            rfl
          · obtain ⟨u, zz, rfl⟩ := hds d hmem
            cases hz with
            | tup sx ax =>
              cases ax with
              | cons h1 ax =>
                cases ax with
                | cons h2 ax =>
                  cases ax
                  refine ⟨_, _, rfl, sx, rfl, _, _, rfl, _, _, rfl, rfl, wipe_two _ 7 8 _ _, ?_⟩
                  dsimp only [tYes]
                  rw [if_pos rfl]
                  exact ⟨_, rfl, hR _ _ (Same.refl _) rfl h2⟩
          · rw [filter_tt] at hys
            have e2 : ds.map sndD = (ds.map secI).map PyData.int := by
              rw [List.map_map]
              refine List.map_congr_left fun d hd => ?_
              obtain ⟨u, z, rfl⟩ := hds d hd
              rfl
            rw [e2] at hys
            have hy := ints_of hys
            subst hy
            refine ⟨D, ds.map secI, rfl, .inl (.inl eD), rfl, ?_⟩
            have hz := hsh _ (s13.trans s4)
            rw [decide_eq_true hir, Bool.true_and] at hz
            have e3 : decide (V.int r.1 = V.int (ds.map secI).sum) = decide (r.1 = (ds.map secI).sum) := by
              by_cases h : r.1 = (ds.map secI).sum
              · rw [decide_eq_true h, decide_eq_true (by rw [h])]
              · rw [decide_eq_false h, decide_eq_false (fun z => h (by injection z))]
            rw [e3]
            exact hz
        · rw [decide_eq_false (fun z => hir (by injection z))]
          have hz := hsh _ s13
          rw [decide_eq_false hir, Bool.false_and] at hz
          exact iteF hz
      · refine ⟨_, rfl, _, _, _, _, _, rfl, .own _, tyX_same s12 hty, e1, _, rfl, iteF ?_⟩
        refine ⟨_, rfl, rfl, _, rfl, iteF ?_⟩
        exact ⟨_, rfl, _, _, _, _, _, rfl, .own _, tyX_same s12 hty, e2, _, rfl, iteT (iteT (hq _ s12))⟩
end
end K23
set_option maxHeartbeats 1000000
namespace K23
open PySem PySem.Spec PyProof.Rows L2 KSup NdefX StX
section
variable {P : Program} {w : World} {K : PySem.W.Frag} {mg : Str → Option Value} {base : Heap} {f g : Addr} {fd gd : FuncData}
/-- the pen at p, at most N draws old -/
def PenAt (H : Hp) (p : Addr) (N : Int) : Prop := ∃ (q : Addr) (ns : List Int) (at_ rest : Int), H p = some (.lst [.ref q, .int at_, .int rest]) ∧ H q = some (.lst (ns.map V.int)) ∧ p ≠ q ∧ ns.length ≤ 63 ∧ 0 ≤ at_ ∧ at_ ≤ N ∧ 0 ≤ rest
def spDraw (K : PySem.W.Frag) : Sp := fun vs H Q _ => ∃ (p : Addr) (many N : Int), vs = [.ref p, .int many] ∧ PenAt H p N ∧ N ≤ 1000 ∧ 1 ≤ many ∧ many ≤ 1000 ∧ ∀ H' r, But p H H' → PenAt H' p (N + 1) → 0 ≤ r → r < many → Q (.int r) H'
theorem fdiv_nn {a b : Int} (ha : 0 ≤ a) (hb : 0 < b) : 0 ≤ a.fdiv b := by
  rw [Int.fdiv_eq_ediv_of_nonneg _ (Int.le_of_lt hb)]
  exact Int.ediv_nonneg ha (Int.le_of_lt hb)
theorem mod_in {a b : Int} (hb : 0 < b) : 0 ≤ a % b ∧ a % b < b := ⟨Int.emod_nonneg _ (by omega), Int.emod_lt_of_pos _ hb⟩
theorem mul_in {a b m n : Int} (h1 : 0 ≤ a) (h2 : a ≤ m) (h3 : 0 ≤ b) (h4 : b ≤ n) : 0 ≤ a * b ∧ a * b ≤ m * n := ⟨Int.mul_nonneg h1 h3, Int.mul_le_mul h2 h4 h3 (by omega)⟩
theorem shaped_ints (ns : List Int) : SeqAt.shaped (.list (ns.map PyData.int)) = true := by
  have h1 : ∀ l : List Int, PyData.canLayAll0 (l.map PyData.int) = true := fun l => by
    induction l with
    | nil => simp [PyData.canLayAll0]
    | cons x l ih => simp [PyData.canLayAll0, PyData.canLay0, ih]
  have h2 : ∀ l : List Int, PyData.depthAll (l.map PyData.int) = 0 := fun l => by
    induction l with
    | nil => simp [PyData.depthAll]
    | cons x l ih => simp [PyData.depthAll, PyData.depth, ih]
  unfold SeqAt.shaped
  rw [PyData.canLay0, h1, Bool.true_and, decide_eq_true_iff, PyData.depth, h2]
  omega
theorem iteC {c : Bool} {A B : Prop} (h1 : c = true → A) (h2 : c = false → B) : if c = true then A else B := by
  cases c
  · exact h2 rfl
  · exact h1 rfl
theorem atI_int {ns : List Int} {i : Int} (h0 : 0 ≤ i) (h1 : i < (ns.length : Int)) : ∃ c, atI (ns.map V.int) i = some (.int c) := by
  unfold atI ixN
  rw [if_pos h0, List.length_map, if_pos h1]
  have h2 : i.toNat < ns.length := by omega
  refine ⟨ns[i.toNat], ?_⟩
  show (ns.map V.int)[i.toNat]? = _
  rw [List.getElem?_map, List.getElem?_eq_getElem h2]
  rfl
theorem base5 (x : Int) {a : Int} (h0 : 0 ≤ a) (h1 : a ≤ 1000) : (x % 2147483549 + 61543 * a + 2018).natAbs < 2 ^ 64 := by
  have := mod_in (a := x) (b := 2147483549) (by decide)
  omega
theorem mulL (x : Int) : -(2 ^ 64) < x % 2147483563 ∧ x % 2147483563 < 2 ^ 64 := by
  have := mod_in (a := x) (b := 2147483563) (by decide)
  omega
theorem mulA {a : Int} (h0 : 0 ≤ a) (h1 : a ≤ 1000) : -(2 ^ 64) < 20183 * a ∧ 20183 * a < 2 ^ 64 := by omega
theorem base3 (x : Int) {a : Int} (h0 : 0 ≤ a) (h1 : a ≤ 1000) : (x % 2147483563 * (2 * a + 2018) + 20183 * a * a + 61543).natAbs < 2 ^ 64 := by
  have h := mod_in (a := x) (b := 2147483563) (by decide)
  have h2 := mul_in h.1 (Int.le_of_lt h.2) (show 0 ≤ 2 * a + 2018 by omega) (show 2 * a + 2018 ≤ 5000 by omega)
  have h3 := mul_in (show 0 ≤ 20183 * a by omega) (show 20183 * a ≤ 20183000 by omega) h0 h1
  omega
theorem ok_draw (F : FnP K "_law_draw" sDraw f fd) (T : Bl mg) : FnOk P w K mg base CX0 1 f fd ["pen", "many"] (spDraw K) := by
  refine F.ok scDraw (fun vs H Q E h => ?_) (fun cdv A outer s H vs Q E hr h => ?_)
  · obtain ⟨p, many, N, rfl, _⟩ := h
    rfl
  · obtain ⟨p, many, N, rfl, hpen, hN, hm1, hm2, hq⟩ := h
    refine ⟨_, PSs.nox (pss_cons (ps_if (pt_cmpR op_gt (pe_ix ix_list (pv 0) pe_int (fun _ _ => rfl)) pe_int (nomark _))
        (pss_cons (ps_set (i := 2) scDraw.nd rfl (Or.inl rfl) (pe_callTy call_int1 (by rfl) T.int (by decide +kernel) (pa_cons (pe_ix ix_list (pv 0) pe_int (fun _ _ => rfl)) pa_nil)))
        (pss_cons (ps_asg (pe_op op_fdivN (pv 2) (pv 1)) (pg_sub (pv 0) pe_int set_list))
        (pss_one (ps_ret (pe_op op_mod (pe_callTy call_int1 (by rfl) T.int (by decide +kernel) (pa_cons (pv 2) pa_nil)) (pv 1)))))) pss_nil)
      (pss_cons (ps_set (i := 3) scDraw.nd rfl (Or.inl rfl) (pe_ix ix_list (pv 0) pe_int (fun _ _ => rfl)))
      (pss_cons (ps_asg (pe_op op_add (pv 3) pe_int) (pg_sub (pv 0) pe_int set_list))
      (pss_cons (ps_set (i := 4) scDraw.nd rfl (Or.inl rfl) (pe_op op_add (pe_op op_mul pe_int (pv 3)) pe_int))
      (pss_cons (ps_if (pt_cmpR (op_neD hr.units) (pe_ix ix_list (pv 0) pe_int (fun _ _ => rfl)) (pe_lst pa_nil) (nomark _))
        (pss_one (ps_set (i := 4) scDraw.nd rfl (Or.inl rfl) (pe_ix ix_list (pe_ix ix_list (pv 0) pe_int (fun _ _ => rfl)) (pe_op op_mod (pe_callTy call_int1 (by rfl) T.int (by decide +kernel) (pa_cons (pv 3) pa_nil)) (pe_callB call_len_seq (by rfl) T.len PySem.boot_len (pa_cons (pe_ix ix_list (pv 0) pe_int (fun _ _ => rfl)) pa_nil))) (fun _ _ => rfl)))) pss_nil)
      (pss_cons (ps_if (PW.pt (pw_and (pt_cmpR op_lt (pv 3) (pe_callB call_len_seq (by rfl) T.len PySem.boot_len (pa_cons (pe_ix ix_list (pv 0) pe_int (fun _ _ => rfl)) pa_nil)) (nomark _)) (pw_and1 (pt_cmpR op_ge (pe_callB call_abs (by rfl) T.abs (by decide +kernel) (pa_cons (pv 4) pa_nil)) (pe_op op_pow pe_int pe_int) (nomark _)))))
        (pss_cons (ps_set (i := 2) scDraw.nd rfl (Or.inl rfl) (pe_op op_add (pe_op op_mul pe_int (pe_op op_sub (pe_callB call_abs (by rfl) T.abs (by decide +kernel) (pa_cons (pv 4) pa_nil)) (pe_op op_pow pe_int pe_int))) (pe_callTy call_int1 (by rfl) T.int (by decide +kernel) (pa_cons (pe_cmpR op_lt (pv 4) pe_int (nomark _)) pa_nil))))
        (pss_cons (ps_asg (pe_op op_fdivN (pe_callTy call_int1 (by rfl) T.int (by decide +kernel) (pa_cons (pv 2) pa_nil)) (pv 1)) (pg_sub (pv 0) pe_int set_list))
        (pss_one (ps_ret (pe_op op_mod (pe_callTy call_int1 (by rfl) T.int (by decide +kernel) (pa_cons (pv 2) pa_nil)) (pv 1)))))) pss_nil)
      (pss_cons (ps_set (i := 5) scDraw.nd rfl (Or.inl rfl) (pe_op op_mod (pe_callTy call_int1 (by rfl) T.int (by decide +kernel) (pa_cons (pe_op op_pow (pe_op op_add (pe_op op_add (pe_op op_mod (pe_callTy call_int1 (by rfl) T.int (by decide +kernel) (pa_cons (pv 4) pa_nil)) pe_int) (pe_op op_mul pe_int (pv 3))) pe_int) pe_int) pa_nil)) pe_int))
      (pss_cons (ps_set (i := 5) scDraw.nd rfl (Or.inl rfl) (pe_op op_mod (pe_callTy call_int1 (by rfl) T.int (by decide +kernel) (pa_cons (pe_op op_pow (pe_op op_add (pe_op op_add (pe_op op_mul (pv 5) (pe_op op_add (pe_op op_mul pe_int (pv 3)) pe_int)) (pe_op op_mul (pe_op op_mul pe_int (pv 3)) (pv 3))) pe_int) pe_int) pa_nil)) pe_int))
      (pss_one (ps_ret (pe_op op_mod (pe_callTy call_int1 (by rfl) T.int (by decide +kernel) (pa_cons (pe_op op_fdivN (pv 5) pe_int) pa_nil)) (pv 1)))))))))))), ?_⟩
    obtain ⟨q, ns, at_, rest, hp, hqq, hpq, hns, ha0, haN, hr0⟩ := hpen
    have hpL : SqL K H p [.ref q, .int at_, .int rest] := .inl (.inl hp)
    refine ⟨_, rfl, p, _, 2, .int rest, rfl, rfl, hpL, rfl, _, _, rfl, rfl, _, rfl, ?_⟩
    have hmod : ∀ x : Int, 0 ≤ x % many ∧ x % many < many := fun x => mod_in (by omega)
    by_cases hrest : 0 < rest
    · rw [decide_eq_true hrest]
      refine iteT ?_
      refine ⟨_, rfl, p, _, 2, .int rest, rfl, rfl, hpL, rfl, .inl ⟨rest, rfl, ?_⟩⟩
      refine ⟨_, rfl, _, rfl, rest, many, rfl, rfl, ⟨by omega, by omega⟩, _, rfl, p, _, 2, 2, rfl, rfl, hp, rfl, ?_⟩
      refine ⟨_, rfl, .inl ⟨rest, rfl, _, rfl, rest, many, rfl, rfl, by omega, ?_⟩⟩
      exact hq _ _ but_upd ⟨q, ns, at_, rest.fdiv many, upd_same, by rw [upd_ne (Ne.symm hpq)]; exact hqq, hpq, hns, ha0, by omega, fdiv_nn hr0 (by omega)⟩ (hmod _).1 (hmod _).2
    rw [decide_eq_false hrest]
    refine iteF ?_
    refine ⟨_, rfl, p, _, 1, .int at_, rfl, rfl, hpL, rfl, ?_⟩
    refine ⟨_, rfl, _, _, rfl, rfl, _, rfl, p, _, 1, 1, rfl, rfl, hp, rfl, ?_⟩
    have b1 : But p H (upd H p (.lst ([V.ref q, .int at_, .int rest].set 1 (.int (at_ + 1))))) := but_upd
    have hp1 : upd H p (.lst ([V.ref q, .int at_, .int rest].set 1 (.int (at_ + 1)))) p = some (.lst [.ref q, .int (at_ + 1), .int rest]) := upd_same
    have hq1 : upd H p (.lst ([V.ref q, .int at_, .int rest].set 1 (.int (at_ + 1)))) q = some (.lst (ns.map V.int)) := by rw [upd_ne (Ne.symm hpq)]; exact hqq
    generalize upd H p (.lst ([V.ref q, .int at_, .int rest].set 1 (.int (at_ + 1)))) = H1 at *
    refine ⟨_, rfl, _, _, rfl, rfl, .inl ⟨by omega, by omega⟩, _, _, rfl, rfl, ?_⟩
    -- pen[0] != []
    have hpL1 : SqL K H1 p [.ref q, .int (at_ + 1), .int rest] := .inl (.inl hp1)
    refine ⟨_, rfl, p, _, 0, .ref q, rfl, rfl, hpL1, rfl, by rw [sizeLine_eq]; show 0 ≤ 16777216; omega, fun l nl => ?_⟩
    have s2 := same_upd (o := .lst []) nl
    have hl2 := upd_same (H := H1) (a := l) (o := .lst [])
    have hp2 := s2 _ _ hp1
    have hq2 := s2 _ _ hq1
    generalize upd H1 l (.lst []) = H2 at *
    have hpL2 : SqL K H2 p [.ref q, .int (at_ + 1), .int rest] := .inl (.inl hp2)
    have hqL2 : SqL K H2 q (ns.map V.int) := .inl (.inl hq2)
    have b2 : But p H H2 := b1.trans (sameBut s2)
    have eqe : PyData.eqv (.list (ns.map PyData.int)) (.list []) = decide (ns = []) := by
      cases ns <;> simp [PyData.eqv, PyData.eqvAll]
    refine ⟨.list (ns.map PyData.int), .list [], .lst hqL2 (dpAll_ints ns), .lst (.inl (.inl hl2)) .nil, shaped_ints ns, by decide +kernel, _, rfl, ?_⟩
    rw [eqe]
    have c63 : ((ns.map V.int).length : Int) ≤ 63 := by rw [List.length_map]; omega
    by_cases hemp : ns = []
    · rw [decide_eq_true hemp]
      refine iteF ?_
      refine ⟨_, rfl, _, rfl, p, _, 0, .ref q, rfl, rfl, hpL2, rfl, q, _, rfl, .inl hqL2, _, _, rfl, rfl, _, rfl, iteC (fun _ => ?_) (fun _ => iteF ?_)⟩
      · refine ⟨_, rfl, _, rfl, 10, 18, rfl, rfl, ⟨by decide, by decide, by decide⟩, _, _, rfl, rfl, _, rfl, iteC (fun hge => ?_) (fun _ => ?_)⟩
        · refine ⟨_, rfl, _, rfl, 10, 18, rfl, rfl, ⟨by decide, by decide, by decide⟩, _, _, rfl, rfl, _, _, rfl, rfl, .inl ⟨by decide, by decide⟩, _, rfl, _, _, rfl, rfl, .inr ⟨_, rfl, _, _, rfl, rfl, ?_⟩⟩
          refine ⟨_, rfl, .inl ⟨_, rfl, _, rfl, _, many, rfl, rfl, ⟨by omega, by omega⟩, _, rfl, p, _, 2, 2, rfl, rfl, hp2, rfl, ?_⟩⟩
          refine ⟨_, rfl, .inl ⟨_, rfl, _, rfl, _, many, rfl, rfl, by omega, ?_⟩⟩
          exact hq _ _ (b2.trans but_upd) ⟨q, ns, at_ + 1, _, upd_same, by rw [upd_ne (Ne.symm hpq)]; exact hq2, hpq, hns, by omega, by omega, fdiv_nn (Int.add_nonneg (Int.mul_nonneg (by decide) (Int.sub_nonneg_of_le (of_decide_eq_true hge))) (by split <;> decide)) (by omega)⟩ (hmod _).1 (hmod _).2
        · refine ⟨_, rfl, .inl ⟨_, rfl, _, _, rfl, rfl, (show (0 : Int) < 2147483549 by decide), _, rfl, _, _, rfl, rfl, .inl ⟨by decide, by decide⟩, _, _, rfl, rfl, _, _, rfl, rfl, _, _, rfl, rfl, ⟨by decide, by decide, base5 _ ha0 (by omega)⟩, .inl ⟨_, rfl, _, _, rfl, rfl, (show (0 : Int) < 2147483563 by decide), ?_⟩⟩⟩
          refine ⟨_, rfl, _, rfl, _, _, rfl, rfl, .inl ⟨by decide, by decide⟩, _, _, rfl, rfl, _, _, rfl, rfl, .inl (mulL _), _, rfl, _, _, rfl, rfl, .inl ⟨by decide, by decide⟩, _, rfl, _, _, rfl, rfl, .inl (mulA ha0 (by omega)), _, _, rfl, rfl, _, _, rfl, rfl, _, _, rfl, rfl, ⟨by decide, by decide, base3 _ ha0 (by omega)⟩, .inl ⟨_, rfl, _, _, rfl, rfl, (show (0 : Int) < 2147483587 by decide), ?_⟩⟩
          refine ⟨_, rfl, _, _, rfl, rfl, ⟨by decide, by decide⟩, .inl ⟨_, rfl, _, rfl, _, many, rfl, rfl, by omega, ?_⟩⟩
          exact hq _ _ b2 ⟨q, ns, at_ + 1, rest, hp2, hq2, hpq, hns, by omega, by omega, hr0⟩ (hmod _).1 (hmod _).2
      · refine ⟨_, rfl, .inl ⟨_, rfl, _, _, rfl, rfl, (show (0 : Int) < 2147483549 by decide), _, rfl, _, _, rfl, rfl, .inl ⟨by decide, by decide⟩, _, _, rfl, rfl, _, _, rfl, rfl, _, _, rfl, rfl, ⟨by decide, by decide, base5 _ ha0 (by omega)⟩, .inl ⟨_, rfl, _, _, rfl, rfl, (show (0 : Int) < 2147483563 by decide), ?_⟩⟩⟩
        refine ⟨_, rfl, _, rfl, _, _, rfl, rfl, .inl ⟨by decide, by decide⟩, _, _, rfl, rfl, _, _, rfl, rfl, .inl (mulL _), _, rfl, _, _, rfl, rfl, .inl ⟨by decide, by decide⟩, _, rfl, _, _, rfl, rfl, .inl (mulA ha0 (by omega)), _, _, rfl, rfl, _, _, rfl, rfl, _, _, rfl, rfl, ⟨by decide, by decide, base3 _ ha0 (by omega)⟩, .inl ⟨_, rfl, _, _, rfl, rfl, (show (0 : Int) < 2147483587 by decide), ?_⟩⟩
        refine ⟨_, rfl, _, _, rfl, rfl, ⟨by decide, by decide⟩, .inl ⟨_, rfl, _, rfl, _, many, rfl, rfl, by omega, ?_⟩⟩
        exact hq _ _ b2 ⟨q, ns, at_ + 1, rest, hp2, hq2, hpq, hns, by omega, by omega, hr0⟩ (hmod _).1 (hmod _).2
    · rw [decide_eq_false hemp]
      have hpos : 0 < ((ns.map V.int).length : Int) := by
        rw [List.length_map]
        have := List.length_pos_iff.mpr hemp
        omega
      obtain ⟨cell, hcell⟩ := atI_int (ns := ns) (i := at_ % ((ns.map V.int).length : Int)) (mod_in hpos).1 (Int.lt_of_lt_of_le (mod_in (a := at_) hpos).2 (by rw [List.length_map]; omega))
      refine iteT ?_
      refine ⟨_, rfl, p, _, 0, .ref q, rfl, rfl, hpL2, rfl, _, rfl, .inl ⟨at_, rfl, _, rfl, p, _, 0, .ref q, rfl, rfl, hpL2, rfl, q, _, rfl, .inl hqL2, _, _, rfl, rfl, hpos, q, _, _, .int cell, rfl, rfl, hqL2, hcell, ?_⟩⟩
      refine ⟨_, rfl, _, rfl, p, _, 0, .ref q, rfl, rfl, hpL2, rfl, q, _, rfl, .inl hqL2, _, _, rfl, rfl, _, rfl, iteC (fun _ => ?_) (fun _ => iteF ?_)⟩
      · refine ⟨_, rfl, _, rfl, 10, 18, rfl, rfl, ⟨by decide, by decide, by decide⟩, _, _, rfl, rfl, _, rfl, iteC (fun hge => ?_) (fun _ => ?_)⟩
        · refine ⟨_, rfl, _, rfl, 10, 18, rfl, rfl, ⟨by decide, by decide, by decide⟩, _, _, rfl, rfl, _, _, rfl, rfl, .inl ⟨by decide, by decide⟩, _, rfl, _, _, rfl, rfl, .inr ⟨_, rfl, _, _, rfl, rfl, ?_⟩⟩
          refine ⟨_, rfl, .inl ⟨_, rfl, _, rfl, _, many, rfl, rfl, ⟨by omega, by omega⟩, _, rfl, p, _, 2, 2, rfl, rfl, hp2, rfl, ?_⟩⟩
          refine ⟨_, rfl, .inl ⟨_, rfl, _, rfl, _, many, rfl, rfl, by omega, ?_⟩⟩
          exact hq _ _ (b2.trans but_upd) ⟨q, ns, at_ + 1, _, upd_same, by rw [upd_ne (Ne.symm hpq)]; exact hq2, hpq, hns, by omega, by omega, fdiv_nn (Int.add_nonneg (Int.mul_nonneg (by decide) (Int.sub_nonneg_of_le (of_decide_eq_true hge))) (by split <;> decide)) (by omega)⟩ (hmod _).1 (hmod _).2
        · refine ⟨_, rfl, .inl ⟨_, rfl, _, _, rfl, rfl, (show (0 : Int) < 2147483549 by decide), _, rfl, _, _, rfl, rfl, .inl ⟨by decide, by decide⟩, _, _, rfl, rfl, _, _, rfl, rfl, _, _, rfl, rfl, ⟨by decide, by decide, base5 _ ha0 (by omega)⟩, .inl ⟨_, rfl, _, _, rfl, rfl, (show (0 : Int) < 2147483563 by decide), ?_⟩⟩⟩
          refine ⟨_, rfl, _, rfl, _, _, rfl, rfl, .inl ⟨by decide, by decide⟩, _, _, rfl, rfl, _, _, rfl, rfl, .inl (mulL _), _, rfl, _, _, rfl, rfl, .inl ⟨by decide, by decide⟩, _, rfl, _, _, rfl, rfl, .inl (mulA ha0 (by omega)), _, _, rfl, rfl, _, _, rfl, rfl, _, _, rfl, rfl, ⟨by decide, by decide, base3 _ ha0 (by omega)⟩, .inl ⟨_, rfl, _, _, rfl, rfl, (show (0 : Int) < 2147483587 by decide), ?_⟩⟩
          refine ⟨_, rfl, _, _, rfl, rfl, ⟨by decide, by decide⟩, .inl ⟨_, rfl, _, rfl, _, many, rfl, rfl, by omega, ?_⟩⟩
          exact hq _ _ b2 ⟨q, ns, at_ + 1, rest, hp2, hq2, hpq, hns, by omega, by omega, hr0⟩ (hmod _).1 (hmod _).2
      · refine ⟨_, rfl, .inl ⟨_, rfl, _, _, rfl, rfl, (show (0 : Int) < 2147483549 by decide), _, rfl, _, _, rfl, rfl, .inl ⟨by decide, by decide⟩, _, _, rfl, rfl, _, _, rfl, rfl, _, _, rfl, rfl, ⟨by decide, by decide, base5 _ ha0 (by omega)⟩, .inl ⟨_, rfl, _, _, rfl, rfl, (show (0 : Int) < 2147483563 by decide), ?_⟩⟩⟩
        refine ⟨_, rfl, _, rfl, _, _, rfl, rfl, .inl ⟨by decide, by decide⟩, _, _, rfl, rfl, _, _, rfl, rfl, .inl (mulL _), _, rfl, _, _, rfl, rfl, .inl ⟨by decide, by decide⟩, _, rfl, _, _, rfl, rfl, .inl (mulA ha0 (by omega)), _, _, rfl, rfl, _, _, rfl, rfl, _, _, rfl, rfl, ⟨by decide, by decide, base3 _ ha0 (by omega)⟩, .inl ⟨_, rfl, _, _, rfl, rfl, (show (0 : Int) < 2147483587 by decide), ?_⟩⟩
        refine ⟨_, rfl, _, _, rfl, rfl, ⟨by decide, by decide⟩, .inl ⟨_, rfl, _, rfl, _, many, rfl, rfl, by omega, ?_⟩⟩
        exact hq _ _ b2 ⟨q, ns, at_ + 1, rest, hp2, hq2, hpq, hns, by omega, by omega, hr0⟩ (hmod _).1 (hmod _).2
end
end K23
set_option maxHeartbeats 1000000
namespace KSup
open PySem PySem.Spec PyProof.Rows L2
section
variable {X : Cx} {k v : Expr} {tk tv : TE} {pos : Pos}
/-- {k: v}, k a tuple of ints and texts -/
def tDisp1T (tk tv : TE) : TE := fun σ H Q => ∀ p, H p = none → tk σ (upd H p (.dT [])) fun x H1 => tv σ H1 fun y H2 => ∃ b ks, x = .ref b ∧ H2 p = some (.dT []) ∧ H2 b = some (.tup (ks.map kV)) ∧ Q (.ref p) (upd H2 p (.dT [(ks, y)]))
theorem pe_disp1T (hu : X.A.units + 1 < cLine) (hk : PE X k tk) (hv : PE X v tv) : PE X (.Dict [some k] [v] pos) (tDisp1T tk tv) := by
  refine ⟨fun pins s σ H Q I q => ?_⟩
  have hn := I.hok.fresh (Nat.le_refl s.heap.objs.size)
  have I1 := I.laid (a := s.heap.objs.size) (o := .dT []) (h' := s.heap.push { cls := .type "dict", data := .dict #[] }) (t' := s.toks) (fun _ _ q => Heap.get?_push_of_some _ q) (Nat.le_refl _) (dt_empty s.heap I.big)
  rw [arm_eval_Dict, zip_pairTrees [some k] [v] X.env pos rfl rfl, dictDisplay_pairs (pairTrees [some k] [v] X.env pos) (by simp [pairTrees]) (by simp [pairTrees])]
  refine wpAny_bind (wpAny_standAt (wpAny_bind ?_))
  unfold subDict
  refine wpAny_bind (wpAny_alloc ?_)
  refine wpAny_bind (wpAny_holding ?_)
  rw [if_pos (by simp [pairTrees])]
  refine wpAny_bind ?_
  refine pairTrees_cons_walk (thn (hk.run pins _ σ _ _ I1 (q _ hn)) fun u1 s1 ⟨x, H1, I2, r1, q1⟩ => thn (hv.run pins s1 σ H1 _ I2 q1) fun u2 s2 ⟨y, H2, I3, r2, b, ks, ex, hp, hb, q2⟩ => pairTrees_nil_walk ?_)
  subst ex
  obtain rfl : u1 = Value.ref b := r1
  refine wpAny_holding ?_
  rw [List.forIn_cons]
  obtain ⟨z, hd, xs, rel, dd⟩ := dt_of I3.hok hp
  cases rel
  refine wpAny_bind (wpAny_bind (wpAny_bind (wpAny_dictSet_heap (hsz := by simp) (knd := tupleKind (mixKind X.prog X.w)) (by first | exact Nat.lt_of_succ_lt hu | exact hu | (show _ < cLine; omega)) (key_of I3.hok hb) dd fun h' dd' hs => wpAny_pure ?_)))
  dsimp only
  rw [List.forIn_nil]
  refine wpAny_pure (wpAny_pure (wpAny_pure (wpAny_pure ?_)))
  obtain ⟨q', es, ep, hq, h2, h3, h4, _, h5⟩ := dd'
  refine ⟨.ref s.heap.objs.size, _, d_write (a := s.heap.objs.size) (ob := .dT [(ks, y)]) I3 (by rw [hp]; exact True.intro) hs ⟨q', hq⟩ ⟨by rw [sizeLine_eq]; show 1 ≤ 16777216; omega, hd, _, (KT.put (kvs := []) (xs := []) .nil ks hb r2).keeps fun c ys ec => ?_, q', es, ep, hq, h2, h3, h4, h5⟩, rfl, q2⟩
  rw [upd_ne (ne_of ec hp (fun z => nomatch z))]
  exact ec
end
end KSup
set_option maxHeartbeats 1000000
namespace K23
open PySem PySem.Spec PyProof.Rows L2 KSup NdefX StX
/-! ### chains by end and number: candidates -/
def Cand2 (c w : Int) (S : Int → Prop) (T : Int → Nat → Int → Int → Prop) (code : Int) (r : Row) : Prop :=
  (code = 0 ∧ r = (0, [])) ∨ ∃ (e : Int) (u : Nat) (s z : Int) (t : Row), T e u s z ∧ s + z ≤ c ∧ code = 13 * (s + z) + (u + 1) ∧ Ch c w S u e t ∧ r = addR t (s, z)
section
variable {c w : Int} {S : Int → Prop} {T T' : Int → Nat → Int → Int → Prop} {M : Int → Option Row} {e s z : Int} {u : Nat} {r0 : Row}
theorem cand2_imp (g : ∀ e u s z, (∃ t, Ch c w S u e t) → s + z ≤ c → (T e u s z ↔ T' e u s z)) (k : Int) (r : Row) : Cand2 c w S T k r ↔ Cand2 c w S T' k r := by
  constructor
  · rintro (h | ⟨e, u, s, z, t, h1, h2, h3, h4, h5⟩)
    · exact .inl h
    · exact .inr ⟨e, u, s, z, t, (g e u s z ⟨t, h4⟩ h2).mp h1, h2, h3, h4, h5⟩
  · rintro (h | ⟨e, u, s, z, t, h1, h2, h3, h4, h5⟩)
    · exact .inl h
    · exact .inr ⟨e, u, s, z, t, (g e u s z ⟨t, h4⟩ h2).mpr h1, h2, h3, h4, h5⟩
theorem cand2_congr (h : MinMap (Cand2 c w S T) M) (g : ∀ e u s z, (∃ t, Ch c w S u e t) → s + z ≤ c → (T e u s z ↔ T' e u s z)) : MinMap (Cand2 c w S T') M := h.congr (cand2_imp g)
def one2 (T : Int → Nat → Int → Int → Prop) (e : Int) (u : Nat) (s z : Int) : Int → Nat → Int → Int → Prop := fun e' u' s' z' => T e' u' s' z' ∨ (e' = e ∧ u' = u ∧ s' = s ∧ z' = z)
theorem cand2_or (hc : s + z ≤ c) (k : Int) (r : Row) : (Cand2 c w S T k r ∨ (k = 13 * (s + z) + (u + 1) ∧ ∃ t, Ch c w S u e t ∧ r = addR t (s, z))) ↔ Cand2 c w S (one2 T e u s z) k r := by
  constructor
  · rintro ((h | ⟨e, u, s, z, t, h1, h2⟩) | ⟨rfl, t, h1, h2⟩)
    · exact .inl h
    · exact .inr ⟨e, u, s, z, t, .inl h1, h2⟩
    · exact .inr ⟨e, u, s, z, t, .inr ⟨rfl, rfl, rfl, rfl⟩, hc, rfl, h1, h2⟩
  · rintro (h | ⟨e, u, s, z, t, h1 | ⟨rfl, rfl, rfl, rfl⟩, h2, h3, h4⟩)
    · exact .inl (.inl h)
    · exact .inl (.inr ⟨e, u, s, z, t, h1, h2, h3, h4⟩)
    · exact .inr ⟨h3, t, h4⟩
theorem cand2_put (h : MinMap (Cand2 c w S T) M) (hc : s + z ≤ c) (m : IsMin (Ch c w S u e) r0) (q : ∀ r, M (13 * (s + z) + (u + 1)) = some r → ltR (addR r0 (s, z)) r = true) :
    MinMap (Cand2 c w S (one2 T e u s z)) (upM M (13 * (s + z) + (u + 1)) (addR r0 (s, z))) := (h.put (m.add (s, z) fun t ht => ht.len) q).congr (cand2_or hc)
theorem cand2_keep (h : MinMap (Cand2 c w S T) M) (hc : s + z ≤ c) (m : IsMin (Ch c w S u e) r0) {r : Row} (g : M (13 * (s + z) + (u + 1)) = some r) (q : ltR (addR r0 (s, z)) r = false) :
    MinMap (Cand2 c w S (one2 T e u s z)) M := (h.keep (m.add (s, z) fun t ht => ht.len) g q).congr (cand2_or hc)
theorem cand2_out (h : MinMap (Cand2 c w S T) M) (hc : ¬ s + z ≤ c) : MinMap (Cand2 c w S (one2 T e u s z)) M := cand2_congr h fun e' u' s' z' _ hq =>
  ⟨.inl, fun g => g.elim id fun ⟨_, _, h3, h4⟩ => absurd (by rw [← h3, ← h4]; exact hq) hc⟩
/-- the steps from all that comes ahead of end E, number U -/
def Ahead (w : Int) (S : Int → Prop) (m : Nat) (E : Int) (U : Nat) : Int → Nat → Int → Int → Prop := fun e u s z => (e < E ∨ (e = E ∧ u < U)) ∧ u < m ∧ e ≤ s ∧ s < e + w ∧ S z
theorem ahead_ch (hS : ∀ z, S z → 1 ≤ z) (hc : 0 ≤ c) {m : Nat} (hm : m ≤ 12) {E : Int} {U : Nat} (hE : 0 ≤ E) (hU : U ≤ m) (r : Row) : Cand2 c w S (Ahead w S m E U) (13 * E + U) r ↔ Ch c w S U E r := by
  constructor
  · rintro (⟨h1, rfl⟩ | ⟨e, u, s, z, t, ⟨h1, h2, h3, h4, h5⟩, h6, h7, h8, rfl⟩)
    · have h2 : U = 0 := by omega
      have h3 : E = 0 := by omega
      subst h2 h3
      exact .nil
    · have hb := h8.bnd hS hc
      have hz := hS z h5
      have h9 : s + z = E := by omega
      have h10 : u + 1 = U := by omega
      subst h9 h10
      exact .snoc h8 h3 h4 h5 h6
  · intro h
    generalize hk : U = k at h
    generalize he : E = e at h
    cases h with
    | nil => exact .inl ⟨by omega, rfl⟩
    | @snoc k e r s z h1 h2 h3 h4 h5 =>
      have hz := hS z h4
      exact .inr ⟨e, k, s, z, r, ⟨.inl (by omega), by omega, h2, h3, h4⟩, h5, by omega, h1, rfl⟩
end
/-! ### the dict by end and number -/
structure DJ (K : PySem.W.Frag) (H : Hp) (kvs : List (List Key × V)) (M : Int → Option Row) : Prop where
  nd : (kvs.map (·.1)).Nodup
  keys : ∀ p ∈ kvs, ∃ (e : Int) (u : Nat) (r : Row), p.1 = [.inl e, .inl (u : Int)] ∧ (0 ≤ e ∧ e ≤ 12) ∧ u ≤ 12 ∧ M (13 * e + u) = some r ∧ Dp K H p.2 (encR r)
  has : ∀ k r, M k = some r → ∃ (e : Int) (u : Nat) (v : V), k = 13 * e + u ∧ (0 ≤ e ∧ e ≤ 12) ∧ u ≤ 12 ∧ ([Sum.inl e, Sum.inl (u : Int)], v) ∈ kvs
section
variable {K : PySem.W.Frag} {H H' : Hp} {kvs : List (List Key × V)} {M : Int → Option Row} {e : Int} {u : Nat}
theorem DJ.get (d : DJ K H kvs M) {r : Row} (he : 0 ≤ e ∧ e ≤ 12) (hu : u ≤ 12) (h : M (13 * e + u) = some r) : ∃ v, valV kvs [.inl e, .inl (u : Int)] = some v ∧ Dp K H v (encR r) := by
  obtain ⟨e1, u1, v, h1, h2, h3, h4⟩ := d.has _ r h
  have h5 : e1 = e := by omega
  have h6 : u1 = u := by omega
  subst h5 h6
  obtain ⟨e2, u2, r2, q1, _, _, q4, q5⟩ := d.keys _ h4
  simp only [List.cons.injEq, Sum.inl.injEq, and_true] at q1
  obtain ⟨q1, q2⟩ := q1
  subst q1
  have q6 : u2 = u1 := by omega
  subst q6
  rw [h] at q4
  cases q4
  exact ⟨v, valV_mem d.nd h4, q5⟩
theorem DJ.no (d : DJ K H kvs M) (he : 0 ≤ e ∧ e ≤ 12) (hu : u ≤ 12) (h : M (13 * e + u) = none) : valV kvs [.inl e, .inl (u : Int)] = none := by
  cases q : valV kvs [.inl e, .inl (u : Int)] with
  | none => rfl
  | some v =>
    obtain ⟨e2, u2, r2, q1, _, _, q4, _⟩ := d.keys _ (mem_valV q)
    simp only [List.cons.injEq, Sum.inl.injEq, and_true] at q1
    obtain ⟨q1, q2⟩ := q1
    subst q1
    have q6 : u = u2 := by omega
    subst q6
    rw [h] at q4
    cases q4
theorem DJ.len (d : DJ K H kvs M) : kvs.length ≤ 169 := by
  have h := len_sub (l := kvs.map (·.1)) (m := (List.range 169).map fun i : Nat => ([Sum.inl (Int.ofNat (i / 13)), Sum.inl (Int.ofNat (i % 13))] : List Key)) d.nd fun x hx => by
    obtain ⟨p, hp, rfl⟩ := List.mem_map.mp hx
    obtain ⟨e, u, r, h1, ⟨h2, h3⟩, h4, _⟩ := d.keys p hp
    rw [h1]
    refine List.mem_map.mpr ⟨13 * e.toNat + u, List.mem_range.mpr (by omega), ?_⟩
    have a1 : (13 * e.toNat + u) / 13 = e.toNat := by omega
    have a2 : (13 * e.toNat + u) % 13 = u := by omega
    rw [a1, a2]
    have a3 : Int.ofNat e.toNat = e := by show (e.toNat : Int) = e; omega
    rw [a3]
    rfl
  simpa using h
theorem DJ.mono (d : DJ K H kvs M) (h : ∀ v x, Dp K H v x → Dp K H' v x) : DJ K H' kvs M := ⟨d.nd, fun p hp => by
  obtain ⟨e, u, r, h1, h2, h3, h4, h5⟩ := d.keys p hp
  exact ⟨e, u, r, h1, h2, h3, h4, h _ _ h5⟩, d.has⟩
theorem DJ.put (d : DJ K H kvs M) {r : Row} {v : V} (he : 0 ≤ e ∧ e ≤ 12) (hu : u ≤ 12) (hv : Dp K H v (encR r)) : DJ K H (putK kvs [.inl e, .inl (u : Int)] v) (upM M (13 * e + u) r) := by
  refine ⟨putK_keys _ _ _ d.nd, fun p hp => ?_, fun k r' h => ?_⟩
  · rcases mem_putK hp with rfl | ⟨h1, h2⟩
    · exact ⟨e, u, r, rfl, he, hu, if_pos rfl, hv⟩
    · obtain ⟨e', u', r', q1, q2, q3, q4, q5⟩ := d.keys p h1
      refine ⟨e', u', r', q1, q2, q3, ?_, q5⟩
      unfold upM
      rw [if_neg (fun z => h2 (by
        have z1 : e' = e := by omega
        have z2 : u' = u := by omega
        rw [q1, z1, z2]))]
      exact q4
  · unfold upM at h
    have hp : ∀ j, valV (putK kvs [.inl e, .inl (u : Int)] v) j = if j = [.inl e, .inl (u : Int)] then some v else valV kvs j := fun j => valV_put _ _ _ _
    by_cases q : k = 13 * e + u
    · exact ⟨e, u, v, q, he, hu, mem_valV (by rw [hp, if_pos rfl])⟩
    · rw [if_neg q] at h
      obtain ⟨e', u', v', h1, h2, h3, h4⟩ := d.has k r' h
      refine ⟨e', u', v', h1, h2, h3, mem_valV ?_⟩
      rw [hp, if_neg]
      · exact valV_mem d.nd h4
      · intro z
        simp only [List.cons.injEq, Sum.inl.injEq, and_true] at z
        exact q (by omega)
end
theorem noSeq_dT {x : Addr} {kvs : List (List Key × V)} {H : Hp} (h : H x = some (.dT kvs)) : NoSeq x H := fun xs => by
  rw [h]
  exact ⟨(fun e => nomatch e), (fun e => nomatch e), fun o => ⟨(fun e => nomatch e), (fun e => nomatch e)⟩⟩
end K23
set_option maxHeartbeats 1000000
namespace K23
open PySem PySem.Spec PyProof.Rows L2 KSup NdefX StX
section
variable {P : Program} {w : World} {K : PySem.W.Frag} {mg : Str → Option Value} {base : Heap} {f g : Addr} {fd gd : FuncData}
def spPick (K : PySem.W.Frag) : Sp := fun vs H Q _ => ∃ (p l : Addr) (N : Int) (xs : List V), vs = [.ref p, .ref l] ∧ PenAt H p N ∧ N ≤ 1000 ∧ H l = some (.lst xs) ∧ l ≠ p ∧ 1 ≤ xs.length ∧ xs.length ≤ 1000 ∧ ∀ (H' : Hp) (i : Nat) (v : V), But p H H' → PenAt H' p (N + 1) → xs[i]? = some v → Q v H'
theorem atI_get {xs : List V} {i : Int} (h0 : 0 ≤ i) (h1 : i < (xs.length : Int)) : ∃ v, atI xs i = some v ∧ xs[i.toNat]? = some v := by
  unfold atI ixN
  rw [if_pos h0, if_pos h1]
  have h2 : i.toNat < xs.length := by omega
  exact ⟨xs[i.toNat], List.getElem?_eq_getElem h2, List.getElem?_eq_getElem h2⟩
theorem ok_pick (F : FnP K "_law_pick" sPick f fd) (T : Bl mg) (G : FnOk P w K mg base CX0 1 g gd ["pen", "many"] (spDraw K)) (kg : PySem.W.keepIn K (.ref g) = true) (bg : Binds K gd ["pen", "many"] []) (gm : mg "_law_draw" = some (.ref g)) :
    FnOk P w K mg base CX0 2 f fd ["pen", "some"] (spPick K) := by
  refine F.ok scPick (fun vs H Q E h => ?_) (fun cdv A outer s H vs Q E hr h => ?_)
  · obtain ⟨p, l, N, xs, rfl, _⟩ := h
    rfl
  · obtain ⟨p, l, N, xs, rfl, hp, hN, hl, hlp, h1, h2, hq⟩ := h
    refine ⟨_, PSs.nox (pss_one (ps_ret (pe_ix ix_list (pv 1) (pe_call G hr (by rfl) gm kg bg .nil pass0 (pa_cons (pv 0) (pa_cons (pe_callB call_len_seq (by rfl) T.len PySem.boot_len (pa_cons (pv 1) pa_nil)) pa_nil))) (fun _ _ => rfl)))), ?_⟩
    refine ⟨_, rfl, _, rfl, _, rfl, l, _, rfl, .inl (.inl (.inl hl)), p, _, N, rfl, hp, hN, by omega, by omega, fun H' r b pen r0 r1 => ?_⟩
    obtain ⟨v, hv, hv2⟩ := atI_get r0 r1
    exact ⟨l, xs, r, v, rfl, rfl, .inl (.inl (b _ _ hlp hl)), hv, hq H' r.toNat v b pen hv2⟩
def spPen (K : PySem.W.Frag) : Sp := fun vs H Q _ => ∃ (a : Addr) (ns : List Int), vs = [.ref a] ∧ SqL K H a (ns.map V.int) ∧ ∀ H' p, Same H H' → H p = none → PenAt H' p 0 → Q (.ref p) H'
theorem ok_pen (F : FnP K "_law_pen" sPen f fd) (T : Bl mg) : FnOk P w K mg base CX0 1 f fd ["script"] (spPen K) := by
  refine F.ok scPen (fun vs H Q E h => ?_) (fun cdv A outer s H vs Q E hr h => ?_)
  · obtain ⟨a, ns, rfl, _⟩ := h
    rfl
  · obtain ⟨a, ns, rfl, hs, hq⟩ := h
    refine ⟨_, PSs.nox (pss_one (ps_ret (pe_lst (pa_cons (pe_lc (own := [("cell", 1)]) (g := gName 1) (tt := tYes) rfl scPen.nd (pi_list (pe_slice sl_list (pv 0) po_none (po_some pe_int))) (blkOk_by (N := ["script", "cell"]) (sc := defScope sPen) (by decide +kernel))
        (fun _ _ _ _ _ => pg_name (i := 1) scPen.nd rfl (Or.inl rfl)) (fun _ _ _ _ _ => pts_nil) (fun _ _ _ _ _ => pe_callTy call_int1 (by rfl) T.int (by decide +kernel) (pa_cons (pv 1) pa_nil))) (pa_cons pe_int (pa_cons pe_int pa_nil)))))), ?_⟩
    have hcut : ∃ ms : List Int, cutV (ns.map V.int) none (some 63) = ms.map V.int ∧ ms.length ≤ 63 := by
      unfold cutV
      refine ⟨(ns.drop (HT.sIx (ns.map V.int).length 0 none)).take (HT.sIx (ns.map V.int).length (ns.map V.int).length (some 63) - HT.sIx (ns.map V.int).length 0 none), ?_, ?_⟩
      · rw [List.map_take, List.map_drop]
      · rw [List.length_take]
        have : HT.sIx (ns.map V.int).length (ns.map V.int).length (some 63) ≤ 63 := by
          rw [show (some (63 : Int)) = some (((63 : Nat) : Int)) from rfl, HT.sIx_nat]
          omega
        omega
    obtain ⟨ms, hms, hm63⟩ := hcut
    refine ⟨_, rfl, _, rfl, a, _, rfl, hs, fun c nc => ?_⟩
    rw [hms]
    have s1 := same_upd (o := .lst (ms.map V.int)) nc
    have hc1 := upd_same (H := H) (a := c) (o := .lst (ms.map V.int))
    generalize upd H c (.lst (ms.map V.int)) = H1 at *
    refine ⟨c, rfl, ⟨_, .inl (.inl hc1)⟩, fun D nD => ?_⟩
    refine lc_dpL (K := K) (ds := ms.map PyData.int) (keep := fun _ => true) (F := fun d => d) (by rw [List.length_map]; omega) (.inl (.inl hc1)) nD (dpAll_ints ms) (fun d hd _ => ?_) (fun x d H3 s3 hx hm R S hR hS => ?_) (fun H2 ys s2 eD hys => ?_)
    · obtain ⟨n, _, rfl⟩ := List.mem_map.mp hd
      rfl
    · obtain ⟨n, _, rfl⟩ := List.mem_map.mp hm
      cases hx
      refine ⟨wipe_one _ 1 _, ?_⟩
      dsimp only [tYes]
      rw [if_pos rfl]
      exact ⟨_, rfl, .inl ⟨n, rfl, hR _ _ (Same.refl _) rfl (.int n)⟩⟩
    · rw [filter_tt, List.map_id'] at hys
      have hy := ints_of hys
      subst hy
      refine ⟨by rw [sizeLine_eq]; show 3 ≤ 16777216; omega, fun p np => ?_⟩
      have s3 := same_upd (o := .lst [.ref D, .int 0, .int 0]) np
      have hpD : p ≠ D := fun z => by rw [z, eD] at np; cases np
      exact hq _ p ((s1.trans s2).trans s3) ((s1.trans s2).free np) ⟨D, ms, 0, 0, upd_same, s3 _ _ eD, hpD, hm63, by omega, by omega, by omega⟩
end
end K23
set_option maxHeartbeats 1000000
namespace K23
open PySem PySem.Spec PyProof.Rows L2 KSup NdefX StX
/-! ### _law_is_bars -/
def lawB (c wn : Int) (zs : List Int) : Int → List Blk → Option Int
  | at_, [] => some at_
  | at_, b :: bs => if b.1 < at_ ∨ b.2 ∉ zs ∨ b.1 - at_ ≥ wn ∨ b.1 + b.2 > c then none else lawB c wn zs (b.1 + b.2) bs
def isB (c wn m : Int) (zs : List Int) (bs : List Blk) : Bool := match lawB c wn zs 0 bs with
  | some at_ => decide ((bs.length : Int) ≤ m) && decide (c - at_ < wn)
  | none => false
theorem stepB_enc {c wn at_ : Int} {zs : List Int} (b : Blk) : stepB c wn zs at_ (encB b) = if at_ ≤ b.1 ∧ b.1 ≤ topE c wn at_ ∧ b.2 ∈ zs then some (b.1 + b.2) else none := stepB_int
theorem walkB_past {c wn at_ : Int} {zs : List Int} (h : c < at_) (bs : List Blk) : walkB c wn zs at_ (bs.map encB) = false := by
  cases bs with
  | nil =>
    show (decide (c - wn < at_) && decide (at_ ≤ c)) = false
    rw [decide_eq_false (by omega : ¬ at_ ≤ c), Bool.and_false]
  | cons b bs =>
    rw [List.map_cons, walkB, stepB_enc, if_neg]
    rintro ⟨h1, h2, _⟩
    unfold topE at h2
    split at h2 <;> omega
theorem walkB_law {c wn : Int} {zs : List Int} (hz : ∀ z ∈ zs, 1 ≤ z) : ∀ (bs : List Blk) (at_ : Int), at_ ≤ c → walkB c wn zs at_ (bs.map encB) = (match lawB c wn zs at_ bs with
  | some b => decide (c - b < wn)
  | none => false)
  | [], at_, h => by
    show (decide (c - wn < at_) && decide (at_ ≤ c)) = decide (c - at_ < wn)
    rw [decide_eq_true h, Bool.and_true]
    by_cases g : c - wn < at_
    · rw [decide_eq_true g, decide_eq_true (by omega)]
    · rw [decide_eq_false g, decide_eq_false (by omega)]
  | b :: bs, at_, h => by
    rw [List.map_cons, walkB, stepB_enc, lawB]
    by_cases g : b.1 < at_ ∨ b.2 ∉ zs ∨ b.1 - at_ ≥ wn ∨ b.1 + b.2 > c
    · rw [if_pos g]
      by_cases g2 : at_ ≤ b.1 ∧ b.1 ≤ topE c wn at_ ∧ b.2 ∈ zs
      · rw [if_pos g2]
        have g3 := g2.2.1
        unfold topE at g3
        have : b.1 + b.2 > c := by
          rcases g with g | g | g | g
          · omega
          · exact absurd g2.2.2 g
          · split at g3 <;> omega
          · exact g
        exact walkB_past this bs
      · rw [if_neg g2]
    · rw [if_neg g]
      have g1 : ¬ b.1 < at_ := fun q => g (.inl q)
      have g2 : b.2 ∈ zs := Classical.byContradiction fun q => g (.inr (.inl q))
      have g3 : ¬ b.1 - at_ ≥ wn := fun q => g (.inr (.inr (.inl q)))
      have g4 : ¬ b.1 + b.2 > c := fun q => g (.inr (.inr (.inr q)))
      have g5 := hz _ g2
      rw [if_pos ⟨by omega, by unfold topE; split <;> omega, g2⟩]
      exact walkB_law hz bs _ (by omega)
theorem areB_isB {c wn m : Int} {zs : List Int} (hz : ∀ z ∈ zs, 1 ≤ z) (hc : 0 ≤ c) (bs : List Blk) : areB c wn m zs (encBs bs) = isB c wn m zs bs := by
  show (decide (((bs.map encB).length : Int) ≤ m) && (((bs.map encB).map fun d => isPlain d 2).all id && walkB c wn zs 0 (bs.map encB))) = _
  have e : ((bs.map encB).map fun d => isPlain d 2).all id = true := by
    rw [List.all_eq_true]
    intro x hx
    obtain ⟨d, hd, rfl⟩ := List.mem_map.mp hx
    obtain ⟨b, _, rfl⟩ := List.mem_map.mp hd
    rfl
  rw [e, Bool.true_and, List.length_map, walkB_law hz bs 0 hc]
  unfold isB
  cases lawB c wn zs 0 bs with
  | none => rw [Bool.and_false]
  | some b => rfl
section
variable {P : Program} {w : World} {K : PySem.W.Frag} {mg : Str → Option Value} {base : Heap} {f g : Addr} {fd gd : FuncData}
def spLIs (K : PySem.W.Frag) : Sp := fun vs H Q _ => ∃ (a l : Addr) (c wn m : Int) (zs : List Int) (xs : List V) (bs : List Blk), vs = [.int c, .ref a, .int wn, .int m, .ref l] ∧ SqL K H a (zs.map V.int) ∧ SqL K H l xs ∧ DpAll K H xs (bs.map encB) ∧ ∀ H', Same H H' → Q (.bl (isB c wn m zs bs)) H'
theorem ok_lIs (F : FnP K "_law_is_bars" sLIs f fd) (T : Bl mg) : FnOk P w K mg base CX0 1 f fd ["cells", "sizes", "wanted", "many", "blocks"] (spLIs K) := by
  refine F.ok scLIs (fun vs H Q E h => ?_) (fun cdv A outer s H vs Q E hr h => ?_)
  · obtain ⟨a, l, c, wn, m, zs, xs, bs, rfl, _⟩ := h
    rfl
  · obtain ⟨a, l, c, wn, m, zs, xs, bs, rfl, hs, hl, hd, hq⟩ := h
    refine ⟨_, PSs.nox (pss_cons (ps_set (i := 5) scLIs.nd rfl (Or.inl rfl) pe_int)
      (pss_cons (ps_for PassesOwn.never rfl (pi_list (pv 4)) (pg_tup (t := gCons (gName 6) (gCons (gName 7) gNil)) (n := 2) rfl (pgs_cons (pg_name (i := 6) scLIs.nd rfl (Or.inl rfl)) (pgs_cons (pg_name (i := 7) scLIs.nd rfl (Or.inl rfl)) pgs_nil)))
        (pss_cons (ps_if (PW.pt (pw_or (pt_cmpR op_lt (pv 6) (pv 5) (nomark _)) (pw_or (pt_cmpR op_notIn_seq (pv 7) (pv 1) (by with_unfolding_all rfl)) (pw_or (pt_cmpR op_ge (pe_op op_sub (pv 6) (pv 5)) (pv 2) (nomark _)) (pw_or1 (pt_cmpR op_gt (pe_op op_add (pv 6) (pv 7)) (pv 0) (nomark _)))))))
          (pss_one (ps_ret pe_bl)) pss_nil)
        (pss_one (ps_set (i := 5) scLIs.nd rfl (Or.inl rfl) (pe_op op_add (pv 6) (pv 7))))))
      (pss_one (ps_ret (pe_and (pe_cmpR op_le (pe_callB call_len_seq (by rfl) T.len PySem.boot_len (pa_cons (pv 4) pa_nil)) (pv 3) (nomark _)) (pe_one (pe_cmpR op_lt (pe_op op_sub (pv 0) (pv 5)) (pv 2) (nomark _)))))))), ?_⟩
    have exl : xs.length = bs.length := by rw [dpAll_len hd, List.length_map]
    refine ⟨_, rfl, l, rfl, ⟨_, hl⟩, ?_⟩
    refine for_list (K := K) (xs := xs) (fun i σ H' => ∃ at_ x6 x7, σ = [some (.int c), some (.ref a), some (.int wn), some (.int m), some (.ref l), some (.int at_), x6, x7] ∧ Same H H' ∧ lawB c wn zs 0 bs = lawB c wn zs at_ (bs.drop i)) ?_ (fun i σ H' hi q => ?_) (fun i x σ H' hx q => ?_) (fun σ H' q => ?_)
    · exact ⟨0, _, _, rfl, Same.refl _, rfl⟩
    · obtain ⟨_, _, _, _, sH, _⟩ := q
      exact sH.seq hl
    · obtain ⟨at_, x6, x7, rfl, sH, hwk⟩ := q
      obtain ⟨d, hdi, hdx⟩ := dpAll_get (dpAll_same sH hd) hx
      rw [List.getElem?_map] at hdi
      cases hbi : bs[i]? with
      | none => rw [hbi] at hdi; cases hdi
      | some b =>
      rw [hbi] at hdi
      cases hdi
      have hdrop : bs.drop i = b :: bs.drop (i + 1) := by
        obtain ⟨h1, h2⟩ := List.getElem?_eq_some_iff.mp hbi
        rw [← h2]
        exact List.drop_eq_getElem_cons h1
      rw [hdrop, lawB] at hwk
      obtain ⟨s, z⟩ := b
      dsimp only at hwk
      have hret : (s < at_ ∨ z ∉ zs ∨ s - at_ ≥ wn ∨ s + z > c) → Q (.bl false) H' := fun g => by
        rw [if_pos g] at hwk
        have := hq _ sH
        unfold isB at this
        rw [hwk] at this
        exact this
      cases hdx with
      | tup sx ax' =>
      cases ax' with
      | cons h1 ax' =>
      cases ax' with
      | cons h2 ax' =>
      cases ax'
      cases h1
      cases h2
      refine ⟨_, _, rfl, sx, rfl, _, _, rfl, _, _, rfl, rfl, ?_⟩
      refine ⟨_, rfl, _, rfl, _, _, rfl, rfl, _, rfl, iteC (fun h => iteT (hret (.inl (of_decide_eq_true h)))) (fun g1 => ?_)⟩
      refine ⟨_, rfl, _, rfl, a, _, rfl, .inl (sH.seq hs), rfl, flat_ints zs, _, rfl, ?_⟩
      rw [if_pos rfl, inV_int]
      refine iteC (fun h => iteT (hret (.inr (.inl (by simpa using h))))) (fun g2 => ?_)
      refine ⟨_, rfl, _, rfl, _, _, rfl, rfl, _, rfl, _, _, rfl, rfl, _, rfl, iteC (fun h => iteT (hret (.inr (.inr (.inl (of_decide_eq_true h)))))) (fun g3 => ?_)⟩
      refine ⟨_, rfl, _, rfl, _, _, rfl, rfl, _, rfl, _, _, rfl, rfl, _, rfl, iteC (fun h => hret (.inr (.inr (.inr (of_decide_eq_true h))))) (fun g4 => ?_)⟩
      have g1 := of_decide_eq_false g1
      have g2 : z ∈ zs := by simpa using g2
      have g3 := of_decide_eq_false g3
      have g4 := of_decide_eq_false g4
      rw [if_neg (fun g => by
        rcases g with g | g | g | g
        · exact g1 g
        · exact g g2
        · exact g3 g
        · exact g4 g)] at hwk
      exact ⟨_, rfl, _, rfl, _, _, rfl, rfl, s + z, _, _, rfl, sH, hwk⟩
    · obtain ⟨at_, x6, x7, rfl, sH, hwk⟩ := q
      rw [exl, List.drop_length, lawB] at hwk
      have hq' := hq _ sH
      unfold isB at hq'
      rw [hwk] at hq'
      dsimp only at hq'
      refine ⟨_, rfl, l, _, rfl, .inl (sH.seq hl), _, rfl, _, _, rfl, rfl, _, rfl, ?_⟩
      rw [exl]
      by_cases h1 : (bs.length : Int) ≤ m
      · rw [decide_eq_true h1]
        rw [decide_eq_true h1, Bool.true_and] at hq'
        exact iteT ⟨_, rfl, _, rfl, _, _, rfl, rfl, _, rfl, _, _, rfl, rfl, hq'⟩
      · rw [decide_eq_false h1]
        rw [decide_eq_false h1, Bool.false_and] at hq'
        exact iteF hq'
end
end K23
set_option maxHeartbeats 1000000
namespace K23
open PySem PySem.Spec PyProof.Rows L2 KSup NdefX StX
/-- the best of the rows B, as a value -/
def Best (K : PySem.W.Frag) (H : Hp) (B : Row → Prop) (v : V) : Prop := (v = .non ∧ ∀ r, ¬ B r) ∨ ∃ r, IsMin B r ∧ Dp K H v (encR r)
theorem Best.congr {K : PySem.W.Frag} {H : Hp} {B B' : Row → Prop} {v : V} (h : Best K H B v) (g : ∀ r, B r ↔ B' r) : Best K H B' v := by
  rcases h with ⟨h1, h2⟩ | ⟨r, h1, h2⟩
  · exact .inl ⟨h1, fun r q => h2 r ((g r).mpr q)⟩
  · exact .inr ⟨r, h1.congr g, h2⟩
def HJ (K : PySem.W.Frag) (H0 : Hp) (D : Addr) (C : Int → Row → Prop) (B : Row → Prop) (bv : V) (H : Hp) : Prop := Same H0 H ∧ ∃ kvs M, H D = some (.dT kvs) ∧ DJ K H kvs M ∧ MinMap C M ∧ Best K H B bv
theorem HJ.congr {K : PySem.W.Frag} {H0 H : Hp} {D : Addr} {C C' : Int → Row → Prop} {B B' : Row → Prop} {bv : V} (h : HJ K H0 D C B bv H) (g : ∀ e r, C e r ↔ C' e r) (g2 : ∀ r, B r ↔ B' r) : HJ K H0 D C' B' bv H := by
  obtain ⟨s, kvs, M, h1, h2, h3, h4⟩ := h
  exact ⟨s, kvs, M, h1, h2, h3.congr g, h4.congr g2⟩
theorem Best.mono {K : PySem.W.Frag} {H H' : Hp} {B : Row → Prop} {v : V} (h : Best K H B v) (s : ∀ v x, Dp K H v x → Dp K H' v x) : Best K H' B v := by
  rcases h with h | ⟨r, h1, h2⟩
  · exact .inl h
  · exact .inr ⟨r, h1, s _ _ h2⟩
theorem HJ.same {K : PySem.W.Frag} {H0 H H' : Hp} {D : Addr} {C : Int → Row → Prop} {B : Row → Prop} {bv : V} (h : HJ K H0 D C B bv H) (s : Same H H') : HJ K H0 D C B bv H' := by
  obtain ⟨s0, kvs, M, h1, h2, h3, h4⟩ := h
  exact ⟨s0.trans s, kvs, M, s _ _ h1, h2.mono fun v x q => dp_same s q, h3, h4.mono fun v x q => dp_same s q⟩
/-- rows of chains that end, from what is behind -/
def BB (c w : Int) (S : Int → Prop) (m : Nat) (E : Int) (U : Nat) (r : Row) : Prop := ∃ (e : Int) (u : Nat), (e < E ∨ (e = E ∧ u < U)) ∧ u ≤ m ∧ Ch c w S u e r ∧ c - e < w
theorem FinB.zero {c w m : Int} {S : Int → Prop} (hS : ∀ z, S z → 1 ≤ z) (hw : c < w) (hm : 0 ≤ m) : IsMin (FinB c w S m) (0, []) := by
  refine ⟨⟨0, 0, by omega, .nil, by omega⟩, fun r ⟨k, e, h1, h2, h3⟩ => ?_⟩
  cases h2 with
  | nil => exact ltR_irr _
  | @snoc k e r s z g1 g2 g3 g4 g5 =>
    have h5 := hS z g4
    have pos : ∀ {k : Nat} {e : Int} {r : Row}, Ch c w S k e r → 0 ≤ r.1 := fun g => by
      induction g with
      | nil => exact Int.le_refl _
      | snoc _ _ _ q _ ih =>
        have := hS _ q
        show 0 ≤ _ + _
        omega
    have h6 := pos g1
    show ltL ((r.1 + z) :: _) (0 :: _) = false
    rw [ltL, if_neg (by omega), if_pos (by omega)]
section
variable {P : Program} {w : World} {K : PySem.W.Frag} {mg : Str → Option Value} {base : Heap} {f g : Addr} {fd gd : FuncData}
theorem ok_lLeast (F : FnP K "_law_least_bars" sLLeast f fd) (T : Bl mg) : FnOk P w K mg base CX0 1 f fd ["cells", "sizes", "wanted", "many"] (spLeast K) := by
  refine F.ok scLLeast (fun vs H Q E h => ?_) (fun cdv A outer s H vs Q E hr h => ?_)
  · obtain ⟨a, c, wn, m, zs, rfl, _⟩ := h
    rfl
  · obtain ⟨a, c, wn, m, zs, rfl, hs, hz, hc, hw, hm, hqn, hqs⟩ := h
    refine ⟨_, PSs.nox (pss_cons (ps_if (pt_cmpR op_gt (pv 2) (pv 0) (nomark _)) (pss_one (ps_ret (pe_tup (pa_cons pe_int (pa_cons (pe_tup pa_nil) pa_nil))))) pss_nil)
      (pss_cons (ps_par (i := 4) (j := 5) rfl scLLeast.nd rfl rfl (by decide) rfl rfl (pa_cons (pe_disp1T (room1 hr) (pe_tup (pa_cons pe_int (pa_cons pe_int pa_nil))) (pe_tup (pa_cons pe_int (pa_cons (pe_tup pa_nil) pa_nil)))) (pa_cons pe_non pa_nil)) (by rfl))
      (pss_cons (ps_for PassesOwn.never rfl (pi_range1 (by rfl) T.range (pa_cons (pe_op op_add (pv 0) pe_int) pa_nil)) (pg_name (i := 6) scLLeast.nd rfl (Or.inl rfl))
        (pss_one (ps_for PassesOwn.never rfl (pi_range1 (by rfl) T.range (pa_cons (pe_op op_add (pv 3) pe_int) pa_nil)) (pg_name (i := 7) scLLeast.nd rfl (Or.inl rfl))
          (pss_cons (ps_set (i := 8) scLLeast.nd rfl (Or.inl rfl) (pe_dget2 (room1 hr) (pv 4) (pe_tup (pa_cons (pv 6) (pa_cons (pv 7) pa_nil))) pe_non ⟨rfl, rfl, rfl, rfl⟩))
          (pss_cons (ps_if (pt_cmpR op_isN (pv 8) pe_non (nomark _)) (pss_one ps_continue) pss_nil)
          (C8.pss_cut (ps_if (PW.pt (pw_and (pt_cmpR op_lt (pe_op op_sub (pv 0) (pv 6)) (pv 2) (nomark _)) (pw_and1 (PW.pt (pw_or (pt_cmpR op_isN (pv 5) pe_non (nomark _)) (pw_or1 (pt_cmpR (op_ltD hr.units) (pv 8) (pv 5) (nomark _)))))))) (pss_one (ps_set (i := 5) scLLeast.nd rfl (Or.inl rfl) (pv 8))) pss_nil)
          (pss_cons (ps_if (pt_cmpR op_eq (pv 7) (pv 3) (nomark _)) (pss_one ps_continue) pss_nil)
          (pss_one (ps_for PassesOwn.never rfl (pi_range1 (by rfl) T.range (pa_cons (pv 2) pa_nil)) (pg_name (i := 9) scLLeast.nd rfl (Or.inl rfl))
            (pss_one (ps_for PassesOwn.never rfl (pi_list (pv 1)) (pg_name (i := 10) scLLeast.nd rfl (Or.inl rfl))
              (pss_cons (ps_set (i := 11) scLLeast.nd rfl (Or.inl rfl) (pe_op op_add (pv 6) (pv 9)))
              (pss_one (ps_if (pt_cmpR op_le (pe_op op_add (pv 11) (pv 10)) (pv 0) (nomark _))
                (C8.pss_cut (ps_set (i := 12) scLLeast.nd rfl (Or.inl rfl) (pe_tup (pa_cons (pe_op op_add (pe_ix ix_tup (pv 8) pe_int (fun _ _ => rfl)) (pv 10)) (pa_cons (pe_op op_catA (pe_ix ix_tup (pv 8) pe_int (fun _ _ => rfl)) (pe_tup (pa_cons (pe_tup (pa_cons (pv 11) (pa_cons (pv 10) pa_nil))) pa_nil))) pa_nil))))
                (pss_cons (ps_set (i := 13) scLLeast.nd rfl (Or.inl rfl) (pe_dget2 (room1 hr) (pv 4) (pe_tup (pa_cons (pe_op op_add (pv 11) (pv 10)) (pa_cons (pe_op op_add (pv 7) pe_int) pa_nil))) pe_non ⟨rfl, rfl, rfl, rfl⟩))
                (pss_one (ps_if (PW.pt (pw_or (pt_cmpR op_isN (pv 13) pe_non (nomark _)) (pw_or1 (pt_cmpR (op_ltD hr.units) (pv 12) (pv 13) (nomark _)))))
                  (pss_one (ps_dput (room1 hr) (pv 4) (pe_tup (pa_cons (pe_op op_add (pv 11) (pv 10)) (pa_cons (pe_op op_add (pv 7) pe_int) pa_nil))) (pv 12) rfl)) pss_nil)))) pss_nil))))))))))))))
      (pss_one (ps_ret (pv 5)))))), ?_⟩
    have hS1 : ∀ z, z ∈ zs → 1 ≤ z := fun z q => (hz z q).1
    refine ⟨_, rfl, _, rfl, _, _, rfl, rfl, _, rfl, iteC (fun h => ?_) (fun h => ?_)⟩
    · refine ⟨by rw [sizeLine_eq]; show 0 ≤ 16777216; omega, fun p1 np1 => ⟨by rw [sizeLine_eq]; show 2 ≤ 16777216; omega, fun p2 np2 => ?_⟩⟩
      have sA := same_upd (o := .tup []) np1
      have sB := same_upd (o := .tup [.int 0, .ref p1]) np2
      exact hqs _ _ (0, []) (sA.trans sB) (FinB.zero hS1 (of_decide_eq_true h) hm.1) (.tup (.inl (.inl upd_same)) (.cons (.int 0) (.cons (.tup (.inl (.inl (sB _ _ upd_same))) .nil) .nil)))
    have hwc := of_decide_eq_false h
    intro D nD
    refine ⟨by rw [sizeLine_eq]; show 2 ≤ 16777216; omega, fun b nb => ⟨by rw [sizeLine_eq]; show 0 ≤ 16777216; omega, fun p1 np1 => ⟨by rw [sizeLine_eq]; show 2 ≤ 16777216; omega, fun p2 np2 => ?_⟩⟩⟩
    have sA := same_upd (o := .dT []) nD
    have sB := same_upd (o := .tup [.int 0, .int 0]) nb
    have sC := same_upd (o := .tup []) np1
    have sD := same_upd (o := .tup [.int 0, .ref p1]) np2
    have eD := sD _ _ (sC _ _ (sB _ _ (upd_same (H := H) (a := D) (o := .dT []))))
    have eb := sD _ _ (sC _ _ (upd_same (H := upd H D (.dT [])) (a := b) (o := .tup [.int 0, .int 0])))
    have e1 := sD _ _ (upd_same (H := upd (upd H D (.dT [])) b (.tup [.int 0, .int 0])) (a := p1) (o := .tup []))
    have e2 := upd_same (H := upd (upd (upd H D (.dT [])) b (.tup [.int 0, .int 0])) p1 (.tup [])) (a := p2) (o := .tup [.int 0, .ref p1])
    have sall := ((sA.trans sB).trans sC).trans sD
    refine ⟨b, [.inl 0, .inl 0], rfl, eD, eb, _, _, rfl, ?_⟩
    generalize upd (upd (upd (upd H D (.dT [])) b (.tup [.int 0, .int 0])) p1 (.tup [])) p2 (.tup [.int 0, .ref p1]) = H5 at *
    have d1 : p1 ≠ D := fun z => by rw [z, eD] at e1; cases e1
    have d2 : p2 ≠ D := fun z => by rw [z, eD] at e2; cases e2
    have hJ0 : HJ K H D (Cand2 c wn (· ∈ zs) (Ahead wn (· ∈ zs) m.toNat 0 0)) (BB c wn (· ∈ zs) m.toNat 0 0) .non (upd H5 D (.dT [([Sum.inl 0, Sum.inl 0], .ref p2)])) := by
      refine ⟨fun x o e => by rw [upd_ne (ne_of_none e nD)]; exact sall _ _ e, _, fun k => if k = 0 then some (0, []) else none, upd_same, ⟨by simp, fun p hp => ?_, fun k r h => ?_⟩, minMap_of (fun k r h => ?_) (fun k h r g => ?_), .inl ⟨rfl, fun r ⟨e, u, h1, h2, h3, h4⟩ => ?_⟩⟩
      · rw [List.mem_singleton] at hp
        subst hp
        exact ⟨0, 0, (0, []), rfl, by omega, by omega, rfl, .tup (.inl (.inl ((upd_ne d2).trans e2))) (.cons (.int 0) (.cons (.tup (.inl (.inl ((upd_ne d1).trans e1))) .nil) .nil))⟩
      · split at h
        · rename_i hk
          cases h
          exact ⟨0, 0, _, by omega, by omega, by omega, List.mem_cons_self⟩
        · cases h
      · split at h
        · rename_i hk
          cases h
          refine ⟨.inl ⟨hk, rfl⟩, fun t g => ?_⟩
          rcases g with ⟨_, rfl⟩ | ⟨e, u, s, z, t, ⟨g1, _⟩, _, _, g2, _⟩
          · exact ltR_irr _
          · have := g2.bnd hS1 (by omega)
            omega
        · cases h
      · split at h
        · cases h
        · rename_i hk
          rcases g with ⟨g, _⟩ | ⟨e, u, s, z, t, ⟨g1, _⟩, _, _, g2, _⟩
          · exact hk g
          · have := g2.bnd hS1 (by omega)
            omega
      · have := h3.bnd hS1 (by omega)
        omega
    generalize upd H5 D (.dT [([Sum.inl 0, Sum.inl 0], .ref p2)]) = H6 at *
    refine ⟨_, rfl, _, _, rfl, rfl, c + 1, rfl, by omega, by omega, ?_⟩
    refine for_range (lo := 0) (n := (c + 1).toNat) (fun (i : Nat) σ H' => ∃ bv x6 x7 x8 x9 x10 x11 x12 x13, σ = [some (.int c), some (.ref a), some (.int wn), some (.int m), some (.ref D), some bv, x6, x7, x8, x9, x10, x11, x12, x13] ∧
      HJ K H D (Cand2 c wn (· ∈ zs) (Ahead wn (· ∈ zs) m.toNat i 0)) (BB c wn (· ∈ zs) m.toNat i 0) bv H') ?_ (fun i σ H' hi p => ?_) (fun σ H' p => ?_)
    · exact ⟨_, _, _, _, _, _, _, _, _, rfl, hJ0⟩
    · obtain ⟨bv, x6, x7, x8, x9, x10, x11, x12, x13, rfl, hJ⟩ := p
      refine ⟨_, rfl, _, _, rfl, rfl, m + 1, rfl, by omega, by omega, ?_⟩
      refine for_range (lo := 0) (n := (m + 1).toNat) (fun (u : Nat) σ H' => ∃ bv x7 x8 x9 x10 x11 x12 x13, σ = [some (.int c), some (.ref a), some (.int wn), some (.int m), some (.ref D), some bv, some (.int (0 + (i : Int))), x7, x8, x9, x10, x11, x12, x13] ∧
        HJ K H D (Cand2 c wn (· ∈ zs) (Ahead wn (· ∈ zs) m.toNat i u)) (BB c wn (· ∈ zs) m.toNat i u) bv H') ?_ (fun u σ H' hu p => ?_) (fun σ H' p => ?_)
      · exact ⟨_, _, _, _, _, _, _, _, rfl, hJ⟩
      · obtain ⟨bv, x7, x8, x9, x10, x11, x12, x13, rfl, hJ⟩ := p
        have hum : u ≤ m.toNat := by omega
        have hi12 : 0 ≤ (i : Int) ∧ (i : Int) ≤ 12 := by omega
        have e0 : (0 + (i : Int)) = (i : Int) := by omega
        have u0 : (0 + (u : Int)) = (u : Int) := by omega
        rw [e0, u0]
        -- here
        refine ⟨_, rfl, D, rfl, ?_, _, rfl, _, rfl, by rw [sizeLine_eq]; show 2 ≤ 16777216; omega, fun b1 nb1 => ?_⟩
        · obtain ⟨_, kvs, M, eD1, _⟩ := hJ
          exact .inr ⟨kvs, .inl eD1⟩
        have hJ1 := hJ.same (same_upd (o := .tup [.int (i : Int), .int (u : Int)]) nb1)
        have eb1 := upd_same (H := H') (a := b1) (o := .tup [.int (i : Int), .int (u : Int)])
        generalize upd H' b1 (.tup [.int (i : Int), .int (u : Int)]) = H7 at *
        have hJ1' := hJ1
        obtain ⟨sH, kvs, M, eD1, dj, mm, hbest⟩ := hJ1
        refine ⟨_, DGet.t (k := [.inl (i : Int), .inl (u : Int)]) eD1 eb1, ?_⟩
        have hch : ∀ r, Cand2 c wn (· ∈ zs) (Ahead wn (· ∈ zs) m.toNat i u) (13 * (i : Int) + u) r ↔ Ch c wn (· ∈ zs) u i r := fun r => ahead_ch (c := c) (w := wn) (m := m.toNat) (E := (i : Int)) (U := u) hS1 (by omega) (by omega) hi12.1 hum r
        cases hM : M (13 * (i : Int) + u) with
        | none =>
          rw [dj.no hi12 (by omega) hM]
          refine ⟨_, rfl, rfl, _, rfl, iteT ?_⟩
          have noch : ∀ r, ¬ Ch c wn (· ∈ zs) u i r := fun r g => mm.no hM r ((hch r).mpr g)
          refine ⟨bv, _, _, _, _, _, _, _, rfl, hJ1'.congr (cand2_imp fun e u' s z hq _ => ?_) fun r => ?_⟩
          · constructor
            · rintro ⟨h1, h2⟩
              exact ⟨by omega, h2⟩
            · rintro ⟨h1, h2⟩
              refine ⟨?_, h2⟩
              rcases h1 with h1 | ⟨h1, h3⟩
              · exact .inl h1
              · by_cases hu' : u' = u
                · subst h1 hu'
                  obtain ⟨t, ht⟩ := hq
                  exact absurd ht (noch t)
                · exact .inr ⟨h1, by omega⟩
          · constructor
            · rintro ⟨e, u', h1, h2⟩
              exact ⟨e, u', by omega, h2⟩
            · rintro ⟨e, u', h1, h2, h3, h4⟩
              refine ⟨e, u', ?_, h2, h3, h4⟩
              rcases h1 with h1 | ⟨h1, h5⟩
              · exact .inl h1
              · by_cases hu' : u' = u
                · subst h1 hu'
                  exact absurd h3 (noch r)
                · exact .inr ⟨h1, by omega⟩
        | some r0 =>
          obtain ⟨v, hv, dv⟩ := dj.get hi12 (by omega) hM
          rw [hv]
          have mn : IsMin (Ch c wn (· ∈ zs) u i) r0 := (mm.get hM).congr hch
          obtain ⟨q, q2, xs, rfl, w1, w2, w3⟩ := dp_encR dv
          refine ⟨_, rfl, rfl, _, rfl, iteF ?_⟩
          have hbb : ∀ r, BB c wn (· ∈ zs) m.toNat i (u + 1) r ↔ (BB c wn (· ∈ zs) m.toNat i u r ∨ (Ch c wn (· ∈ zs) u i r ∧ c - (i : Int) < wn)) := fun r => by
            constructor
            · rintro ⟨e, u', h1, h2, h3, h4⟩
              by_cases hu' : e = i ∧ u' = u
              · obtain ⟨rfl, rfl⟩ := hu'
                exact .inr ⟨h3, h4⟩
              · exact .inl ⟨e, u', by omega, h2, h3, h4⟩
            · rintro (⟨e, u', h1, h2⟩ | ⟨h3, h4⟩)
              · exact ⟨e, u', by omega, h2⟩
              · exact ⟨i, u, by omega, hum, h3, h4⟩
          -- what follows, from the new best
          have NEXT : ∀ bv', Best K H7 (BB c wn (· ∈ zs) m.toNat i (u + 1)) bv' → HJ K H D (Cand2 c wn (· ∈ zs) (Ahead wn (· ∈ zs) m.toNat i u)) (BB c wn (· ∈ zs) m.toNat i (u + 1)) bv' H7 := fun bv' hb' => ⟨sH, kvs, M, eD1, dj, mm, hb'⟩
          refine ⟨fun σ' H'' => ∃ bv', σ' = [some (.int c), some (.ref a), some (.int wn), some (.int m), some (.ref D), some bv', some (.int (i : Int)), some (.int (u : Int)), some (.ref q), x9, x10, x11, x12, x13] ∧ H'' = H7 ∧ Best K H7 (BB c wn (· ∈ zs) m.toNat i (u + 1)) bv', ?_, ?_⟩
          · refine ⟨_, rfl, _, rfl, _, _, rfl, rfl, _, rfl, _, _, rfl, rfl, _, rfl, iteC (fun h1 => ?_) (fun h1 => iteF ?_)⟩
            · have h1 := of_decide_eq_true h1
              have hbb' : ∀ r, (BB c wn (· ∈ zs) m.toNat i u r ∨ Ch c wn (· ∈ zs) u i r) ↔ BB c wn (· ∈ zs) m.toNat i (u + 1) r := fun r => by
                rw [hbb r]
                exact ⟨fun z => z.elim .inl fun z => .inr ⟨z, h1⟩, fun z => z.elim .inl fun z => .inr z.1⟩
              rcases hbest with ⟨rfl, hno⟩ | ⟨rb, hb1, hb2⟩
              · refine ⟨_, rfl, rfl, _, rfl, iteT (iteT ?_)⟩
                exact ⟨_, rfl, .ref q, rfl, rfl, .inr ⟨r0, (IsMin.or_none hno mn).congr hbb', dv⟩⟩
              · obtain ⟨qb, qb2, xb, rfl, _, _, _⟩ := dp_encR hb2
                refine ⟨_, rfl, rfl, _, rfl, iteF ?_⟩
                refine ⟨_, rfl, _, rfl, _, _, dv, hb2, alike_encR _ _, encR_ne _, by have := depth_encR r0; omega, _, rfl, ?_⟩
                rw [lt_encR]
                cases hlt : ltR r0 rb with
                | true => exact iteT ⟨_, rfl, .ref q, rfl, rfl, .inr ⟨r0, (IsMin.or_lt hb1 mn hlt).congr hbb', dv⟩⟩
                | false => exact iteF ⟨_, rfl, rfl, .inr ⟨rb, (IsMin.or_ge hb1 mn hlt).congr hbb', hb2⟩⟩
            · have h1 := of_decide_eq_false h1
              exact ⟨_, rfl, rfl, hbest.congr fun r => by
                rw [hbb r]
                exact ⟨.inl, fun z => z.elim id fun z => absurd z.2 h1⟩⟩
          rintro σ' H'' ⟨bv', rfl, rfl, hb'⟩
          have hJ2 := NEXT bv' hb'
          refine ⟨_, rfl, _, rfl, rfl, _, rfl, iteC (fun h1 => ?_) (fun h1 => ?_)⟩
          · have h1 : V.int (u : Int) = V.int m := of_decide_eq_true h1
            injection h1 with h1
            refine ⟨bv', _, _, _, _, _, _, _, rfl, hJ2.congr (cand2_imp fun e u' s z _ _ => ?_) fun r => Iff.rfl⟩
            unfold Ahead
            constructor
            · rintro ⟨h2, h3, h4⟩
              exact ⟨by omega, h3, h4⟩
            · rintro ⟨h2, h3, h4⟩
              exact ⟨by omega, h3, h4⟩
          have h1 : ¬ V.int (u : Int) = V.int m := of_decide_eq_false h1
          have hum' : u < m.toNat := by
            have : ¬ (u : Int) = m := fun z => h1 (by rw [z])
            omega
          refine ⟨_, rfl, wn, rfl, by omega, by omega, ?_⟩
          refine for_range (lo := 0) (n := wn.toNat) (fun (g : Nat) σ H8 => ∃ x9 x10 x11 x12 x13, σ = [some (.int c), some (.ref a), some (.int wn), some (.int m), some (.ref D), some bv', some (.int (i : Int)), some (.int (u : Int)), some (.ref q), x9, x10, x11, x12, x13] ∧ But D H'' H8 ∧
            HJ K H D (Cand2 c wn (· ∈ zs) fun e u' s z => Ahead wn (· ∈ zs) m.toNat i u e u' s z ∨ (e = i ∧ u' = u ∧ (i : Int) ≤ s ∧ s < (i : Int) + g ∧ z ∈ zs)) (BB c wn (· ∈ zs) m.toNat i (u + 1)) bv' H8) ?_ (fun g σ H8 hg p => ?_) (fun σ H8 p => ?_)
          · refine ⟨_, _, _, _, _, rfl, But.refl _ _, hJ2.congr (cand2_imp fun e u' s z _ _ => ?_) fun r => Iff.rfl⟩
            exact ⟨.inl, fun z => z.elim id fun ⟨_, _, h2, h3, _⟩ => by omega⟩
          · obtain ⟨x9, x10, x11, x12, x13, rfl, bD, hJ3⟩ := p
            have g0 : (0 + (g : Int)) = (g : Int) := by omega
            rw [g0]
            refine ⟨_, rfl, a, rfl, ⟨_, hJ3.1.seq hs⟩, ?_⟩
            refine for_list (K := K) (xs := zs.map V.int) (fun t σ H9 => ∃ x10 x11 x12 x13, σ = [some (.int c), some (.ref a), some (.int wn), some (.int m), some (.ref D), some bv', some (.int (i : Int)), some (.int (u : Int)), some (.ref q), some (.int (g : Int)), x10, x11, x12, x13] ∧ But D H'' H9 ∧
              HJ K H D (Cand2 c wn (· ∈ zs) fun e u' s z => (Ahead wn (· ∈ zs) m.toNat i u e u' s z ∨ (e = i ∧ u' = u ∧ (i : Int) ≤ s ∧ s < (i : Int) + g ∧ z ∈ zs)) ∨ (e = i ∧ u' = u ∧ s = (i : Int) + g ∧ z ∈ zs.take t)) (BB c wn (· ∈ zs) m.toNat i (u + 1)) bv' H9) ?_ (fun t σ H9 ht p => ?_) (fun t x σ H9 hx p => ?_) (fun σ H9 p => ?_)
            · refine ⟨_, _, _, _, rfl, bD, hJ3.congr (cand2_imp fun e u' s z _ _ => ?_) fun r => Iff.rfl⟩
              exact ⟨.inl, fun z => z.elim id fun ⟨_, _, _, h2⟩ => by simp at h2⟩
            · obtain ⟨_, _, _, _, _, _, hJ4⟩ := p
              exact hJ4.1.seq hs
            · obtain ⟨x10, x11, x12, x13, rfl, bD4, hJ4⟩ := p
              rw [List.getElem?_map] at hx
              cases hzt : zs[t]? with
              | none => rw [hzt] at hx; cases hx
              | some z =>
              rw [hzt] at hx
              cases hx
              have hz1 := hz z (List.mem_of_getElem? hzt)
              have nsD := noSeq_dT eD1
              have v1 := sqT_but nsD bD4 w1
              have v2 := sqT_but nsD bD4 w2
              have v3 := dpAll_but nsD bD4 w3
              have hxk : xs.length ≤ 12 := by rw [dpAll_len w3, List.length_map, mn.1.len]; omega
              have hgw : (g : Int) < wn := by omega
              have step : ∀ e' u' s' z', one2 (fun e u' s z => (Ahead wn (· ∈ zs) m.toNat i u e u' s z ∨ (e = i ∧ u' = u ∧ (i : Int) ≤ s ∧ s < (i : Int) + g ∧ z ∈ zs)) ∨ (e = i ∧ u' = u ∧ s = (i : Int) + g ∧ z ∈ zs.take t)) i u ((i : Int) + g) z e' u' s' z' ↔
                  ((Ahead wn (· ∈ zs) m.toNat i u e' u' s' z' ∨ (e' = i ∧ u' = u ∧ (i : Int) ≤ s' ∧ s' < (i : Int) + g ∧ z' ∈ zs)) ∨ (e' = i ∧ u' = u ∧ s' = (i : Int) + g ∧ z' ∈ zs.take (t + 1))) := by
                intro e' u' s' z'
                rw [List.take_add_one, hzt]
                simp only [one2, Option.toList_some, List.mem_append, List.mem_singleton]
                constructor
                · rintro ((h | ⟨h1, h2, h3, h4⟩) | ⟨h1, h2, h3, h4⟩)
                  · exact .inl h
                  · exact .inr ⟨h1, h2, h3, .inl h4⟩
                  · exact .inr ⟨h1, h2, h3, .inr h4⟩
                · rintro (h | ⟨h1, h2, h3, h4 | h4⟩)
                  · exact .inl (.inl h)
                  · exact .inl (.inr ⟨h1, h2, h3, h4⟩)
                  · exact .inr ⟨h1, h2, h3, h4⟩
              refine ⟨_, rfl, _, rfl, _, _, rfl, rfl, ?_⟩
              refine ⟨_, rfl, _, rfl, _, _, rfl, rfl, _, rfl, _, _, rfl, rfl, _, rfl, iteC (fun hsc => ?_) (fun hsc => ?_)⟩
              · have hsc := of_decide_eq_true hsc
                refine ⟨fun σ' H' => ∃ p4, σ' = [some (.int c), some (.ref a), some (.int wn), some (.int m), some (.ref D), some bv', some (.int (i : Int)), some (.int (u : Int)), some (.ref q), some (.int (g : Int)), some (.int z), some (.int ((i : Int) + g)), some (.ref p4), x13] ∧ Same H9 H' ∧ Dp K H' (.ref p4) (encR (addR r0 ((i : Int) + g, z))), ?_, ?_⟩
                · refine ⟨_, rfl, q, _, 0, .int r0.1, rfl, rfl, v1, rfl, _, rfl, _, _, rfl, rfl, _, rfl, q, _, 1, .ref q2, rfl, rfl, v1, rfl, _, rfl, _, rfl, by rw [sizeLine_eq]; show 2 ≤ 16777216; omega, fun p1 np1 => ⟨by rw [sizeLine_eq]; show 1 ≤ 16777216; omega, fun p2 np2 => ?_⟩⟩
                  have sA := same_upd (o := .tup [.int ((i : Int) + g), .int z]) np1
                  have sB := same_upd (o := .tup [.ref p1]) np2
                  have h1 := sB _ _ (upd_same (H := H9) (a := p1) (o := .tup [.int ((i : Int) + g), .int z]))
                  have h2 := upd_same (H := upd H9 p1 (.tup [.int ((i : Int) + g), .int z])) (a := p2) (o := .tup [.ref p1])
                  have sAB := sA.trans sB
                  generalize upd (upd H9 p1 (.tup [.int ((i : Int) + g), .int z])) p2 (.tup [.ref p1]) = HB at *
                  refine ⟨q2, p2, xs, [.ref p1], rfl, rfl, sqT_same sAB v2, .inl (.inl h2), by rw [sizeLine_eq]; show xs.length + 1 ≤ 16777216; omega, fun hx0 => ?_, fun _ h => absurd h (by simp), fun hx0 _ p3 np3 => ?_⟩
                  · subst hx0
                    refine ⟨by rw [sizeLine_eq]; show 2 ≤ 16777216; omega, fun p4 np4 => ?_⟩
                    have sC := same_upd (o := .tup [.int (r0.1 + z), .ref p2]) np4
                    exact ⟨p4, rfl, sAB.trans sC, dp_addR (b := ((i : Int) + g, z)) (xs := []) (p1 := p1) (.inl (.inl (sC _ _ h1))) (.inl (.inl (sC _ _ h2))) (.inl (.inl upd_same)) (dpAll_same (sAB.trans sC) v3)⟩
                  · refine ⟨by rw [sizeLine_eq]; show 2 ≤ 16777216; omega, fun p4 np4 => ?_⟩
                    have sC := same_upd (o := .tup (xs ++ [.ref p1])) np3
                    have sD := same_upd (o := .tup [.int (r0.1 + z), .ref p3]) np4
                    have s4 := (sAB.trans sC).trans sD
                    exact ⟨p4, rfl, s4, dp_addR (b := ((i : Int) + g, z)) (xs := xs) (p1 := p1) (.inl (.inl (sD _ _ (sC _ _ h1)))) (.inl (.inl (sD _ _ upd_same))) (.inl (.inl upd_same)) (dpAll_same s4 v3)⟩
                rintro σ' HC ⟨p4, rfl, sC, drow⟩
                have hJ5 := hJ4.same sC
                have bD5 := bD4.trans (sameBut sC)
                have e12 : 0 ≤ (i : Int) + g + z ∧ (i : Int) + g + z ≤ 12 := by omega
                have cu : ((u + 1 : Nat) : Int) = (u : Int) + 1 := by omega
                -- old
                refine ⟨_, rfl, D, rfl, ?_, _, rfl, _, rfl, _, _, rfl, rfl, _, rfl, _, _, rfl, rfl, by rw [sizeLine_eq]; show 2 ≤ 16777216; omega, fun k1 nk1 => ?_⟩
                · obtain ⟨_, kvs', M', e1, _⟩ := hJ5
                  exact .inr ⟨kvs', .inl e1⟩
                have sK := same_upd (o := .tup [.int ((i : Int) + g + z), .int ((u : Int) + 1)]) nk1
                have ek := upd_same (H := HC) (a := k1) (o := .tup [.int ((i : Int) + g + z), .int ((u : Int) + 1)])
                have hJ6 := hJ5.same sK
                have bD6 := bD5.trans (sameBut sK)
                have drow6 := dp_same sK drow
                generalize upd HC k1 (.tup [.int ((i : Int) + g + z), .int ((u : Int) + 1)]) = HK at *
                have hJ6' := hJ6
                obtain ⟨s6, kvs', M', e1, dj', mm', hb6⟩ := hJ6
                refine ⟨_, DGet.t (k := [.inl ((i : Int) + g + z), .inl ((u : Int) + 1)]) e1 ek, ?_⟩
                have codeE : 13 * ((i : Int) + g + z) + ((u + 1 : Nat) : Int) = 13 * ((i : Int) + g + z) + ((u : Int) + 1) := by omega
                have putd : (∀ r, M' (13 * ((i : Int) + g + z) + ((u : Int) + 1)) = some r → ltR (addR r0 ((i : Int) + g, z)) r = true) → ∀ x13', ∀ kb, HK kb = none →
                    ∃ x10 x11 x12 x13, [some (.int c), some (.ref a), some (.int wn), some (.int m), some (.ref D), some bv', some (.int (i : Int)), some (.int (u : Int)), some (.ref q), some (.int (g : Int)), some (.int z), some (.int ((i : Int) + g)), some (.ref p4), x13'] = [some (.int c), some (.ref a), some (.int wn), some (.int m), some (.ref D), some bv', some (.int (i : Int)), some (.int (u : Int)), some (.ref q), some (.int (g : Int)), x10, x11, x12, x13] ∧
                      But D H'' (upd (upd HK kb (.tup [.int ((i : Int) + g + z), .int ((u : Int) + 1)])) D (.dT (putK kvs' [.inl ((i : Int) + g + z), .inl ((u : Int) + 1)] (.ref p4)))) ∧
                      HJ K H D (Cand2 c wn (· ∈ zs) fun e u' s z => (Ahead wn (· ∈ zs) m.toNat i u e u' s z ∨ (e = i ∧ u' = u ∧ (i : Int) ≤ s ∧ s < (i : Int) + g ∧ z ∈ zs)) ∨ (e = i ∧ u' = u ∧ s = (i : Int) + g ∧ z ∈ zs.take (t + 1))) (BB c wn (· ∈ zs) m.toNat i (u + 1)) bv'
                        (upd (upd HK kb (.tup [.int ((i : Int) + g + z), .int ((u : Int) + 1)])) D (.dT (putK kvs' [.inl ((i : Int) + g + z), .inl ((u : Int) + 1)] (.ref p4)))) := by
                  intro hlt x13' kb nkb
                  have sL := same_upd (o := .tup [.int ((i : Int) + g + z), .int ((u : Int) + 1)]) nkb
                  have e1' := sL _ _ e1
                  have nsq := noSeq_dT e1'
                  refine ⟨_, _, _, _, rfl, (bD6.trans (sameBut sL)).trans but_upd, fun y o ey => ?_, _, _, upd_same, ?_, cand2_congr (cand2_put mm' hsc mn hlt) (fun e' u' s' z' _ _ => step e' u' s' z'), (hb6.mono fun v x g' => dp_same sL g').mono fun v x g' => dp_but nsq but_upd g'⟩
                  · rw [upd_ne (ne_of_none ey nD)]
                    exact sL _ _ (s6 _ _ ey)
                  · have hp := DJ.put (e := (i : Int) + g + z) (u := u + 1) ((dj'.mono fun v x g' => dp_same sL g').mono fun v x g' => dp_but nsq (but_upd (o := .dT (putK kvs' [.inl ((i : Int) + g + z), .inl ((u : Int) + 1)] (.ref p4)))) g') e12 (by omega) (dp_but nsq but_upd (dp_same sL drow6))
                    rw [codeE, cu] at hp
                    exact hp
                have lenk : kvs'.length < sizeLine := by have := dj'.len; rw [sizeLine_eq]; omega
                cases hM' : M' (13 * ((i : Int) + g + z) + ((u : Int) + 1)) with
                | none =>
                  have hno := dj'.no (e := (i : Int) + g + z) (u := u + 1) e12 (by omega) (by rw [codeE]; exact hM')
                  rw [cu] at hno
                  rw [hno]
                  refine ⟨_, rfl, rfl, _, rfl, iteT (iteT ?_)⟩
                  refine ⟨_, rfl, _, rfl, _, rfl, _, rfl, _, _, rfl, rfl, _, rfl, _, _, rfl, rfl, by rw [sizeLine_eq]; show 2 ≤ 16777216; omega, fun kb nkb => ?_⟩
                  have sL := same_upd (o := .tup [.int ((i : Int) + g + z), .int ((u : Int) + 1)]) nkb
                  exact ⟨D, _, rfl, DPut.t (k := [.inl ((i : Int) + g + z), .inl ((u : Int) + 1)]) (sL _ _ e1) upd_same lenk, putd (fun r h => by rw [hM'] at h; cases h) _ kb nkb⟩
                | some r =>
                  obtain ⟨v, hv, dv'⟩ := dj'.get (e := (i : Int) + g + z) (u := u + 1) e12 (by omega) (by rw [codeE]; exact hM')
                  rw [cu] at hv
                  rw [hv]
                  obtain ⟨qo, _, _, rfl, _, _, _⟩ := dp_encR dv'
                  refine ⟨_, rfl, rfl, _, rfl, iteF ?_⟩
                  refine ⟨_, rfl, _, rfl, _, _, drow6, dv', alike_encR _ _, encR_ne _, by have := depth_encR (addR r0 ((i : Int) + g, z)); omega, _, rfl, ?_⟩
                  rw [lt_encR]
                  cases hlt : ltR (addR r0 ((i : Int) + g, z)) r with
                  | true =>
                    refine iteT ?_
                    refine ⟨_, rfl, _, rfl, _, rfl, _, rfl, _, _, rfl, rfl, _, rfl, _, _, rfl, rfl, by rw [sizeLine_eq]; show 2 ≤ 16777216; omega, fun kb nkb => ?_⟩
                    have sL := same_upd (o := .tup [.int ((i : Int) + g + z), .int ((u : Int) + 1)]) nkb
                    exact ⟨D, _, rfl, DPut.t (k := [.inl ((i : Int) + g + z), .inl ((u : Int) + 1)]) (sL _ _ e1) upd_same lenk, putd (fun r' h => by rw [hM'] at h; cases h; exact hlt) _ kb nkb⟩
                  | false =>
                    refine iteF ?_
                    exact ⟨_, _, _, _, rfl, bD6, s6, kvs', M', e1, dj', cand2_congr (cand2_keep mm' hsc mn hM' hlt) (fun e' u' s' z' _ _ => step e' u' s' z'), hb6⟩
              · have hsc := of_decide_eq_false hsc
                obtain ⟨s4, kvs', M', e1, dj', mm', hb4⟩ := hJ4
                exact ⟨_, _, _, _, rfl, bD4, s4, kvs', M', e1, dj', cand2_congr (cand2_out mm' hsc) (fun e' u' s' z' _ _ => step e' u' s' z'), hb4⟩
            · obtain ⟨x10, x11, x12, x13, rfl, bD4, hJ4⟩ := p
              refine ⟨_, _, _, _, _, rfl, bD4, hJ4.congr (cand2_imp fun e u' s z _ _ => ?_) fun r => Iff.rfl⟩
              rw [List.length_map, List.take_length]
              constructor
              · rintro ((h2 | ⟨h2, h3, h4, h5, h6⟩) | ⟨h2, h3, h4, h5⟩)
                · exact .inl h2
                · exact .inr ⟨h2, h3, h4, by omega, h6⟩
                · exact .inr ⟨h2, h3, by omega, by omega, h5⟩
              · rintro (h2 | ⟨h2, h3, h4, h5, h6⟩)
                · exact .inl (.inl h2)
                · by_cases hs1 : s = (i : Int) + g
                  · exact .inr ⟨h2, h3, hs1, h6⟩
                  · exact .inl (.inr ⟨h2, h3, h4, by omega, h6⟩)
          · obtain ⟨x9, x10, x11, x12, x13, rfl, bD, hJ3⟩ := p
            refine ⟨bv', _, _, _, _, _, _, _, rfl, hJ3.congr (cand2_imp fun e u' s z _ _ => ?_) fun r => Iff.rfl⟩
            unfold Ahead
            constructor
            · rintro (⟨h2, h3, h4⟩ | ⟨rfl, rfl, h4, h5, h6⟩)
              · exact ⟨by omega, h3, h4⟩
              · exact ⟨.inr ⟨rfl, by omega⟩, hum', h4, by omega, h6⟩
            · rintro ⟨h2, h3, h4, h5, h6⟩
              by_cases hq : e = i ∧ u' = u
              · exact .inr ⟨hq.1, hq.2, by omega, by omega, h6⟩
              · exact .inl ⟨by omega, h3, h4, h5, h6⟩
      · obtain ⟨bv, x7, x8, x9, x10, x11, x12, x13, rfl, hJ⟩ := p
        refine ⟨_, _, _, _, _, _, _, _, _, rfl, hJ.congr (cand2_imp fun e u s z _ _ => ?_) fun r => ?_⟩
        · unfold Ahead
          constructor
          · rintro ⟨h1, h2⟩
            exact ⟨by omega, h2⟩
          · rintro ⟨h1, h2⟩
            exact ⟨by omega, h2⟩
        · unfold BB
          constructor
          · rintro ⟨e, u, h1, h2⟩
            exact ⟨e, u, by omega, h2⟩
          · rintro ⟨e, u, h1, h2⟩
            exact ⟨e, u, by omega, h2⟩
    · obtain ⟨bv, x6, x7, x8, x9, x10, x11, x12, x13, rfl, hJ⟩ := p
      obtain ⟨sH, kvs, M, _, _, _, hb⟩ := hJ
      have eqB : ∀ r, BB c wn (· ∈ zs) m.toNat ((c + 1).toNat : Nat) 0 r ↔ FinB c wn (· ∈ zs) m r := fun r => by
        constructor
        · rintro ⟨e, u, h1, h2, h3, h4⟩
          exact ⟨u, e, by omega, h3, h4⟩
        · rintro ⟨u, e, h2, h3, h4⟩
          have := h3.bnd hS1 (by omega)
          exact ⟨e, u, by omega, by omega, h3, h4⟩
      refine ⟨_, rfl, ?_⟩
      rcases hb.congr eqB with ⟨rfl, hno⟩ | ⟨r, h1, h2⟩
      · exact hqn _ sH hno
      · exact hqs _ _ r sH h1 h2
end
end K23
set_option maxHeartbeats 1000000
namespace K23
open PySem PySem.Spec PyProof.Rows L2 KSup NdefX StX
/-! ### f(k = v, ..), and is of ints and bools -/
def tCallK (m : Nat) (sp : Sp) (gV : List V → List V → List V) (E : XK) (tk : TA) : TE := fun σ H Q => tk σ H fun zs H2 => zs.length = m ∧ sp (gV [] zs) H2 Q E
section
variable {X : Cx} {CX : CXT} {k : Nat} {f : Addr} {fd : FuncData} {ps ks : List Str} {sp : Sp} {E : XK} {x : Str} {p pos : Pos} {kws : List Keyword} {tk : TA} {g : List Value → List Value → List Value} {gV : List V → List V → List V}
theorem run_fnk {pins : List (Addr × Obj)} {σ : L2.St} {H : Hp} {s : Shared} {Q : VK} {ws : List Value} {zs : List V} (F : FnOk X.prog X.w X.K X.mg X.base CX k f fd ps sp) (hr : Room k X.A) (hb : KBn X.K fd ps 0 ks g gV) (hx : Passes CX X E)
    (I : Inv X pins σ H s) (rz : Vals zs ws) (l2 : zs.length = ks.length) (h : sp (gV [] zs) H Q E) : wpAny (model X.prog X.w) X.A (call (.ref f) [] (ks.zip ws)) (EP X pins σ Q) X.xe s := by
  have r2 := hb.rel (vs := []) (us := []) .nil rz
  refine wpAny_call (codeAny_mono (F.run X.A X.stack s H ⟨[], ks.zip ws⟩ (g [] ws) (gV [] zs) Q E hr I.env0 (hb.to s [] ws I.kIn rfl (rz.length.symm.trans l2)) r2 h) fun r s' hq => ?_)
  cases r with
  | error e => exact hx pins σ H s e s' I hq
  | ok fl =>
    cases fl with
    | ret u => exact I.after hq
    | next => exact False.elim hq
    | brk => exact False.elim hq
    | cont => exact False.elim hq
theorem pe_callK0 (F : FnOk X.prog X.w X.K X.mg X.base CX k f fd ps sp) (hr : Room k X.A) (hg : Gl X x) (hm : X.mg x = some (.ref f)) (hk : PySem.W.keepIn X.K (.ref f) = true) (hb : KBn X.K fd ps 0 ks g gV) (hx : Passes CX X E) (hkw : PK X kws tk)
    (hall : (backToKw pos (keywordEach kws X.env)).all (·.1.isSome) = true := by rfl) (hks : (backToKw pos (keywordEach kws X.env)).filterMap (·.1) = ks := by rfl) (hdb : (x == ("__debug__" : Str)) = false := by decide)
    (hpl : ((backTo pos (starEach [] X.env)).any (·.1) || (backToKw pos (keywordEach kws X.env)).any (·.1.isNone)) = false := by rfl) :
    PE X (.Call (.Name x p) [] kws pos) (tCallK ks.length sp gV E tk) := by
  refine ⟨fun pins s σ H Q I h => ?_⟩
  refine wpAny_Call_Name_kw (ld_glob I hg hm ?_ hdb)
  refine PySem.W.callWith_KW0 (h₀ := X.base) I.ok.mod.kin hk hall ?_ hpl
  refine thn (hkw.run pos pins s σ H _ I h) fun ws s2 ⟨zs, H2, I2, rz, l2, q2⟩ => ⟨I2.kIn, ?_⟩
  rw [hks]
  exact run_fnk F hr hb hx I2 rz l2 q2
def rIsB2 : R2 := fun x y H Q => (∃ (i : Int) (b : Bool), x = .int i ∧ y = .bl b ∧ Q (.bl false) H) ∨ rIsB x y H Q
theorem op_isBl2 : OpR X (compareOp .Is) rIsB2 := by
  intro pins s σ H x y v u Q I rx ry h
  rcases h with ⟨i, b, rfl, rfl, q⟩ | h
  · obtain ⟨t, rfl⟩ := rx
    cases (show u = Value.bool b from ry)
    exact wpAny_is_other rfl (fun z => nomatch z) ⟨.bl false, H, I, rfl, q⟩
  · exact op_isBl pins s σ H x y v u Q I rx ry h
end
/-! ### the bindings of bars -/
section
variable {P : Program} {w : World} {K : PySem.W.Frag} {mg : Str → Option Value} {base : Heap} {f : Addr} {fd : FuncData}
theorem bars_b4 (F : FunD K "bars" "bars" (defArgs sBars) (defBody sBars) (defScope sBars) [.int 12] [] f fd) : Binds K fd ["cells", "sizes", "wanted", "most"] [] := by
  obtain ⟨ds, h1, h2⟩ := F.binds1 (ps := ["cells", "sizes", "wanted", "most"]) 4 1 (by simp) (by simp) (fun T kV doc pm an cdv ct us its l1 l2 => by
    match us, l1, its, l2 with
    | [a, b, c, d], _, [i], _ => exact ⟨_, rfl, rfl⟩)
  cases h1
  exact h2
theorem bars_b3 (F : FunD K "bars" "bars" (defArgs sBars) (defBody sBars) (defScope sBars) [.int 12] [] f fd) : ∃ ds, Vals [.int 12] ds ∧ Binds K fd ["cells", "sizes", "wanted", "most"] ds :=
  F.binds1 (ps := ["cells", "sizes", "wanted", "most"]) 3 0 (by simp) (by simp) (fun T kV doc pm an cdv ct us its l1 l2 => by
    match us, l1, its, l2 with
    | [a, b, c], _, [i], _ => exact ⟨_, rfl, rfl⟩)
def perm4 {α : Type} : List α → List α
  | [m, w, s, c] => [c, s, w, m]
  | _ => []
theorem bars_k (F : FunD K "bars" "bars" (defArgs sBars) (defBody sBars) (defScope sBars) [.int 12] [] f fd) : KBn K fd ["cells", "sizes", "wanted", "most"] 0 ["most", "wanted", "sizes", "cells"] (fun us ws => perm4 ws) (fun vs zs => perm4 zs) := by
  obtain ⟨its, h⟩ := F.kbindsD (ps := ["cells", "sizes", "wanted", "most"]) 0 ["most", "wanted", "sizes", "cells"] (fun us ds ws => perm4 ws) (by simp) (fun {vs ds zs us its ws} h1 h2 h3 => by
    cases h3 with
    | nil => exact .nil
    | cons a h3 => cases h3 with
      | nil => exact .nil
      | cons b h3 => cases h3 with
        | nil => exact .nil
        | cons c h3 => cases h3 with
          | nil => exact .nil
          | cons d h3 => cases h3 with
            | nil => exact .cons d (.cons c (.cons b (.cons a .nil)))
            | cons e h3 => exact .nil) (fun T kV doc pm an cdv ct us its ws l1 l2 l3 => by
    match us, l1, its, l2, ws, l3 with
    | [], _, [i], _, [a, b, c, d], _ => exact ⟨_, rfl, rfl⟩)
  exact h
end
theorem sw3 {env : Env} {x y z : Str} {px py pz pt pt2 pa pb pc : Pos} {kt k2} {a1 a2 b1 b2 c1 : Expr} {c2 : List Expr} {c3 : List Keyword} (hb : env.blockKind = .function) (h1 : env.kindOf x = some .local) (h2 : env.kindOf y = some .local) (h3 : env.kindOf z = some .local)
    (l1 : py.line = px.line) (l2 : pz.line = px.line) (hd : ([x, y, z] : List Str).eraseDups = [x, y, z]) (hc : constantsAlone 7 a2 = false) :
    swappedStores [.Tuple [.Name x px, .Name y py, .Name z pz] kt pt] (.Tuple [.BinOp a1 .Add a2 pa, .BinOp b1 .Add b2 pb, .Call c1 c2 c3 pc] k2 pt2) env = pure (some [x, y, z]) := by
  simp [swappedStores, hb, h1, h2, h3, l1, l2, hd, foldedForSure, constantsAlone, hc, Expr.pos]
end K23
set_option maxHeartbeats 1000000
namespace K23
open PySem PySem.Spec PyProof.Rows L2 KSup NdefX StX
/-! ### the plain law -/
section
variable {c w m : Int} {zs : List Int}
theorem lawB_snoc (b : Blk) : ∀ (bs : List Blk) (a : Int), lawB c w zs a (bs ++ [b]) = (match lawB c w zs a bs with | some e => lawB c w zs e [b] | none => none)
  | [], a => rfl
  | x :: bs, a => by
    rw [List.cons_append, lawB, lawB]
    split
    · rfl
    · exact lawB_snoc b bs _
theorem Ch.law {k : Nat} {e : Int} {r : Row} (h : Ch c w (· ∈ zs) k e r) : lawB c w zs 0 r.2 = some e := by
  induction h with
  | nil => rfl
  | @snoc k e r s z h h1 h2 h3 h4 ih =>
    show lawB c w zs 0 (r.2 ++ [(s, z)]) = _
    rw [lawB_snoc, ih]
    show lawB c w zs e [(s, z)] = _
    rw [lawB, if_neg, lawB]
    rintro (g | g | g | g)
    · dsimp only at g; omega
    · exact g h3
    · dsimp only at g; omega
    · dsimp only at g; omega
theorem FinB.isB {r : Row} (h : FinB c w (· ∈ zs) m r) : isB c w m zs r.2 = true := by
  obtain ⟨k, e, h1, h2, h3⟩ := h
  unfold K23.isB
  rw [h2.law]
  show (decide _ && decide _) = true
  rw [h2.len, decide_eq_true h1, decide_eq_true h3]
  rfl
theorem sizesD_enc : ∀ bs : List Blk, sizesD (encBs bs) = tot bs
  | [] => rfl
  | b :: bs => by
    have ih := sizesD_enc bs
    unfold encBs at *
    unfold sizesD tot at *
    simp only [List.map_cons, List.sum_cons] at *
    rw [ih]
    cases bs <;> rfl
theorem FinB.tot {r : Row} (h : FinB c w (· ∈ zs) m r) : r.1 = K23.tot r.2 := by
  obtain ⟨k, e, h1, h2, h3⟩ := h
  exact h2.tot
theorem showB_enc (hz : ∀ z ∈ zs, 1 ≤ z) (hc : 0 ≤ c) (bs : List Blk) (i : Int) (r : Row) : showB c w m zs (.int i) (encBs bs) r = (isB c w m zs bs && (decide (i = r.1) && decide (r.1 = tot bs))) := by
  unfold showB cellsOk
  rw [areB_isB hz hc, sizesD_enc]
theorem showB_best (hz : ∀ z ∈ zs, 1 ≤ z) (hc : 0 ≤ c) {r : Row} (h : FinB c w (· ∈ zs) m r) : showB c w m zs (.int r.1) (encBs r.2) r = true := by
  rw [showB_enc hz hc, h.isB, decide_eq_true rfl, decide_eq_true h.tot]
  rfl
theorem FinB.mono {S S' : Int → Prop} {m' : Int} {r : Row} (h : FinB c w S m r) (hS : ∀ z, S z → S' z) (hm : m ≤ m') : FinB c w S' m' r := by
  obtain ⟨k, e, h1, h2, h3⟩ := h
  exact ⟨k, e, by omega, h2.mono hS, h3⟩
theorem le1_of {r t : Row} (h : ltR r t = false) : t.1 ≤ r.1 := by
  apply Classical.byContradiction
  intro g
  have : ltR r t = true := ltL_cons.mpr (.inl (by omega))
  rw [this] at h
  cases h
theorem IsMin.le1 {A B : Row → Prop} {r t : Row} (h : A r) (g : IsMin B t) (i : A r → B r) : t.1 ≤ r.1 := le1_of (g.2 r (i h))
end
/-! the last two -/
theorem fin4 : FinB 4 3 (· ∈ [3]) 12 (3, [(0, 3)]) := ⟨1, 3, by decide, .snoc (r := (0, [])) (s := 0) (z := 3) .nil (by decide) (by decide) (by simp) (by decide), by decide⟩
theorem ch4 {k : Nat} {e : Int} {r : Row} (h : Ch 4 3 (· ∈ [3]) k e r) : (e = 0 ∧ r.1 = 0) ∨ (3 ≤ e ∧ e ≤ 4 ∧ r.1 = 3) := by
  induction h with
  | nil => exact .inl ⟨rfl, rfl⟩
  | @snoc k e r s z h h1 h2 h3 h4 ih =>
    have : z = 3 := by simpa using h3
    subst this
    refine .inr ?_
    show _ ∧ _ ∧ r.1 + 3 = 3
    rcases ih with ih | ih <;> omega
theorem min4 {r : Row} (h : FinB 4 3 (· ∈ [3]) 12 r) : r.1 = 3 := by
  obtain ⟨k, e, _, h2, h3⟩ := h
  rcases ch4 h2 with g | g <;> omega
/-! likeness with oneself -/
theorem likeDs_enc : ∀ bs : List Blk, likeDs (bs.map encB) (bs.map encB) = true
  | [] => by simp [likeDs]
  | b :: bs => by
    rw [List.map_cons, likeDs, likeDs_enc bs]
    simp [encB, likeD, likeDs, leafLike, isBoolD, PyData.eqv]
theorem like_bars (u : Str) (r : Row) : likeD (.tuple [.str u, .tuple [.int r.1, encBs r.2]]) (.tuple [.str u, .tuple [.int r.1, encBs r.2]]) = true := by
  simp [likeD, likeDs, leafLike, isBoolD, PyData.eqv, encBs, likeDs_enc]
theorem like_unb (u : Str) : likeD (.tuple [.str u, .tuple []]) (.tuple [.str u, .tuple []]) = true := by
  simp [likeD, likeDs, leafLike, isBoolD, PyData.eqv]
theorem pairT_leaf {d e : PyData} (n : Nat) (h : leafD d = true) (g : leafD e = true) (s : SeqAt.shaped d = true) (t : SeqAt.shaped e = true) : pairT n d e := by
  cases n with
  | zero => simp [pairT, h, g, s, t]
  | succ n => cases d <;> first | (cases h; done) | (cases e <;> first | (cases g; done) | (simp [pairT, h, g, s, t]))
theorem pairT_bs (bs cs : List Blk) : ∀ p ∈ (bs.map encB).zip (cs.map encB), pairT 2 p.1 p.2 := fun p hp => by
  obtain ⟨h1, h2⟩ := List.of_mem_zip (a := p.1) (b := p.2) hp
  obtain ⟨b, _, e1⟩ := List.mem_map.mp h1
  obtain ⟨c, _, e2⟩ := List.mem_map.mp h2
  rw [← e1, ← e2, encB, encB, pairT]
  refine ⟨by simp, by simp, fun q hq => ?_⟩
  simp at hq
  rcases hq with rfl | rfl <;> exact pairT_leaf 1 rfl rfl rfl rfl
theorem pairT_bars {r t : Row} (u : Str) (hu : SeqAt.shaped (.str u) = true) (hr : r.2.length ≤ 1000000) (ht : t.2.length ≤ 1000000) : pairT 5 (.tuple [.str u, .tuple [.int r.1, encBs r.2]]) (.tuple [.str u, .tuple [.int t.1, encBs t.2]]) := by
  rw [pairT]
  refine ⟨by simp, by simp, fun q hq => ?_⟩
  simp at hq
  rcases hq with rfl | rfl
  · exact pairT_leaf 4 rfl rfl hu hu
  rw [pairT]
  refine ⟨by simp, by simp, fun q hq => ?_⟩
  simp at hq
  rcases hq with rfl | rfl
  · exact pairT_leaf 3 rfl rfl rfl rfl
  unfold encBs
  rw [pairT]
  exact ⟨by rw [List.length_map]; exact hr, by rw [List.length_map]; exact ht, pairT_bs _ _⟩
theorem pairT_unb (u : Str) (hu : SeqAt.shaped (.str u) = true) : pairT 5 (.tuple [.str u, .tuple []]) (.tuple [.str u, .tuple []]) := by
  rw [pairT]
  refine ⟨by simp, by simp, fun q hq => ?_⟩
  simp at hq
  rcases hq with rfl | rfl
  · exact pairT_leaf 4 rfl rfl hu hu
  rw [pairT]
  exact ⟨by simp, by simp, fun q hq => by simp at hq⟩
end K23
set_option maxHeartbeats 1000000
namespace K23
open PySem PySem.Spec PyProof.Rows L2 KSup NdefX StX
/-- what stands of the module and its classes -/
structure Lw (P : Program) (w : World) (K : PySem.W.Frag) (mg : Str → Option Value) (base : Heap) (CB CU CP fB fU fP fE fT fF : Addr) : Prop where
  kb : KitB K CB CU
  bl : Bl mg
  mk1 : Mk K CB fB
  mk2 : Mk K CU fU
  mk3 : Mk K CP fP
  in1 : FnR P w K mg base CX0 7 fB (spBInit K CB 4)
  in2 : FnR P w K mg base CX0 7 fU (spUInit K CU)
  in3 : FnR P w K mg base CX0 6 fP (spPInit K 4)
  mB : mg "Bars" = some (.ref CB)
  mU : mg "Unbarred" = some (.ref CU)
  mP : mg "Paper" = some (.ref CP)
  eq : FnR P w K mg base CX0 7 fE (spPEq K CP 5)
  bt : FnR P w K mg base CX0 1 fT spT
  bf : FnR P w K mg base CX0 1 fF spF
  pU : PapC K CU
  pP : PapC K CP
  cnB : CName K CB "Bars"
  cnU : CName K CU "Unbarred"
  ipB : InP K CB CP
  ipU : InP K CU CP
  ecB : EqC K CB fE
  ecU : EqC K CU fE
  bcB : BoolC K CB fT
  bcU : BoolC K CU fF
  nfB : ∀ C, C = CB ∨ C = CU → PySem.W.notFirst K C (.ref CB) = true
  nfU : ∀ C, C = CB ∨ C = CU → PySem.W.notFirst K C (.ref CU) = true
  oP : OwnC K CP
  kPU : PySem.W.kitOne K (.ref CP) (.ref CU) = some false
  kPB : PySem.W.kitOne K (.ref CP) (.ref CB) = some false
  kLU : PySem.W.kitOne K (.type "list") (.ref CU) = some false
  kLB : PySem.W.kitOne K (.type "list") (.ref CB) = some false
  kNU : PySem.W.kitOne K (.type "NoneType") (.ref CU) = some false
  kNB : PySem.W.kitOne K (.type "NoneType") (.ref CB) = some false
/-- a def of the module: its contract, and how it is called -/
structure Df (P : Program) (w : World) (K : PySem.W.Frag) (mg : Str → Option Value) (base : Heap) (k : Nat) (x : Str) (ps : List Str) (sp : Sp) (f : Addr) (fd : FuncData) : Prop where
  ok : FnOk P w K mg base CX0 k f fd ps sp
  kp : PySem.W.keepIn K (.ref f) = true
  bi : Binds K fd ps []
  m : mg x = some (.ref f)
def rLenK (K : PySem.W.Frag) : List V → Hp → VK → Prop := fun xs H Q => ∃ p ys, xs = [V.ref p] ∧ (SqL K H p ys ∨ SqT K H p ys) ∧ Q (.int ys.length) H
def spLaw (K : PySem.W.Frag) : Sp := fun vs H Q _ => ∃ (a : Addr) (ns : List Int), vs = [.ref a] ∧ SqL K H a (ns.map V.int) ∧ ∀ H', Q (.bl true) H'
section
variable {P : Program} {w : World} {K : PySem.W.Frag} {mg : Str → Option Value} {base : Heap} {CB CU CP fB fU fP fE fT fF : Addr}
theorem Arg.same {H H' : Hp} {c wn m : Int} {a : Addr} {ns : List Int} (s : Same H H') (h : Arg K H c wn m a ns) : Arg K H' c wn m a ns := ⟨h.c, h.w, h.m, s.seq h.s, h.l1, h.l2, h.z⟩
theorem Arg.at {H H' : Hp} {c wn m m' : Int} {a b : Addr} {ns ns' : List Int} (h : Arg K H c wn m a ns) (e : H' b = some (.lst (ns'.map V.int))) (hm : 0 ≤ m' ∧ m' ≤ 12) (l1 : 1 ≤ ns'.length) (l2 : ns'.length ≤ 12) (hz : ∀ n ∈ ns', 1 ≤ n ∧ n ≤ 3) : Arg K H' c wn m' b ns' :=
  ⟨h.c, h.w, hm, .inl (.inl e), l1, l2, hz⟩
theorem PenAt.same {H H' : Hp} {p : Addr} {N : Int} (s : Same H H') (h : PenAt H p N) : PenAt H' p N := by
  obtain ⟨q, ns, x, y, h1, h2, h3, h4, h5, h6, h7⟩ := h
  exact ⟨q, ns, x, y, s _ _ h1, s _ _ h2, h3, h4, h5, h6, h7⟩
theorem shaped_bars : SeqAt.shaped (.str "bars") = true := by decide +kernel
theorem shaped_unb : SeqAt.shaped (.str "unbarred") = true := by decide +kernel
theorem own_uu {H : Hp} {x y : Addr} {E : XK} {g : Bool → Bool} {Q : VK} (L : Lw P w K mg base CB CU CP fB fU fP fE fT fF) (hx : IsUB K H CU x) (hy : IsUB K H CU y) (hq : ∀ H', Same H H' → Q (.bl (g true)) H') : rOwn K fE (spPEq K CP 5) E g (.ref x) (.ref y) H Q := by
  obtain ⟨dx, v, a1, a2⟩ := hx
  obtain ⟨dy, u, b1, b2⟩ := hy
  refine ⟨x, y, CU, CU, dx, dy, _, _, rfl, rfl, a1, b1, L.ecU, L.nfU _ (.inr rfl), x, y, CU, CU, "Unbarred", "Unbarred", "unbarred", "unbarred", .tuple [], .tuple [], rfl, ⟨dx, _, v, a1, rfl, rfl, a2, L.pU, L.cnU⟩, ⟨dy, _, u, b1, rfl, rfl, b2, L.pU, L.cnU⟩, L.ipU, fun _ => pairT_unb _ shaped_unb, fun H' s => ⟨_, rfl, ?_⟩⟩
  rw [like_unb, decide_eq_true rfl]
  exact hq H' s
theorem own_bb {H : Hp} {x y : Addr} {r : Row} {E : XK} {g : Bool → Bool} {Q : VK} (L : Lw P w K mg base CB CU CP fB fU fP fE fT fF) (hl : r.2.length ≤ 1000000) (hx : IsBD K H CB x (.int r.1) (encBs r.2)) (hy : IsBD K H CB y (.int r.1) (encBs r.2)) (hq : ∀ H', Same H H' → Q (.bl (g true)) H') :
    rOwn K fE (spPEq K CP 5) E g (.ref x) (.ref y) H Q := by
  obtain ⟨dx, v, v1, v2, a1, a2, _⟩ := hx
  obtain ⟨dy, u, u1, u2, b1, b2, _⟩ := hy
  refine ⟨x, y, CB, CB, dx, dy, _, _, rfl, rfl, a1, b1, L.ecB, L.nfB _ (.inl rfl), x, y, CB, CB, "Bars", "Bars", "bars", "bars", _, _, rfl, ⟨dx, _, v, a1, rfl, rfl, a2, L.kb.pB, L.cnB⟩, ⟨dy, _, u, b1, rfl, rfl, b2, L.kb.pB, L.cnB⟩, L.ipB, fun _ => pairT_bars _ shaped_bars hl hl, fun H' s => ⟨_, rfl, ?_⟩⟩
  rw [like_bars, decide_eq_true rfl]
  exact hq H' s
theorem own_bu {H : Hp} {x y : Addr} {d e : PyData} {E : XK} {g : Bool → Bool} {Q : VK} (L : Lw P w K mg base CB CU CP fB fU fP fE fT fF) (hx : IsBD K H CB x d e) (hy : IsUB K H CU y) (hq : ∀ H', Same H H' → Q (.bl (g false)) H') : rOwn K fE (spPEq K CP 5) E g (.ref x) (.ref y) H Q := by
  obtain ⟨dx, v, v1, v2, a1, a2, _⟩ := hx
  obtain ⟨dy, u, b1, b2⟩ := hy
  refine ⟨x, y, CB, CU, dx, dy, _, _, rfl, rfl, a1, b1, L.ecB, L.nfU _ (.inl rfl), x, y, CB, CU, "Bars", "Unbarred", "bars", "unbarred", _, _, rfl, ⟨dx, _, v, a1, rfl, rfl, a2, L.kb.pB, L.cnB⟩, ⟨dy, _, u, b1, rfl, rfl, b2, L.pU, L.cnU⟩, L.ipU, fun h => absurd h (by decide), fun H' s => ⟨_, rfl, ?_⟩⟩
  rw [decide_eq_false (by decide : ¬ (("Bars" : Str) = "Unbarred")), Bool.false_and]
  exact hq H' s
theorem mk_u {H : Hp} {x dx : Addr} {E : XK} {Q : VK} (n1 : H x = none) (n2 : H dx = none) (h : ∀ H', Same H H' → IsUB K H' CU x → Q .non H') : spUInit K CU [.ref x] (upd (upd H dx (.own x)) x (.ins CU dx [])) Q E :=
  ⟨x, dx, rfl, upd_same, fun H' v bt e d1 => h H' (same_make n1 n2 bt) ⟨dx, v, e, d1⟩⟩
theorem mk_b {H : Hp} {x dx : Addr} {n : Nat} {c b : V} {dc db : PyData} {E : XK} {Q : VK} (n1 : H x = none) (n2 : H dx = none) (hc : Dp K H c dc) (hb : Dp K H b db) (hf : fits n (.tuple [dc, db])) (h : ∀ H', Same H H' → IsBD K H' CB x (tupD dc) (tupD db) → Q .non H') :
    spBInit K CB n [.ref x, c, b] (upd (upd H dx (.own x)) x (.ins CB dx [])) Q E := by
  have s1 := same_fresh (o := .ins CB dx []) (u := .own x) n1 n2
  refine ⟨x, dx, c, b, dc, db, rfl, upd_same, dp_same s1 hc, dp_same s1 hb, hf, fun H' v c' b' bt e d1 d2 d3 => ?_⟩
  rw [tupD, tupDs, tupDs, tupDs] at d1
  exact h H' (same_make n1 n2 bt) ⟨dx, v, c', b', e, d1, d2, d3⟩
/-- what stands in a turn -/
structure Tn (K : PySem.W.Frag) (H : Hp) (p sa : Addr) (N c wn m : Int) (ns : List Int) : Prop where
  pen : PenAt H p N
  ag : Arg K H c wn m sa ns
  sz : H sa = some (.lst (ns.map V.int))
  ne : sa ≠ p
  l4 : ns.length ≤ 4
  m5 : wn ≤ 5
theorem Tn.same {H H' : Hp} {p sa : Addr} {N c wn m : Int} {ns : List Int} (s : Same H H') (h : Tn K H p sa N c wn m ns) : Tn K H' p sa N c wn m ns := ⟨h.pen.same s, h.ag.same s, s _ _ h.sz, h.ne, h.l4, h.m5⟩
theorem Tn.z1 {H : Hp} {p sa : Addr} {N c wn m : Int} {ns : List Int} (h : Tn K H p sa N c wn m ns) : ∀ z ∈ ns, 1 ≤ z := fun z hz => (h.ag.z z hz).1
/-- bars(..) of fit arguments: none or the best -/
def Told (K : PySem.W.Frag) (H : Hp) (CB CU : Addr) (B : Row → Prop) (v : V) : Prop := ∃ x, v = .ref x ∧ (((∀ r, ¬ B r) ∧ IsUB K H CU x) ∨ ∃ r, IsMin B r ∧ IsBD K H CB x (.int r.1) (encBs r.2))
theorem Told.same {H H' : Hp} {B : Row → Prop} {v : V} (s : Same H H') (h : Told K H CB CU B v) : Told K H' CB CU B v := by
  obtain ⟨x, e, h⟩ := h
  refine ⟨x, e, ?_⟩
  rcases h with ⟨h1, h2⟩ | ⟨r, h1, h2⟩
  · exact .inl ⟨h1, h2.same s⟩
  · exact .inr ⟨r, h1, h2.same s⟩
theorem bars_told {H : Hp} {c wn m : Int} {a : Addr} {ns : List Int} {E : XK} {Q : VK} (ag : Arg K H c wn m a ns) (hq : ∀ H' v, Same H H' → Told K H' CB CU (FinB c wn (· ∈ ns) m) v → Q v H') : spBars K CB CU [.int c, .ref a, .int wn, .int m] H Q E :=
  ⟨c, wn, m, a, ns, rfl, ag, fun H' x s h hx => hq H' _ s ⟨x, rfl, .inl ⟨h, hx⟩⟩, fun H' x r s h hx => hq H' _ s ⟨x, rfl, .inr ⟨r, h, hx⟩⟩⟩
theorem least_best {H : Hp} {c wn m : Int} {a : Addr} {ns : List Int} {E : XK} {Q : VK} (ag : Arg K H c wn m a ns) (hq : ∀ H' v, Same H H' → Best K H' (FinB c wn (· ∈ ns) m) v → Q v H') : spLeast K [.int c, .ref a, .int wn, .int m] H Q E :=
  ⟨a, c, wn, m, ns, rfl, ag.s, ag.z, ag.c, ag.w, ag.m, fun H' s h => hq H' _ s (.inl ⟨rfl, h⟩), fun H' v r s h g => hq H' _ s (.inr ⟨r, h, g⟩)⟩
theorem tupOnly_encBs' (bs : List Blk) : tupOnly (encBs bs) = true := by simp only [encBs, tupOnly, tupOnly_encBs]
theorem len_encBs {bs : List Blk} {ds : List PyData} (e : encBs bs = .tuple ds) (h : bs.length ≤ 1000000) : ds.length ≤ 1000000 := by
  unfold encBs at e
  cases e
  rw [List.length_map]
  exact h
theorem Told.some {H : Hp} {A B : Row → Prop} {v : V} {r : Row} (h : Told K H CB CU B v) (g : A r) (i : A r → B r) : ∃ (x : Addr) (r' : Row), v = .ref x ∧ r'.1 ≤ r.1 ∧ IsBD K H CB x (.int r'.1) (encBs r'.2) := by
  obtain ⟨x, e, ⟨h1, _⟩ | ⟨r', h1, h2⟩⟩ := h
  · exact absurd (i g) (h1 r)
  · exact ⟨x, r', e, h1.le1 g i, h2⟩
theorem Told.best {H : Hp} {B : Row → Prop} {v : V} {x : Addr} (h : Told K H CB CU B v) (e : v = .ref x) : ((∀ r, ¬ B r) ∧ IsUB K H CU x) ∨ ∃ r, IsMin B r ∧ IsBD K H CB x (.int r.1) (encBs r.2) := by
  obtain ⟨y, e2, h⟩ := h
  rw [e] at e2
  cases e2
  exact h
/-- what is due, and what bars told -/
def Due (K : PySem.W.Frag) (H : Hp) (CB CU : Addr) (B : Row → Prop) (dv : V) (tx : Addr) : Prop := (dv = .non ∧ (∀ r, ¬ B r) ∧ IsUB K H CU tx) ∨ ∃ r, IsMin B r ∧ Dp K H dv (encR r) ∧ IsBD K H CB tx (.int r.1) (encBs r.2)
theorem Due.same {H H' : Hp} {B : Row → Prop} {dv : V} {tx : Addr} (s : Same H H') (h : Due K H CB CU B dv tx) : Due K H' CB CU B dv tx := by
  rcases h with ⟨h1, h2, h3⟩ | ⟨r, h1, h2, h3⟩
  · exact .inl ⟨h1, h2, h3.same s⟩
  · exact .inr ⟨r, h1, dp_same s h2, h3.same s⟩
theorem Due.of {H : Hp} {B : Row → Prop} {dv : V} {tx : Addr} (h : Best K H B dv) (g : Told K H CB CU B (.ref tx)) : Due K H CB CU B dv tx := by
  obtain ⟨x, e, g⟩ := g
  cases e
  rcases h with ⟨h1, h2⟩ | ⟨r, h1, h2⟩
  · rcases g with ⟨_, g⟩ | ⟨t, g, _⟩
    · exact .inl ⟨h1, h2, g⟩
    · exact absurd g.1 (h2 t)
  · rcases g with ⟨g, _⟩ | ⟨t, g, g2⟩
    · exact absurd h1.1 (g r)
    · rw [g.uniq h1] at g2
      exact .inr ⟨r, h1, h2, g2⟩
/-- shows_bars of Unbarred, of bars, of another value -/
theorem shows_u {H : Hp} {c wn m : Int} {a x : Addr} {ns : List Int} {E : XK} {Q : VK} (ag : Arg K H c wn m a ns) (hx : IsUB K H CU x) (h1 : ∀ H', Same H H' → (∀ r, ¬ FinB c wn (· ∈ ns) m r) → Q (.bl true) H') (h2 : ∀ H' r, Same H H' → IsMin (FinB c wn (· ∈ ns) m) r → Q (.bl false) H') :
    spShows K CB CU [.int c, .ref a, .int wn, .int m, .ref x] H Q E := ⟨c, wn, m, a, ns, _, rfl, ag, .inl ⟨x, rfl, hx, h1, h2⟩⟩
theorem shows_b {H : Hp} {c wn m : Int} {a x : Addr} {ns : List Int} {dx dy : PyData} {E : XK} {Q : VK} (ag : Arg K H c wn m a ns) (hx : IsBD K H CB x dx dy) (ht : tupOnly dy = true) (hl : ∀ ds, dy = .tuple ds → ds.length ≤ 1000000)
    (h1 : ∀ H', Same H H' → (∀ r, ¬ FinB c wn (· ∈ ns) m r) → Q (.bl false) H') (h2 : ∀ H' r, Same H H' → IsMin (FinB c wn (· ∈ ns) m) r → Q (.bl (showB c wn m ns dx dy r)) H') :
    spShows K CB CU [.int c, .ref a, .int wn, .int m, .ref x] H Q E := ⟨c, wn, m, a, ns, _, rfl, ag, .inr (.inl ⟨x, dx, dy, rfl, hx, ht, hl, h1, h2⟩)⟩
theorem shows_o {H : Hp} {c wn m : Int} {a : Addr} {v : V} {t : Value} {ns : List Int} {E : XK} {Q : VK} (ag : Arg K H c wn m a ns) (hv : TyX K H v t) (k1 : PySem.W.kitOne K t (.ref CU) = some false) (k2 : PySem.W.kitOne K t (.ref CB) = some false) (h : ∀ H', Same H H' → Q (.bl false) H') :
    spShows K CB CU [.int c, .ref a, .int wn, .int m, v] H Q E := ⟨c, wn, m, a, ns, _, rfl, ag, .inr (.inr ⟨t, hv, k1, k2, h⟩)⟩
theorem lis_b {H : Hp} {c wn m : Int} {a l : Addr} {ns : List Int} {xs : List V} {bs : List Blk} {E : XK} {Q : VK} (hs : SqL K H a (ns.map V.int)) (hl : SqL K H l xs) (hd : DpAll K H xs (bs.map encB)) (h : ∀ H', Same H H' → Q (.bl (isB c wn m ns bs)) H') :
    spLIs K [.int c, .ref a, .int wn, .int m, .ref l] H Q E := ⟨a, l, c, wn, m, ns, xs, bs, rfl, hs, hl, hd, h⟩
end
end K23
set_option maxHeartbeats 1000000
namespace K23
open PySem PySem.Spec PyProof.Rows L2 KSup NdefX StX
section
variable {K : PySem.W.Frag} {H H' : Hp} {p : Addr}
theorem dpAll_drop : ∀ {xs : List V} {ds : List PyData} (n : Nat), DpAll K H xs ds → DpAll K H (xs.drop n) (ds.drop n)
  | _, _, 0, h => h
  | _, _, n + 1, .nil => .nil
  | _, _, n + 1, .cons _ h => dpAll_drop n h
theorem dpAll_take : ∀ {xs : List V} {ds : List PyData} (n : Nat), DpAll K H xs ds → DpAll K H (xs.take n) (ds.take n)
  | _, _, 0, h => by
    rw [List.take_zero, List.take_zero]
    exact .nil
  | _, _, n + 1, .nil => .nil
  | _, _, n + 1, .cons h1 h => .cons h1 (dpAll_take n h)
theorem dpAll_rev : ∀ {xs : List V} {ds : List PyData}, DpAll K H xs ds → DpAll K H xs.reverse ds.reverse
  | _, _, .nil => .nil
  | _, _, .cons h1 h => by
    rw [List.reverse_cons, List.reverse_cons]
    exact dpAll_snoc (dpAll_rev h) h1
theorem dpAll_cut {xs : List V} {bs : List Blk} (i j : Option Int) (h : DpAll K H xs (bs.map encB)) : ∃ cs : List Blk, DpAll K H (cutV xs i j) (cs.map encB) ∧ cs.length ≤ bs.length := by
  unfold cutV
  refine ⟨(bs.drop (HT.sIx xs.length 0 i)).take (HT.sIx xs.length xs.length j - HT.sIx xs.length 0 i), ?_, ?_⟩
  · rw [List.map_take, List.map_drop]
    exact dpAll_take _ (dpAll_drop _ h)
  · rw [List.length_take, List.length_drop]
    omega
theorem same_but {zs ws : List V} (h1 : H p = some (.lst zs)) (h2 : H' p = some (.lst ws)) (b : But p H H') : Same (upd H p (.lst ws)) H' := fun x o e => by
  by_cases hx : x = p
  · subst hx
    rw [upd_same] at e
    rw [← e]
    exact h2
  · rw [upd_ne hx] at e
    exact b x o hx e
theorem dp_pen {zs ws : List V} {d : PyData} {v : V} (h1 : H p = some (.lst zs)) (h2 : H' p = some (.lst ws)) (b : But p H H') (t : tupOnly d = true) (h : Dp K H v d) : Dp K H' v d := dp_same (same_but h1 h2 b) (dp_updL h1 t h)
theorem dpAll_pen {zs ws : List V} {ds : List PyData} {vs : List V} (h1 : H p = some (.lst zs)) (h2 : H' p = some (.lst ws)) (b : But p H H') (t : tupAll ds = true) (h : DpAll K H vs ds) : DpAll K H' vs ds := dpAll_same (same_but h1 h2 b) (dpAll_updL h1 t h)
/-! ### lists beside the pen -/
def LsD (K : PySem.W.Frag) (H : Hp) (p l : Addr) (ds : List PyData) : Prop := l ≠ p ∧ ∃ xs, H l = some (.lst xs) ∧ DpAll K H xs ds
theorem LsD.same {l : Addr} {ds : List PyData} (s : Same H H') (h : LsD K H p l ds) : LsD K H' p l ds := by
  obtain ⟨h1, xs, h2, h3⟩ := h
  exact ⟨h1, xs, s _ _ h2, dpAll_same s h3⟩
theorem LsD.new {l : Addr} {xs : List V} {ds : List PyData} (n : H l = none) (hp : H p ≠ none) (h : DpAll K H xs ds) : LsD K (upd H l (.lst xs)) p l ds :=
  ⟨fun z => hp (by rw [← z]; exact n), xs, upd_same, dpAll_same (same_upd n) h⟩
def badD (d : PyData) : Prop := (∃ z, d = .tuple [.bool true, .int z]) ∨ ∃ z, d = .tuple [.int z]
def KindD (ds : List PyData) : Prop := (∃ bs : List Blk, ds = bs.map encB ∧ bs.length ≤ 40) ∨ ((∃ d es, ds = d :: es) ∧ ds.length ≤ 40 ∧ ∀ d ∈ ds, badD d)
theorem KindD.len {ds : List PyData} (h : KindD ds) : ds.length ≤ 40 := by
  rcases h with ⟨bs, rfl, h⟩ | ⟨_, h, _⟩
  · rw [List.length_map]
    exact h
  · exact h
theorem KindD.tup {ds : List PyData} (h : KindD ds) : tupAll ds = true := by
  rcases h with ⟨bs, rfl, h⟩ | ⟨_, _, h⟩
  · exact tupOnly_encBs bs
  · refine tupAll_of fun d hd => ?_
    rcases h d hd with ⟨z, rfl⟩ | ⟨z, rfl⟩ <;> simp [tupOnly, tupAll]
theorem KindD.bad {G : Blk → PyData} (h : ∀ b, badD (G b)) {bs : List Blk} (hl : bs.length ≤ 40) : KindD (bs.map G) := by
  cases bs with
  | nil => exact .inl ⟨[], rfl, Nat.zero_le _⟩
  | cons b bs =>
    refine .inr ⟨⟨_, _, rfl⟩, by rw [List.length_map]; exact hl, fun d hd => ?_⟩
    obtain ⟨c, _, rfl⟩ := List.mem_map.mp hd
    exact h c
theorem KindD.good {G : Blk → Blk} {bs : List Blk} (hl : bs.length ≤ 40) : KindD (bs.map fun b => encB (G b)) := .inl ⟨bs.map G, by rw [List.map_map]; rfl, by rw [List.length_map]; exact hl⟩
def OneBent (K : PySem.W.Frag) (H : Hp) (p : Addr) (v : V) : Prop := ∃ l ds, v = .ref l ∧ LsD K H p l ds ∧ KindD ds
theorem OneBent.same {v : V} (s : Same H H') (h : OneBent K H p v) : OneBent K H' p v := by
  obtain ⟨l, ds, h1, h2, h3⟩ := h
  exact ⟨l, ds, h1, h2.same s, h3⟩
/-- the blocks of the row r -/
structure Bk (K : PySem.W.Frag) (H : Hp) (p bl : Addr) (xs : List V) (dv : V) (r : Row) : Prop where
  dp : Dp K H dv (encR r)
  ne : bl ≠ p
  e : H bl = some (.lst xs)
  d : DpAll K H xs (r.2.map encB)
  l : xs.length = r.2.length
theorem Bk.same {bl : Addr} {xs : List V} {dv : V} {r : Row} (s : Same H H') (h : Bk K H p bl xs dv r) : Bk K H' p bl xs dv r := ⟨dp_same s h.dp, h.ne, s _ _ h.e, dpAll_same s h.d, h.l⟩
/-- what a comprehension over the blocks makes of the data of each -/
def onB (G : Blk → PyData) : PyData → PyData
  | .tuple [.int s, .int z] => G (s, z)
  | _ => .none
theorem onB_map (G : Blk → PyData) (bs : List Blk) : (bs.map encB).map (onB G) = bs.map G := by
  rw [List.map_map]
  exact List.map_congr_left fun b _ => rfl
/-- a comprehension over blocks, each making a new value -/
theorem lc_blk {g : TG} {tt : TT} {te : TE} {vs : List Nat} {σ : L2.St} {H1 : Hp} {D a : Addr} {xs : List V} {bs : List Blk} {Qd : Hp → Prop} (G : Blk → PyData) (hlen : bs.length ≤ 1000000) (hsrc : SqL K H1 a xs) (nD : H1 D = none) (hds : DpAll K H1 xs (bs.map encB)) (hG : ∀ b ∈ bs, tupOnly (G b) = true)
    (step : LcStep K (bs.map encB) g tt te vs σ H1 (fun _ => true) (onB G))
    (hd : ∀ H ys, Same H1 H → H D = some (.lst ys) → DpAll K H ys (bs.map G) → Qd H) :
    ∃ W : Nat → Nat → Hp → Prop, (∃ m, W 0 m (upd H1 D (.lst []))) ∧ ∀ i m H, W i m H →
      ((Itl K a).stop i H ∧ Qd H) ∨ ((Itl K a).go i H ∧ ∃ Nx : Hp → Prop, (∀ H', Nx H' → ∃ m', m' < m ∧ W (i + 1) m' H') ∧ ∀ x H', (Itl K a).yld i H x H' → g x (wipe σ vs) H' fun σ2 H2 => wipe σ2 vs = wipe σ vs ∧ tt σ2 H2 fun b H3 =>
        if b = true then te σ2 H3 fun y H4 => ∃ acc, H4 D = some (.lst acc) ∧ acc.length < sizeLine ∧ Nx (upd H4 D (.lst (acc ++ [y]))) else Nx H3) :=
  lc_dpL (K := K) (ds := bs.map encB) (keep := fun _ => true) (F := onB G) (by rw [List.length_map]; exact hlen) hsrc nD hds (fun d hd _ => by
    obtain ⟨b, hb, rfl⟩ := List.mem_map.mp hd
    exact hG b hb) step fun H ys s e h => hd H ys s e (by rw [filter_tt, onB_map] at h; exact h)
theorem Tn.but {sa : Addr} {N N' c wn m : Int} {ns : List Int} (b : But p H H') (pen : PenAt H' p N') (h : Tn K H p sa N c wn m ns) : Tn K H' p sa N' c wn m ns :=
  have e := b _ _ h.ne h.sz
  ⟨pen, h.ag.at e h.ag.m h.ag.l1 h.ag.l2 h.ag.z, e, h.ne, h.l4, h.m5⟩
theorem Bk.but {bl : Addr} {xs : List V} {dv : V} {r : Row} {N N' : Int} (b : But p H H') (p1 : PenAt H p N) (p2 : PenAt H' p N') (h : Bk K H p bl xs dv r) : Bk K H' p bl xs dv r := by
  obtain ⟨_, _, _, _, e1, _⟩ := p1
  obtain ⟨_, _, _, _, e2, _⟩ := p2
  exact ⟨dp_pen e1 e2 b (tupOnly_encR r) h.dp, h.ne, b _ _ h.ne h.e, dpAll_pen e1 e2 b (tupOnly_encBs r.2) h.d, h.l⟩
theorem LsD.but {l : Addr} {ds : List PyData} {N N' : Int} (b : But p H H') (p1 : PenAt H p N) (p2 : PenAt H' p N') (t : tupAll ds = true) (h : LsD K H p l ds) : LsD K H' p l ds := by
  obtain ⟨_, _, _, _, e1, _⟩ := p1
  obtain ⟨_, _, _, _, e2, _⟩ := p2
  obtain ⟨h1, xs, h2, h3⟩ := h
  exact ⟨h1, xs, b _ _ h1 h2, dpAll_pen e1 e2 b t h3⟩
/-! ### bad lists -/
theorem canLay_bad : ∀ {ds : List PyData}, (∀ d ∈ ds, badD d) → PyData.canLayAll0 ds = true
  | [], _ => by simp [PyData.canLayAll0]
  | d :: ds, h => by
    rw [PyData.canLayAll0, canLay_bad fun e he => h e (List.mem_cons_of_mem _ he)]
    rcases h d List.mem_cons_self with ⟨z, rfl⟩ | ⟨z, rfl⟩ <;> simp [PyData.canLay0, PyData.canLayAll0]
theorem depth_bad : ∀ {ds : List PyData}, (∀ d ∈ ds, badD d) → PyData.depthAll ds ≤ 1
  | [], _ => by simp [PyData.depthAll]
  | d :: ds, h => by
    have ih := depth_bad fun e he => h e (List.mem_cons_of_mem _ he)
    have : d.depth ≤ 1 := by
      rcases h d List.mem_cons_self with ⟨z, rfl⟩ | ⟨z, rfl⟩ <;> simp [PyData.depth, PyData.depthAll]
    simp only [PyData.depthAll]
    omega
theorem shaped_bad {ds : List PyData} (h : ∀ d ∈ ds, badD d) : SeqAt.shaped (.list ds) = true := by
  unfold SeqAt.shaped
  rw [PyData.canLay0, canLay_bad h, Bool.true_and, decide_eq_true_iff, PyData.depth]
  have := depth_bad h
  omega
theorem shaped_nil : SeqAt.shaped (.list []) = true := by simp [SeqAt.shaped, PyData.canLay0, PyData.canLayAll0, PyData.depth, PyData.depthAll]
theorem eqv_nil : PyData.eqv (.list []) (.list []) = true := by simp [PyData.eqv, PyData.eqvAll]
theorem eqv_cons (d : PyData) (ds : List PyData) : PyData.eqv (.list (d :: ds)) (.list []) = false := by simp [PyData.eqv, PyData.eqvAll]
theorem areB_bad {c w m : Int} {zs : List Int} {d : PyData} {es : List PyData} (h : ∀ x ∈ d :: es, badD x) : areB c w m zs (.tuple (d :: es)) = false := by
  show (_ && (((d :: es).map fun d => isPlain d 2).all id && walkB c w zs 0 (d :: es))) = false
  have : (((d :: es).map fun d => isPlain d 2).all id && walkB c w zs 0 (d :: es)) = false := by
    rcases h d List.mem_cons_self with ⟨z, rfl⟩ | ⟨z, rfl⟩
    · rw [walkB]
      show (_ && false) = false
      rw [Bool.and_false]
    · rfl
  rw [this, Bool.and_false]
theorem tupD_int (i : Int) : tupD (.int i) = .int i := by simp [tupD]
theorem tupD_non : tupD .none = .none := by simp [tupD]
theorem tupD_kind {ds : List PyData} (h : KindD ds) : tupD (.list ds) = .tuple ds := by
  rw [tupD, tupDs_map]
  rcases h with ⟨bs, rfl, _⟩ | ⟨_, _, h⟩
  · rw [List.map_map]
    exact congrArg PyData.tuple (List.map_congr_left fun b _ => tupD_encB b)
  · have e : ds.map tupD = ds.map id := List.map_congr_left fun d hd => by
      rcases h d hd with ⟨z, rfl⟩ | ⟨z, rfl⟩ <;> simp [tupD, tupDs]
    rw [e, List.map_id]
theorem fits_kind {ds : List PyData} (n : Nat) (h : KindD ds) : fits (n + 2) (.list ds) := by
  rw [fits]
  refine ⟨by have := h.len; omega, fun d hd => ?_⟩
  rcases h with ⟨bs, rfl, _⟩ | ⟨_, _, h⟩
  · obtain ⟨b, _, rfl⟩ := List.mem_map.mp hd
    exact fits_encB n b
  · rcases h d hd with ⟨z, rfl⟩ | ⟨z, rfl⟩ <;> simp [fits]
theorem tot_sum : ∀ bs : List Blk, (bs.map (·.2)).sum = tot bs
  | [] => rfl
  | b :: bs => by
    rw [List.map_cons, List.sum_cons, tot_sum bs]
    rfl
/-! ### values that show nothing -/
def Wr (K : PySem.W.Frag) (H : Hp) (CB CU : Addr) (c wn m : Int) (ns : List Int) (r : Row) (v : V) : Prop := (∃ u dx dy, v = .ref u ∧ IsBD K H CB u dx dy ∧ tupOnly dy = true ∧ (∀ ds, dy = .tuple ds → ds.length ≤ 1000000) ∧ showB c wn m ns dx dy r = false) ∨
  ∃ t, TyX K H v t ∧ PySem.W.kitOne K t (.ref CU) = some false ∧ PySem.W.kitOne K t (.ref CB) = some false
theorem Wr.same {CB CU : Addr} {c wn m : Int} {ns : List Int} {r : Row} {v : V} (s : Same H H') (h : Wr K H CB CU c wn m ns r v) : Wr K H' CB CU c wn m ns r v := by
  rcases h with ⟨u, dx, dy, h1, h2, h3, h4, h5⟩ | ⟨t, h1, h2, h3⟩
  · exact .inl ⟨u, dx, dy, h1, h2.same s, h3, h4, h5⟩
  · exact .inr ⟨t, tyX_same s h1, h2, h3⟩
theorem shows_wr {CB CU a : Addr} {c wn m : Int} {ns : List Int} {r : Row} {v : V} {E : XK} {Q : VK} (ag : Arg K H c wn m a ns) (hmin : IsMin (FinB c wn (· ∈ ns) m) r) (h : Wr K H CB CU c wn m ns r v) (hq : ∀ H', Same H H' → Q (.bl false) H') : spShows K CB CU [.int c, .ref a, .int wn, .int m, v] H Q E := by
  rcases h with ⟨u, dx, dy, rfl, h2, h3, h4, h5⟩ | ⟨t, h1, h2, h3⟩
  · refine shows_b ag h2 h3 h4 (fun H' s h => absurd hmin.1 (h r)) fun H' r2 s h => ?_
    rw [h.uniq hmin, h5]
    exact hq H' s
  · exact shows_o ag h1 h2 h3 hq
theorem showB_less {c w m : Int} {zs : List Int} {i : Int} {y : PyData} {r : Row} (h : i ≠ r.1) : showB c w m zs (.int i) y r = false := by
  show (areB c w m zs y && (decide (i = r.1) && decide (r.1 = sizesD y))) = false
  rw [decide_eq_false h, Bool.false_and, Bool.and_false]
theorem showB_none {c w m : Int} {zs : List Int} {y : PyData} {r : Row} : showB c w m zs .none y r = false := by
  unfold showB cellsOk
  rw [Bool.and_false]
theorem areB_five {c w m : Int} {zs : List Int} (ds : List PyData) : areB c w m zs (.tuple (ds ++ [.int 5])) = false := by
  have e : ((ds ++ [PyData.int 5]).map fun d => isPlain d 2).all id = false := by
    rw [List.map_append, List.all_append]
    exact Bool.and_false _
  show (_ && (((ds ++ [PyData.int 5]).map fun d => isPlain d 2).all id && walkB c w zs 0 (ds ++ [PyData.int 5]))) = false
  rw [e, Bool.false_and, Bool.and_false]
end
end K23
set_option maxHeartbeats 1000000
namespace K23
open PySem PySem.Spec PyProof.Rows L2 KSup NdefX StX
section
variable {P : Program} {w : World} {K : PySem.W.Frag} {mg : Str → Option Value} {base : Heap} {f CB CU CP fB fU fP fE fT fF g1 g2 g3 g4 g5 g6 g7 : Addr} {fd d1 d2 d3 d4 d5 d6 d7 : FuncData}
theorem ok_law (F : FnP K "law" sLaw f fd) (L : Lw P w K mg base CB CU CP fB fU fP fE fT fF)
    (D1 : Df P w K mg base 1 "_law_pen" ["script"] (spPen K) g1 d1) (D2 : Df P w K mg base 1 "_law_draw" ["pen", "many"] (spDraw K) g2 d2) (D3 : Df P w K mg base 1 "_law_least_bars" ["cells", "sizes", "wanted", "many"] (spLeast K) g3 d3)
    (D4 : Df P w K mg base 9 "bars" ["cells", "sizes", "wanted", "most"] (spBars K CB CU) g4 d4) (D4' : FunD K "bars" "bars" (defArgs sBars) (defBody sBars) (defScope sBars) [.int 12] [] g4 d4)
    (D5 : Df P w K mg base 5 "shows_bars" ["cells", "sizes", "wanted", "most", "value"] (spShows K CB CU) g5 d5) (D6 : Df P w K mg base 2 "_law_pick" ["pen", "some"] (spPick K) g6 d6)
    (D7 : Df P w K mg base 1 "_law_is_bars" ["cells", "sizes", "wanted", "many", "blocks"] (spLIs K) g7 d7) : FnOk P w K mg base CX0 12 f fd ["script"] (spLaw K) := by
  obtain ⟨GD, kD, bD, mD⟩ := D2
  obtain ⟨GL, kL, bL, mL⟩ := D3
  obtain ⟨GB, kB, bB4, mB⟩ := D4
  obtain ⟨GS, kS, bS, mS⟩ := D5
  obtain ⟨GP, kP, bP, mP⟩ := D6
  obtain ⟨GI, kI, bI, mI⟩ := D7
  obtain ⟨G1, k1, b1, m1⟩ := D1
  obtain ⟨dv, hB3, bB3⟩ := bars_b3 D4'
  have kwB := bars_k D4'
  have T := L.bl
  have MB := L.mk1
  have MU := L.mk2
  have MP := L.mk3
  have FB := L.in1
  have FU := L.in2
  have FP := L.in3
  have FE := L.eq
  have GT := L.bt
  have GF := L.bf
  have mCB := L.mB
  have mCU := L.mU
  have mCP := L.mP
  refine F.ok scLaw (fun vs H Q E h => ?_) (fun cdv A outer s H vs Q E hr h => ?_)
  · obtain ⟨a, ns, rfl, _⟩ := h
    rfl
  · obtain ⟨a, ns, rfl, hs, hq⟩ := h
    have hr1 : Room 8 (A.deeper (envOfC _ _ s.heap.objs.size f cdv)) := hr.mono (by omega)
    have hr1p : Room 7 (A.deeper (envOfC _ _ s.heap.objs.size f cdv)) := hr.mono (by omega)
    have hr2 : Room 7 (A.deeper (envOfC _ _ s.heap.objs.size f cdv)) := hr.mono (by omega)
    have hr3 : Room 8 (A.deeper (envOfC _ _ s.heap.objs.size f cdv)) := hr.mono (by omega)
    have hr64 := hr.units
    refine ⟨_, PSs.nox (pss_cons (ps_set (i := 1) scLaw.nd rfl (Or.inr rfl) (pe_call G1 (hr.mono (by omega)) (by rfl) m1 k1 b1 .nil pass0 (pa_cons (pv 0) pa_nil)))
      (pss_cons (ps_for PassesOwn.never rfl (pi_range1 (by rfl) T.range (pa_cons pe_int pa_nil)) (pg_name (i := 2) scLaw.nd rfl (Or.inl rfl))
        (C8.pss_cut (ps_asg (pe_tup (pa_cons (pe_op op_add pe_int (pe_call GD (hr.mono (by omega)) (by rfl) mD kD bD .nil pass0 (pa_cons (pv 1) (pa_cons pe_int pa_nil)))) (pa_cons (pe_op op_add pe_int (pe_call GD (hr.mono (by omega)) (by rfl) mD kD bD .nil pass0 (pa_cons (pv 1) (pa_cons pe_int pa_nil)))) (pa_cons (pe_call GD (hr.mono (by omega)) (by rfl) mD kD bD .nil pass0 (pa_cons (pv 1) (pa_cons pe_int pa_nil))) pa_nil)))) (pg_tup (t := gCons (gName 3) (gCons (gName 4) (gCons (gName 5) gNil))) (n := 3) rfl (pgs_cons (pg_name (i := 3) scLaw.nd rfl (Or.inr rfl)) (pgs_cons (pg_name (i := 4) scLaw.nd rfl (Or.inr rfl)) (pgs_cons (pg_name (i := 5) scLaw.nd rfl (Or.inr rfl)) pgs_nil)))))
          (C8.pss_cut (ps_set (i := 6) scLaw.nd rfl (Or.inr rfl) (pe_lc (own := [("size", 16)]) (g := gName 16) (tt := tYes) rfl scLaw.nd (pi_range1 (by rfl) T.range (pa_cons (pe_op op_add pe_int (pe_call GD (hr.mono (by omega)) (by rfl) mD kD bD .nil pass0 (pa_cons (pv 1) (pa_cons pe_int pa_nil)))) pa_nil)) (blkOk_by (N := ["script", "pen", "turn", "cells", "wanted", "many", "sizes", "due", "told", "whole", "more", "blocks", "bent", "other", "is_right", "wrong", "size", "start", "pair", "value"]) (sc := defScope sLaw) (by decide +kernel)) (fun _ _ _ _ _ => (pg_name (i := 16) scLaw.nd rfl (Or.inl rfl))) (fun _ _ _ _ _ => pts_nil) (fun _ _ _ _ _ => (pe_op op_add pe_int (pe_call GD (hr.mono (by omega)) (by rfl) mD kD bD .nil pass0 (pa_cons (pv 1) (pa_cons pe_int pa_nil)))))))
          (C8.pss_cut (ps_set (i := 7) scLaw.nd rfl (Or.inl rfl) (pe_call GL (hr.mono (by omega)) (by rfl) mL kL bL .nil pass0 (pa_cons (pv 3) (pa_cons (pv 6) (pa_cons (pv 4) (pa_cons (pv 5) pa_nil))))))
          (C8.pss_cut (ps_set (i := 8) scLaw.nd rfl (Or.inl rfl) (pe_call GB (hr.mono (by omega)) (by rfl) mB kB bB4 .nil pass0 (pa_cons (pv 3) (pa_cons (pv 6) (pa_cons (pv 4) (pa_cons (pv 5) pa_nil))))))
          (C8.pss_cut (ps_if (PW.pt (pw_or (pt_cmpR op_ne (pe_cmpR (op_eqO FE hr2 pass0) (pv 8) (pe_makeR0 MU FU hr1 (by rfl) mCU pass0) (nomark _)) (pe_cmpR op_isN (pv 7) pe_non (nomark _)) (nomark _)) (pw_or (PW.pt (pw_and (pt_cmpR op_notN (pv 7) pe_non (nomark _)) (pw_and1 (pt_cmpR (op_neO FE hr3 pass0) (pv 8) (pe_makeR MB FB hr1 (by rfl) mCB pass0 (pa_cons (pe_ix ix_tup (pv 7) pe_int (fun _ _ => rfl)) (pa_cons (pe_ix ix_tup (pv 7) pe_int (fun _ _ => rfl)) pa_nil))) (nomark _))))) (pw_or1 (pt_cmpR (op_neO FE hr3 pass0) (pe_callK0 GB (hr.mono (by omega)) (by rfl) mB kB kwB pass0 (pk_cons (pv 5) (pk_cons (pv 4) (pk_cons (pe_op op_cat (pv 6) (pv 6)) (pk_cons (pv 3) pk_nil))))) (pv 8) (nomark _)))))) (pss_one (ps_ret pe_bl)) pss_nil)
          (C8.pss_cut (ps_if (PW.pt (pw_or (pt_cmpR op_notBl (pe_call GS (hr.mono (by omega)) (by rfl) mS kS bS .nil pass0 (pa_cons (pv 3) (pa_cons (pv 6) (pa_cons (pv 4) (pa_cons (pv 5) (pa_cons (pv 8) pa_nil)))))) pe_bl (nomark _)) (pw_or1 (pt_cmpR op_ne (pe_call GS (hr.mono (by omega)) (by rfl) mS kS bS .nil pass0 (pa_cons (pv 3) (pa_cons (pv 6) (pa_cons (pv 4) (pa_cons (pv 5) (pa_cons (pe_makeR0 MU FU hr1 (by rfl) mCU pass0) pa_nil)))))) (pe_cmpR op_isN (pv 7) pe_non (nomark _)) (nomark _))))) (pss_one (ps_ret pe_bl)) pss_nil)
          (C8.pss_cut (ps_set (i := 9) scLaw.nd rfl (Or.inl rfl) (pe_call GB (hr.mono (by omega)) (by rfl) mB kB bB3 hB3 pass0 (pa_cons (pv 3) (pa_cons (pv 6) (pa_cons (pv 4) pa_nil)))))
          (C8.pss_cut (ps_set (i := 10) scLaw.nd rfl (Or.inl rfl) (pe_call GB (hr.mono (by omega)) (by rfl) mB kB bB4 .nil pass0 (pa_cons (pv 3) (pa_cons (pe_op op_cat (pv 6) (pe_lst (pa_cons pe_int pa_nil))) (pa_cons (pv 4) (pa_cons (pe_callB (call_min2 rfl) (by rfl) T.min (by decide +kernel) (pa_cons pe_int (pa_cons (pe_op op_add (pv 5) pe_int) pa_nil))) pa_nil))))))
          (C8.pss_cut (ps_if (PW.pt (pw_and (pt_cmpR op_notN (pv 7) pe_non (nomark _)) (pw_and1 (PW.pt (pw_or (pt_not (pt_own GT GF (hr.mono (by omega)) pass0 (pv 9))) (pw_or (pt_cmpR op_gt (pe_fld (pv 9) rfl) (pe_ix ix_tup (pv 7) pe_int (fun _ _ => rfl)) (nomark _)) (pw_or (pt_not (pt_own GT GF (hr.mono (by omega)) pass0 (pv 10))) (pw_or1 (pt_cmpR op_gt (pe_fld (pv 10) rfl) (pe_ix ix_tup (pv 7) pe_int (fun _ _ => rfl)) (nomark _)))))))))) (pss_one (ps_ret pe_bl)) pss_nil)
          (C8.pss_cut (ps_if (pt_cmpR op_isN (pv 7) pe_non (nomark _)) (pss_cons (ps_if (PW.pt (pw_or (pt_cmpR op_notBl (pe_call GS (hr.mono (by omega)) (by rfl) mS kS bS .nil pass0 (pa_cons (pv 3) (pa_cons (pv 6) (pa_cons (pv 4) (pa_cons (pv 5) (pa_cons (pe_makeR MB FB hr1 (by rfl) mCB pass0 (pa_cons pe_int (pa_cons (pe_tup pa_nil) pa_nil))) pa_nil)))))) pe_bl (nomark _)) (pw_or1 (PW.pt (pw_and (pt_cmpR op_notN (pe_call GL (hr.mono (by omega)) (by rfl) mL kL bL .nil pass0 (pa_cons (pv 3) (pa_cons (pv 6) (pa_cons (pv 4) (pa_cons pe_int pa_nil))))) pe_non (nomark _)) (pw_and1 (pt_not (pt_own GT GF (hr.mono (by omega)) pass0 (pv 9))))))))) (pss_one (ps_ret pe_bl)) pss_nil) (pss_one ps_continue)) pss_nil)
          (C8.pss_cut (ps_set (i := 11) scLaw.nd rfl (Or.inl rfl) (pe_callTy call_list_of (by rfl) T.list (by decide +kernel) (pa_cons (pe_ix ix_tup (pv 7) pe_int (fun _ _ => rfl)) pa_nil)))
          (C8.pss_cut (ps_set (i := 12) scLaw.nd rfl (Or.inl rfl) (pe_lst (pa_cons (pe_op op_cat (pv 11) (pe_lst (pa_cons (pe_tup (pa_cons (pv 3) (pa_cons (pe_callB (cr_min rfl) (by rfl) T.min (by decide +kernel) (pa_cons (pv 6) pa_nil)) pa_nil))) pa_nil))) (pa_cons (pe_slice sl_list (pv 11) (po_some pe_int) po_none) (pa_cons (pe_revL (pv 11)) (pa_cons (pe_op op_cat (pv 11) (pe_slice sl_list (pv 11) (po_some (pe_un un_neg pe_int)) po_none)) (pa_cons (pe_lc (own := [("start", 17), ("size", 16)]) (g := gTup K 2 (gCons (gName 17) (gCons (gName 16) gNil))) (tt := tYes) rfl scLaw.nd (pi_list (pv 11)) (blkOk_by (N := ["script", "pen", "turn", "cells", "wanted", "many", "sizes", "due", "told", "whole", "more", "blocks", "bent", "other", "is_right", "wrong", "size", "start", "pair", "value"]) (sc := defScope sLaw) (by decide +kernel)) (fun _ _ _ _ _ => pg_tup rfl (pgs_cons (pg_name (i := 17) scLaw.nd rfl (Or.inl rfl)) (pgs_cons (pg_name (i := 16) scLaw.nd rfl (Or.inl rfl)) pgs_nil))) (fun _ _ _ _ _ => pts_nil) (fun _ _ _ _ _ => (pe_tup (pa_cons (pe_op op_add (pv 17) pe_int) (pa_cons (pv 16) pa_nil))))) (pa_cons (pe_lc (own := [("start", 17), ("size", 16)]) (g := gTup K 2 (gCons (gName 17) (gCons (gName 16) gNil))) (tt := tYes) rfl scLaw.nd (pi_list (pv 11)) (blkOk_by (N := ["script", "pen", "turn", "cells", "wanted", "many", "sizes", "due", "told", "whole", "more", "blocks", "bent", "other", "is_right", "wrong", "size", "start", "pair", "value"]) (sc := defScope sLaw) (by decide +kernel)) (fun _ _ _ _ _ => pg_tup rfl (pgs_cons (pg_name (i := 17) scLaw.nd rfl (Or.inl rfl)) (pgs_cons (pg_name (i := 16) scLaw.nd rfl (Or.inl rfl)) pgs_nil))) (fun _ _ _ _ _ => pts_nil) (fun _ _ _ _ _ => (pe_tup (pa_cons (pe_callB (call_max2 rfl) (by rfl) T.max (by decide +kernel) (pa_cons pe_int (pa_cons (pe_op op_sub (pv 17) pe_int) pa_nil))) (pa_cons (pv 16) pa_nil))))) pa_nil))))))))
          (C8.pss_cut (ps_set (i := 12) scLaw.nd rfl (Or.inl rfl) (pe_op op_cat (pv 12) (pe_lst (pa_cons (pe_lc (own := [("start", 17), ("size", 16)]) (g := gTup K 2 (gCons (gName 17) (gCons (gName 16) gNil))) (tt := tYes) rfl scLaw.nd (pi_list (pv 11)) (blkOk_by (N := ["script", "pen", "turn", "cells", "wanted", "many", "sizes", "due", "told", "whole", "more", "blocks", "bent", "other", "is_right", "wrong", "size", "start", "pair", "value"]) (sc := defScope sLaw) (by decide +kernel)) (fun _ _ _ _ _ => pg_tup rfl (pgs_cons (pg_name (i := 17) scLaw.nd rfl (Or.inl rfl)) (pgs_cons (pg_name (i := 16) scLaw.nd rfl (Or.inl rfl)) pgs_nil))) (fun _ _ _ _ _ => pts_nil) (fun _ _ _ _ _ => (pe_tup (pa_cons (pv 17) (pa_cons (pe_op op_add pe_int (pe_op op_mod (pv 16) pe_int)) pa_nil))))) (pa_cons (pe_lc (own := [("start", 17), ("size", 16)]) (g := gTup K 2 (gCons (gName 17) (gCons (gName 16) gNil))) (tt := tYes) rfl scLaw.nd (pi_list (pv 11)) (blkOk_by (N := ["script", "pen", "turn", "cells", "wanted", "many", "sizes", "due", "told", "whole", "more", "blocks", "bent", "other", "is_right", "wrong", "size", "start", "pair", "value"]) (sc := defScope sLaw) (by decide +kernel)) (fun _ _ _ _ _ => pg_tup rfl (pgs_cons (pg_name (i := 17) scLaw.nd rfl (Or.inl rfl)) (pgs_cons (pg_name (i := 16) scLaw.nd rfl (Or.inl rfl)) pgs_nil))) (fun _ _ _ _ _ => pts_nil) (fun _ _ _ _ _ => (pe_tup (pa_cons pe_bl (pa_cons (pv 16) pa_nil))))) (pa_cons (pe_lc (own := [("start", 17), ("size", 16)]) (g := gTup K 2 (gCons (gName 17) (gCons (gName 16) gNil))) (tt := tYes) rfl scLaw.nd (pi_list (pv 11)) (blkOk_by (N := ["script", "pen", "turn", "cells", "wanted", "many", "sizes", "due", "told", "whole", "more", "blocks", "bent", "other", "is_right", "wrong", "size", "start", "pair", "value"]) (sc := defScope sLaw) (by decide +kernel)) (fun _ _ _ _ _ => pg_tup rfl (pgs_cons (pg_name (i := 17) scLaw.nd rfl (Or.inl rfl)) (pgs_cons (pg_name (i := 16) scLaw.nd rfl (Or.inl rfl)) pgs_nil))) (fun _ _ _ _ _ => pts_nil) (fun _ _ _ _ _ => (pe_tup (pa_cons (pv 17) pa_nil)))) pa_nil))))))
          (C8.pss_cut (ps_set (i := 13) scLaw.nd rfl (Or.inl rfl) (pe_call GP (hr.mono (by omega)) (by rfl) mP kP bP .nil pass0 (pa_cons (pv 1) (pa_cons (pv 12) pa_nil))))
          (C8.pss_cut (ps_set (i := 14) scLaw.nd rfl (Or.inl rfl) (pe_and (pe_cmpR (op_eqD hr64) (pe_lc (own := [("pair", 18)]) (g := gName 18) (tt := _) rfl scLaw.nd (pi_list (pv 13)) (blkOk_by (N := ["script", "pen", "turn", "cells", "wanted", "many", "sizes", "due", "told", "whole", "more", "blocks", "bent", "other", "is_right", "wrong", "size", "start", "pair", "value"]) (sc := defScope sLaw) (by decide +kernel)) (fun _ _ _ _ _ => (pg_name (i := 18) scLaw.nd rfl (Or.inl rfl))) (fun _ _ _ _ _ => pts_one (PW.pt (pw_or (pt_cmpR op_ne (pe_callB (show CallR _ _ (rLenK K) from call_len_seq) (by rfl) T.len PySem.boot_len (pa_cons (pv 18) pa_nil)) pe_int (nomark _)) (pw_or1 (pt_cmpR op_isBl2 (pe_ix (show IxR _ (rIxT K) from ix_tup) (pv 18) pe_int (fun _ _ => rfl)) pe_bl (nomark _)))))) (fun _ _ _ _ _ => (pv 18))) (pe_lst pa_nil) (nomark _)) (pe_and (pe_call GI (hr.mono (by omega)) (by rfl) mI kI bI .nil pass0 (pa_cons (pv 3) (pa_cons (pv 6) (pa_cons (pv 4) (pa_cons (pv 5) (pa_cons (pv 13) pa_nil)))))) (pe_one (pe_cmpR op_eq (pe_callB (cr_sum rfl) (by rfl) T.sum (by decide +kernel) (pa_cons (pe_lc (own := [("start", 17), ("size", 16)]) (g := gTup K 2 (gCons (gName 17) (gCons (gName 16) gNil))) (tt := tYes) rfl scLaw.nd (pi_list (pv 13)) (blkOk_by (N := ["script", "pen", "turn", "cells", "wanted", "many", "sizes", "due", "told", "whole", "more", "blocks", "bent", "other", "is_right", "wrong", "size", "start", "pair", "value"]) (sc := defScope sLaw) (by decide +kernel)) (fun _ _ _ _ _ => pg_tup rfl (pgs_cons (pg_name (i := 17) scLaw.nd rfl (Or.inl rfl)) (pgs_cons (pg_name (i := 16) scLaw.nd rfl (Or.inl rfl)) pgs_nil))) (fun _ _ _ _ _ => pts_nil) (fun _ _ _ _ _ => (pv 16))) pa_nil)) (pe_ix ix_tup (pv 7) pe_int (fun _ _ => rfl)) (nomark _))))))
          (C8.pss_cut (ps_if (pt_cmpR op_ne (pe_call GS (hr.mono (by omega)) (by rfl) mS kS bS .nil pass0 (pa_cons (pv 3) (pa_cons (pv 6) (pa_cons (pv 4) (pa_cons (pv 5) (pa_cons (pe_makeR MB FB hr1 (by rfl) mCB pass0 (pa_cons (pe_ix ix_tup (pv 7) pe_int (fun _ _ => rfl)) (pa_cons (pv 13) pa_nil))) pa_nil)))))) (pv 14) (nomark _)) (pss_one (ps_ret pe_bl)) pss_nil)
          (C8.pss_cut (ps_set (i := 15) scLaw.nd rfl (Or.inl rfl) (pe_lst (pa_cons (pe_makeR MB FB hr1 (by rfl) mCB pass0 (pa_cons (pe_op op_add (pe_ix ix_tup (pv 7) pe_int (fun _ _ => rfl)) pe_int) (pa_cons (pv 11) pa_nil))) (pa_cons (pe_makeR MB FB hr1 (by rfl) mCB pass0 (pa_cons (pe_ix ix_tup (pv 7) pe_int (fun _ _ => rfl)) (pa_cons pe_non pa_nil))) (pa_cons (pe_makeR MB FB hr1 (by rfl) mCB pass0 (pa_cons pe_non (pa_cons (pv 11) pa_nil))) (pa_cons (pv 11) (pa_cons pe_non (pa_cons (pe_makeR MP FP hr1p (by rfl) mCP pass0 (pa_cons pe_str (pa_cons (pe_ix ix_tup (pv 7) pe_int (fun _ _ => rfl)) (pa_cons (pv 11) pa_nil)))) (pa_cons (pe_makeR MB FB hr1 (by rfl) mCB pass0 (pa_cons (pe_ix ix_tup (pv 7) pe_int (fun _ _ => rfl)) (pa_cons (pe_op op_cat (pe_lc (own := [("start", 17), ("size", 16)]) (g := gTup K 2 (gCons (gName 17) (gCons (gName 16) gNil))) (tt := tYes) rfl scLaw.nd (pi_list (pv 11)) (blkOk_by (N := ["script", "pen", "turn", "cells", "wanted", "many", "sizes", "due", "told", "whole", "more", "blocks", "bent", "other", "is_right", "wrong", "size", "start", "pair", "value"]) (sc := defScope sLaw) (by decide +kernel)) (fun _ _ _ _ _ => pg_tup rfl (pgs_cons (pg_name (i := 17) scLaw.nd rfl (Or.inl rfl)) (pgs_cons (pg_name (i := 16) scLaw.nd rfl (Or.inl rfl)) pgs_nil))) (fun _ _ _ _ _ => pts_nil) (fun _ _ _ _ _ => (pe_tup (pa_cons (pv 17) (pa_cons (pv 16) (pa_cons pe_int pa_nil)))))) (pe_lst (pa_cons pe_int pa_nil))) pa_nil))) pa_nil)))))))))
          (pss_one (ps_if (pt_cmpR (op_neD hr64) (pe_lc (own := [("value", 19)]) (g := gName 19) (tt := _) rfl scLaw.nd (pi_list (pv 15)) (blkOk_by (N := ["script", "pen", "turn", "cells", "wanted", "many", "sizes", "due", "told", "whole", "more", "blocks", "bent", "other", "is_right", "wrong", "size", "start", "pair", "value"]) (sc := defScope sLaw) (by decide +kernel)) (fun _ _ _ _ _ => (pg_name (i := 19) scLaw.nd rfl (Or.inl rfl))) (fun _ _ _ _ _ => pts_one (pt_cmpR op_notBl (pe_call GS (hr.mono (by omega)) (by rfl) mS kS bS .nil pass0 (pa_cons (pv 3) (pa_cons (pv 6) (pa_cons (pv 4) (pa_cons (pv 5) (pa_cons (pv 19) pa_nil)))))) pe_bl (nomark _))) (fun _ _ _ _ _ => (pv 19))) (pe_lst pa_nil) (nomark _)) (pss_one (ps_ret pe_bl)) pss_nil))))))))))))))))))))
      (pss_one (ps_ret (pe_and (pe_cmpR op_isBl (pe_call GS (hr.mono (by omega)) (by rfl) mS kS bS .nil pass0 (pa_cons pe_int (pa_cons (pe_lst (pa_cons pe_int pa_nil)) (pa_cons pe_int (pa_cons pe_int (pa_cons (pe_makeR MB FB hr1 (by rfl) mCB pass0 (pa_cons pe_int (pa_cons (pe_lst (pa_cons (pe_tup (pa_cons pe_int (pa_cons pe_int pa_nil))) pa_nil)) pa_nil))) pa_nil)))))) pe_bl (nomark _)) (pe_one (pe_cmpR op_isBl (pe_call GS (hr.mono (by omega)) (by rfl) mS kS bS .nil pass0 (pa_cons pe_int (pa_cons (pe_lst (pa_cons pe_int pa_nil)) (pa_cons pe_int (pa_cons pe_int (pa_cons (pe_makeR MB FB hr1 (by rfl) mCB pass0 (pa_cons pe_int (pa_cons (pe_lst (pa_cons (pe_tup (pa_cons pe_int (pa_cons pe_int pa_nil))) pa_nil)) pa_nil))) pa_nil)))))) pe_bl (nomark _)))))))), ?_⟩
    refine ⟨_, rfl, a, ns, rfl, hs, fun H1 p s1 np hp => ?_⟩
    refine ⟨3, rfl, by omega, by omega, ?_⟩
    refine for_range (lo := 0) (n := 3) (fun (t : Nat) σ H2 => (∃ x2 x3 x4 x5 x6 x7 x8 x9 x10 x11 x12 x13 x14 x15 x16 x17 x18 x19, σ = [some (.ref a), some (.ref p), x2, x3, x4, x5, x6, x7, x8, x9, x10, x11, x12, x13, x14, x15, x16, x17, x18, x19]) ∧ ∃ N, PenAt H2 p N ∧ N ≤ 10 * t) ?_ (fun t σ H2 ht q => ?_) (fun σ H2 q => ?_)
    · exact ⟨⟨_, _, _, _, _, _, _, _, _, _, _, _, _, _, _, _, _, _, rfl⟩, 0, hp, by omega⟩
    · obtain ⟨⟨x2, x3, x4, x5, x6, x7, x8, x9, x10, x11, x12, x13, x14, x15, x16, x17, x18, x19, rfl⟩, N, hp2, hN⟩ := q
      -- the draws
      refine ⟨fun σ' H' => ∃ c wn m : Int, σ' = [some (.ref a), some (.ref p), some (.int (0 + (t : Int))), some (.int c), some (.int wn), some (.int m), x6, x7, x8, x9, x10, x11, x12, x13, x14, x15, x16, x17, x18, x19] ∧ PenAt H' p (N + 3) ∧ (1 ≤ c ∧ c ≤ 12) ∧ (1 ≤ wn ∧ wn ≤ 5) ∧ (0 ≤ m ∧ m ≤ 12), ?_, ?_⟩
      · refine ⟨_, rfl, p, 12, N, rfl, hp2, by omega, by omega, by omega, fun H3 r1 b1 q1 r1a r1b => ?_⟩
        refine ⟨_, _, rfl, rfl, ?_⟩
        refine ⟨_, rfl, p, 5, N + 1, rfl, q1, by omega, by omega, by omega, fun H4 r2 b2 q2 r2a r2b => ?_⟩
        refine ⟨_, _, rfl, rfl, ?_⟩
        refine ⟨_, rfl, p, 13, N + 1 + 1, rfl, q2, by omega, by omega, by omega, fun H5 r3 b3 q3 r3a r3b => ?_⟩
        refine ⟨by rw [sizeLine_eq]; show 3 ≤ 16777216; omega, fun y ny => ?_⟩
        refine ⟨_, _, rfl, .inl (.inl upd_same), rfl, _, _, rfl, _, _, rfl, _, _, rfl, rfl, ?_⟩
        have e3 : N + 1 + 1 + 1 = N + 3 := by omega
        rw [e3] at q3
        exact ⟨1 + r1, 1 + r2, r3, rfl, q3.same (same_upd ny), by omega, by omega, by omega⟩
      rintro σ' H3 ⟨c, wn, m, rfl, hp3, hc, hw, hm⟩
      -- the sizes
      refine ⟨fun σ' H' => ∃ (sa : Addr) (ns : List Int), σ' = [some (.ref a), some (.ref p), some (.int (0 + (t : Int))), some (.int c), some (.int wn), some (.int m), some (.ref sa), x7, x8, x9, x10, x11, x12, x13, x14, x15, x16, x17, x18, x19] ∧ Tn K H' p sa (N + 8) c wn m ns, ?_, ?_⟩
      · refine ⟨_, rfl, p, 4, N + 3, rfl, hp3, by omega, by omega, by omega, fun H4 r4 b4 q4 r4a r4b => ⟨_, _, rfl, rfl, 1 + r4, rfl, by omega, by omega, fun D nD => ?_⟩⟩
        have hDp : D ≠ p := fun z => by
          obtain ⟨_, _, _, _, e, _⟩ := q4
          rw [← z, nD] at e
          cases e
        refine lc_it walk_range (fun i H' => ∃ ns : List Int, H' D = some (.lst (ns.map V.int)) ∧ ns.length = i ∧ (∀ n ∈ ns, 1 ≤ n ∧ n ≤ 3) ∧ PenAt H' p (N + 4 + i)) ⟨[], upd_same, rfl, fun _ h => by simp at h, ?_⟩ (fun _ _ _ _ => trivial) (fun i x H5 H6 hi q y => ?_) (fun H5 q => ?_)
        · have e : N + 4 + ((0 : Nat) : Int) = N + 3 + 1 := by omega
          rw [e]
          exact q4.same (same_upd nD)
        · obtain ⟨rfl, rfl⟩ := y
          obtain ⟨ns, hD, hl, hz, pen⟩ := q
          refine ⟨wipe_one _ 16 _, ?_⟩
          dsimp only [tYes]
          rw [if_pos rfl]
          refine ⟨_, rfl, p, 3, N + 4 + i, rfl, pen, by omega, by omega, by omega, fun H7 r7 b7 q7 r7a r7b => ⟨_, _, rfl, rfl, ns.map V.int, b7 _ _ hDp hD, by rw [List.length_map, sizeLine_eq]; omega, ns ++ [1 + r7], by rw [List.map_append]; exact upd_same, by simp [hl], fun n hn => ?_, ?_⟩⟩
          · rcases List.mem_append.mp hn with hn | hn
            · exact hz n hn
            · rw [List.mem_singleton] at hn
              omega
          · obtain ⟨q0, ms, y1, y2, e1, e2, e3, e4, e5, e6, e7⟩ := q7
            by_cases hq0 : q0 = D
            · exact ⟨q0, ns ++ [1 + r7], y1, y2, by rw [upd_ne (Ne.symm hDp)]; exact e1, by rw [hq0, List.map_append]; exact upd_same, e3, by rw [List.length_append, hl]; show i + 1 ≤ 63; omega, e5, by omega, e7⟩
            · exact ⟨q0, ms, y1, y2, by rw [upd_ne (Ne.symm hDp)]; exact e1, by rw [upd_ne hq0]; exact e2, e3, e4, e5, by omega, e7⟩
        · obtain ⟨ns, hD, hl, hz, pen⟩ := q
          refine ⟨D, ns, rfl, ⟨?_, ?_, hD, hDp, by omega, by omega⟩⟩
          · obtain ⟨q0, ms, y1, y2, e1, e2, e3, e4, e5, e6, e7⟩ := pen
            exact ⟨q0, ms, y1, y2, e1, e2, e3, e4, e5, by omega, e7⟩
          · exact ⟨hc, by omega, by omega, .inl (.inl hD), by omega, by omega, hz⟩
      rintro σ' H4 ⟨sa, ns, rfl, tn⟩
      -- due
      refine ⟨fun σ' H' => ∃ dv, σ' = [some (.ref a), some (.ref p), some (.int (0 + (t : Int))), some (.int c), some (.int wn), some (.int m), some (.ref sa), some dv, x8, x9, x10, x11, x12, x13, x14, x15, x16, x17, x18, x19] ∧ Tn K H' p sa (N + 8) c wn m ns ∧ Best K H' (FinB c wn (· ∈ ns) m) dv, ?_, ?_⟩
      · refine ⟨_, rfl, _, rfl, _, rfl, _, rfl, ?_⟩
        dsimp only [tNil, tCons, tCall]
        refine least_best tn.ag fun H5 v s5 hb => ?_
        exact ⟨v, rfl, tn.same s5, hb⟩
      rintro σ' H5 ⟨dv, rfl, tn, hbest⟩
      -- told
      refine ⟨fun σ' H' => ∃ tv, σ' = [some (.ref a), some (.ref p), some (.int (0 + (t : Int))), some (.int c), some (.int wn), some (.int m), some (.ref sa), some dv, some tv, x9, x10, x11, x12, x13, x14, x15, x16, x17, x18, x19] ∧ Tn K H' p sa (N + 8) c wn m ns ∧ Best K H' (FinB c wn (· ∈ ns) m) dv ∧ Told K H' CB CU (FinB c wn (· ∈ ns) m) tv, ?_, ?_⟩
      · refine ⟨_, rfl, _, rfl, _, rfl, _, rfl, ?_⟩
        dsimp only [tNil, tCons, tCall]
        refine bars_told tn.ag fun H6 v s6 hb => ?_
        exact ⟨v, rfl, tn.same s6, hbest.mono fun v x g => dp_same s6 g, hb⟩
      rintro σ' H6 ⟨tv, rfl, tn, hbest, htold⟩
      obtain ⟨tx, rfl, htold'⟩ := id htold
      have hdue := Due.of hbest htold
      clear hbest htold htold'
      have eq2 : ∀ z, z ∈ ns ++ ns ↔ z ∈ ns := fun z => by simp
      have hll : (ns.map V.int).length + (ns.map V.int).length ≤ sizeLine := by
        have := tn.l4
        rw [List.length_map, sizeLine_eq]
        omega
      -- told is due
      refine ⟨fun σ' H' => σ' = [some (.ref a), some (.ref p), some (.int (0 + (t : Int))), some (.int c), some (.int wn), some (.int m), some (.ref sa), some dv, some (.ref tx), x9, x10, x11, x12, x13, x14, x15, x16, x17, x18, x19] ∧ Tn K H' p sa (N + 8) c wn m ns ∧ Due K H' CB CU (FinB c wn (· ∈ ns) m) dv tx, ?_, ?_⟩
      · refine ⟨_, rfl, ?_⟩
        intro u du n1 n2 _
        refine mk_u n1 n2 fun H7 s7 hu => ⟨rfl, ?_⟩
        rcases hdue.same s7 with ⟨rfl, hno, hUB⟩ | ⟨r, hmin, hdp, hBD⟩
        · refine own_uu L hUB hu fun H8 s8 => ?_
          have tn8 := tn.same (s7.trans s8)
          refine ⟨_, rfl, rfl, rfl, _, rfl, iteF ?_⟩
          refine ⟨_, rfl, rfl, _, rfl, iteF (iteF ?_)⟩
          refine ⟨_, rfl, _, rfl, _, rfl, _, rfl, sa, sa, _, _, rfl, rfl, tn8.sz, tn8.sz, hll, fun q nq => ⟨_, rfl, rfl, ?_⟩⟩
          have sq := same_upd (o := .lst (ns.map V.int ++ ns.map V.int)) nq
          have ag2 : Arg K (upd H8 q (.lst (ns.map V.int ++ ns.map V.int))) c wn m q (ns ++ ns) := tn.ag.at (by rw [List.map_append]; exact upd_same) hm (by have := tn.ag.l1; rw [List.length_append]; omega) (by have := tn.l4; rw [List.length_append]; omega) fun n hn => tn.ag.z n ((eq2 n).mp hn)
          dsimp only [perm4, tNil, tCons, tCall]
          refine bars_told ag2 fun H9 v s9 hv => ?_
          obtain ⟨u2, rfl, hv⟩ := hv
          have hu2 : IsUB K H9 CU u2 := hv.elim (fun h => h.2) fun ⟨r, h, _⟩ => absurd ((FinB.congr eq2 r).mp h.1) (hno r)
          have s79 := (s8.trans sq).trans s9
          refine ⟨_, rfl, ?_⟩
          refine own_uu L hu2 (hUB.same s79) fun H10 s10 => ?_
          refine ⟨_, rfl, iteF ?_⟩
          exact ⟨rfl, tn.same (s7.trans (s79.trans s10)), .inl ⟨rfl, hno, hUB.same (s79.trans s10)⟩⟩
        · have hl6 : r.2.length ≤ 1000000 := by
            have := hmin.1.len
            omega
          obtain ⟨q, q2, xs, rfl, w1, w2, w3⟩ := dp_encR hdp
          refine own_bu L hBD hu fun H7' s7' => ?_
          refine ⟨_, rfl, rfl, rfl, _, rfl, iteF ?_⟩
          refine ⟨_, rfl, rfl, _, rfl, iteT ?_⟩
          refine ⟨_, rfl, _, rfl, q, _, 0, .int r.1, rfl, rfl, sqT_same s7' w1, rfl, _, rfl, q, _, 1, .ref q2, rfl, rfl, sqT_same s7' w1, rfl, ?_⟩
          intro u du n1 n2 _
          refine mk_b n1 n2 (dc := .int r.1) (db := encBs r.2) (.int _) (.tup (sqT_same s7' w2) (dpAll_same s7' w3)) (fits_two (fits_int _ _) (fits_encBs 1 hl6)) fun H8 s8 hb => ⟨rfl, ?_⟩
          rw [tupD_encBs] at hb
          have s78 := s7'.trans s8
          refine own_bb L hl6 (hBD.same s78) hb fun H8' s8' => ?_
          refine ⟨_, rfl, iteF ?_⟩
          have tn8 := tn.same (s7.trans (s78.trans s8'))
          refine ⟨_, rfl, _, rfl, _, rfl, _, rfl, sa, sa, _, _, rfl, rfl, tn8.sz, tn8.sz, hll, fun q nq => ⟨_, rfl, rfl, ?_⟩⟩
          have sq := same_upd (o := .lst (ns.map V.int ++ ns.map V.int)) nq
          have ag2 : Arg K (upd H8' q (.lst (ns.map V.int ++ ns.map V.int))) c wn m q (ns ++ ns) := tn.ag.at (by rw [List.map_append]; exact upd_same) hm (by have := tn.ag.l1; rw [List.length_append]; omega) (by have := tn.l4; rw [List.length_append]; omega) fun n hn => tn.ag.z n ((eq2 n).mp hn)
          dsimp only [perm4, tNil, tCons, tCall]
          refine bars_told ag2 fun H9 v s9 hv => ?_
          obtain ⟨u2, rfl, hv⟩ := hv
          have hu2 : IsBD K H9 CB u2 (.int r.1) (encBs r.2) := by
            rcases hv with ⟨h, _⟩ | ⟨r2, h, h2⟩
            · exact absurd ((FinB.congr eq2 r).mpr hmin.1) (h r)
            · rw [← (h.congr fun t => FinB.congr eq2 t).uniq hmin]
              exact h2
          have s79 := (s78.trans s8').trans (sq.trans s9)
          refine ⟨_, rfl, ?_⟩
          refine own_bb L hl6 hu2 (hBD.same s79) fun H10 s10 => ?_
          refine ⟨_, rfl, iteF ?_⟩
          exact ⟨rfl, tn.same (s7.trans (s79.trans s10)), .inr ⟨r, hmin, dp_same (s79.trans s10) (.tup w1 (.cons (.int _) (.cons (.tup w2 w3) .nil))), hBD.same (s79.trans s10)⟩⟩
      rintro σ' H7 ⟨rfl, tn, hdue⟩
      -- shows
      refine ⟨fun σ' H' => σ' = [some (.ref a), some (.ref p), some (.int (0 + (t : Int))), some (.int c), some (.int wn), some (.int m), some (.ref sa), some dv, some (.ref tx), x9, x10, x11, x12, x13, x14, x15, x16, x17, x18, x19] ∧ Tn K H' p sa (N + 8) c wn m ns ∧ Due K H' CB CU (FinB c wn (· ∈ ns) m) dv tx, ?_, ?_⟩
      · refine ⟨_, rfl, _, rfl, _, rfl, _, rfl, _, rfl, ?_⟩
        dsimp only [tNil, tCons, tCall]
        rcases hdue with ⟨rfl, hno, hUB⟩ | ⟨r, hmin, hdp, hBD⟩
        · refine shows_u tn.ag hUB (fun H8 s8 _ => ?_) fun H8 r s8 h => absurd h.1 (hno r)
          refine ⟨_, _, rfl, rfl, _, rfl, iteF ?_⟩
          refine ⟨_, rfl, _, rfl, _, rfl, _, rfl, ?_⟩
          intro u du n1 n2 _
          refine mk_u n1 n2 fun H9 s9 hu => ⟨rfl, ?_⟩
          dsimp only [tNil, tCons, tCall]
          refine shows_u (tn.same (s8.trans s9)).ag hu (fun H10 s10 _ => ?_) fun H8 r s8 h => absurd h.1 (hno r)
          refine ⟨_, rfl, rfl, rfl, _, rfl, iteF ?_⟩
          exact ⟨rfl, tn.same ((s8.trans s9).trans s10), .inl ⟨rfl, hno, hUB.same ((s8.trans s9).trans s10)⟩⟩
        · refine shows_b tn.ag hBD (tupOnly_encBs' r.2) (fun ds e => len_encBs e (by have := hmin.1.len; omega)) (fun H8 s8 h => absurd hmin.1 (h r)) fun H8 r2 s8 h => ?_
          have er := h.uniq hmin
          subst er
          rw [showB_best tn.z1 (by omega) hmin.1]
          refine ⟨_, _, rfl, rfl, _, rfl, iteF ?_⟩
          refine ⟨_, rfl, _, rfl, _, rfl, _, rfl, ?_⟩
          intro u du n1 n2 _
          refine mk_u n1 n2 fun H9 s9 hu => ⟨rfl, ?_⟩
          dsimp only [tNil, tCons, tCall]
          refine shows_u (tn.same (s8.trans s9)).ag hu (fun H10 s10 h => absurd hmin.1 (h _)) fun H10 r3 s10 _ => ?_
          obtain ⟨q, q2, xs, rfl, w1, w2, w3⟩ := dp_encR hdp
          refine ⟨_, rfl, rfl, rfl, _, rfl, iteF ?_⟩
          have s810 := (s8.trans s9).trans s10
          exact ⟨rfl, tn.same s810, .inr ⟨_, hmin, dp_same s810 (.tup w1 (.cons (.int _) (.cons (.tup w2 w3) .nil))), hBD.same s810⟩⟩
      rintro σ' H8 ⟨rfl, tn, hdue⟩
      -- whole
      refine ⟨fun σ' H' => ∃ wv, σ' = [some (.ref a), some (.ref p), some (.int (0 + (t : Int))), some (.int c), some (.int wn), some (.int m), some (.ref sa), some dv, some (.ref tx), some wv, x10, x11, x12, x13, x14, x15, x16, x17, x18, x19] ∧ Tn K H' p sa (N + 8) c wn m ns ∧ Due K H' CB CU (FinB c wn (· ∈ ns) m) dv tx ∧ Told K H' CB CU (FinB c wn (· ∈ ns) 12) wv, ?_, ?_⟩
      · refine ⟨_, rfl, _, rfl, _, rfl, ?_⟩
        dsimp only [tNil, tCons, tCall]
        refine bars_told (m := 12) (tn.ag.at tn.sz (by omega) tn.ag.l1 tn.ag.l2 tn.ag.z) fun H9 v s9 hv => ?_
        exact ⟨v, rfl, tn.same s9, hdue.same s9, hv⟩
      rintro σ' H9 ⟨wv, rfl, tn, hdue, hwv⟩
      -- more
      refine ⟨fun σ' H' => ∃ mv, σ' = [some (.ref a), some (.ref p), some (.int (0 + (t : Int))), some (.int c), some (.int wn), some (.int m), some (.ref sa), some dv, some (.ref tx), some wv, some mv, x11, x12, x13, x14, x15, x16, x17, x18, x19] ∧ Tn K H' p sa (N + 8) c wn m ns ∧ Due K H' CB CU (FinB c wn (· ∈ ns) m) dv tx ∧ Told K H' CB CU (FinB c wn (· ∈ ns) 12) wv ∧ Told K H' CB CU (FinB c wn (· ∈ ns ++ [1]) (if m + 1 < 12 then m + 1 else 12)) mv, ?_, ?_⟩
      · refine ⟨_, rfl, _, rfl, ?_⟩
        refine ⟨by rw [sizeLine_eq]; show 1 ≤ 16777216; omega, fun q1 nq1 => ?_⟩
        have sq1 := same_upd (o := .lst [.int 1]) nq1
        refine ⟨sa, q1, _, _, rfl, rfl, sq1 _ _ tn.sz, upd_same, by have := tn.l4; rw [List.length_map, sizeLine_eq]; show ns.length + 1 ≤ 16777216; omega, fun q nq => ?_⟩
        have sq2 := same_upd (o := .lst (ns.map V.int ++ [.int 1])) nq
        refine ⟨_, rfl, _, rfl, _, _, rfl, rfl, _, _, rfl, ?_⟩
        dsimp only [tNil, tCons, tCall]
        have ag2 : Arg K (upd (upd H9 q1 (.lst [.int 1])) q (.lst (ns.map V.int ++ [.int 1]))) c wn (if m + 1 < 12 then m + 1 else 12) q (ns ++ [1]) := tn.ag.at (by rw [List.map_append]; exact upd_same) (by split <;> omega) (by rw [List.length_append]; have := tn.ag.l1; omega) (by have := tn.l4; rw [List.length_append]; show ns.length + 1 ≤ 12; omega) fun n hn => by
          rcases List.mem_append.mp hn with hn | hn
          · exact tn.ag.z n hn
          · rw [List.mem_singleton] at hn
            omega
        refine bars_told ag2 fun H10 v s10 hv => ?_
        have s := (sq1.trans sq2).trans s10
        exact ⟨v, rfl, tn.same s, hdue.same s, hwv.same s, hv⟩
      rintro σ' H10 ⟨mv, rfl, tn, hdue, hwv, hmv⟩
      refine ⟨fun σ' H' => σ' = [some (.ref a), some (.ref p), some (.int (0 + (t : Int))), some (.int c), some (.int wn), some (.int m), some (.ref sa), some dv, some (.ref tx), some wv, some mv, x11, x12, x13, x14, x15, x16, x17, x18, x19] ∧ Tn K H' p sa (N + 8) c wn m ns ∧ Due K H' CB CU (FinB c wn (· ∈ ns) m) dv tx ∧ Told K H' CB CU (FinB c wn (· ∈ ns) 12) wv, ?_, ?_⟩
      · rcases hdue with ⟨rfl, hno, hUB⟩ | ⟨r, hmin, hdp, hBD⟩
        · exact ⟨_, rfl, rfl, _, rfl, iteF ⟨rfl, tn, .inl ⟨rfl, hno, hUB⟩, hwv⟩⟩
        · obtain ⟨wx, r1, rfl, le1, b1⟩ := hwv.some hmin.1 fun h => h.mono (fun _ z => z) hm.2
          obtain ⟨mx, r2, rfl, le2, b2⟩ := hmv.some hmin.1 fun h => h.mono (fun _ z => List.mem_append.mpr (.inl z)) (by split <;> omega)
          obtain ⟨q, q2, xs, rfl, w1, w2, w3⟩ := dp_encR hdp
          refine ⟨_, rfl, rfl, _, rfl, iteT ?_⟩
          obtain ⟨d1, v1, c1, y1, e1, f1, g1, h1⟩ := id b1
          obtain ⟨d2, v2, c2, y2, e2, f2, g2, h2⟩ := id b2
          cases g1
          cases g2
          refine ⟨_, rfl, wx, CB, _, _, rfl, e1, .inl ⟨L.bcB, _, rfl, true, rfl, iteF ?_⟩⟩
          refine ⟨_, rfl, wx, CB, _, _, _, rfl, e1, L.kb.pB.cl, L.kb.pB.c, rfl, _, rfl, q, _, 0, .int r.1, rfl, rfl, w1, rfl, _, _, rfl, rfl, _, rfl, iteC (fun h => absurd (of_decide_eq_true h) (by omega)) fun _ => ?_⟩
          refine ⟨_, rfl, mx, CB, _, _, rfl, e2, .inl ⟨L.bcB, _, rfl, true, rfl, iteF ?_⟩⟩
          refine ⟨_, rfl, mx, CB, _, _, _, rfl, e2, L.kb.pB.cl, L.kb.pB.c, rfl, _, rfl, q, _, 0, .int r.1, rfl, rfl, w1, rfl, _, _, rfl, rfl, _, rfl, iteC (fun h => absurd (of_decide_eq_true h) (by omega)) fun _ => ?_⟩
          exact ⟨rfl, tn, .inr ⟨_, hmin, hdp, hBD⟩, hwv⟩
      rintro σ' H11 ⟨rfl, tn, hdue, hwv⟩
      refine ⟨fun σ' H' => σ' = [some (.ref a), some (.ref p), some (.int (0 + (t : Int))), some (.int c), some (.int wn), some (.int m), some (.ref sa), some dv, some (.ref tx), some wv, some mv, x11, x12, x13, x14, x15, x16, x17, x18, x19] ∧ Tn K H' p sa (N + 8) c wn m ns ∧ ∃ r, IsMin (FinB c wn (· ∈ ns) m) r ∧ Dp K H' dv (encR r), ?_, ?_⟩
      · rcases hdue with ⟨rfl, hno, hUB⟩ | ⟨r, hmin, hdp, hBD⟩
        · refine ⟨_, rfl, rfl, _, rfl, iteT ?_⟩
          refine ⟨_, rfl, _, rfl, _, rfl, _, rfl, ?_⟩
          refine ⟨by rw [sizeLine_eq]; show 0 ≤ 16777216; omega, fun q nq => ?_⟩
          intro u du n1 n2 _
          have sq := same_upd (o := .tup []) nq
          refine mk_b n1 n2 (dc := .int 0) (db := .tuple []) (.int _) (.tup (.inl (.inl upd_same)) .nil) (fits_two (fits_int _ _) (by simp [fits])) fun H13 s13 hb => ⟨rfl, ?_⟩
          have hb2 : IsBD K H13 CB u (.int 0) (.tuple []) := by simpa [tupD, tupDs] using hb
          dsimp only [tNil, tCons, tCall]
          refine shows_b (tn.same (sq.trans s13)).ag hb2 (by simp [tupOnly, tupAll]) (fun ds e => by cases e; exact Nat.zero_le _) (fun H14 s14 _ => ?_) fun H14 r s14 h => absurd h.1 (hno r)
          refine ⟨_, _, rfl, rfl, _, rfl, iteF ?_⟩
          refine ⟨_, rfl, _, rfl, _, rfl, ?_⟩
          dsimp only [tNil, tCons, tCall, tC]
          have s3 := (sq.trans s13).trans s14
          have tn14 := tn.same s3
          refine least_best (m := 12) (tn14.ag.at tn14.sz (by omega) tn.ag.l1 tn.ag.l2 tn.ag.z) fun H15 v s15 hv => ?_
          have fin : PenAt H15 p (N + 8) := (tn14.same s15).pen
          rcases hv with ⟨rfl, _⟩ | ⟨r, h, hdr⟩
          · refine ⟨rfl, _, rfl, iteF (iteF ?_)⟩
            exact ⟨⟨_, _, _, _, _, _, _, _, _, _, _, _, _, _, _, _, _, _, rfl⟩, N + 8, fin, by omega⟩
          · obtain ⟨q, q2, xs, rfl, w1, w2, w3⟩ := dp_encR hdr
            refine ⟨rfl, _, rfl, iteT ?_⟩
            obtain ⟨wx, rfl, ⟨hn, _⟩ | ⟨r1, h1, b1⟩⟩ := hwv
            · exact absurd h.1 (hn r)
            · obtain ⟨d1, v1, c1, y1, e1, f1, g1, h1⟩ := b1.same (s3.trans s15)
              refine ⟨_, rfl, wx, CB, _, _, rfl, e1, .inl ⟨L.bcB, _, rfl, true, rfl, iteF ?_⟩⟩
              exact ⟨⟨_, _, _, _, _, _, _, _, _, _, _, _, _, _, _, _, _, _, rfl⟩, N + 8, fin, by omega⟩
        · obtain ⟨q, q2, xs, rfl, w1, w2, w3⟩ := dp_encR hdp
          exact ⟨_, rfl, rfl, _, rfl, iteF ⟨rfl, tn, r, hmin, hdp⟩⟩
      rintro σ' H12 ⟨rfl, tn, r, hmin, hdp⟩
      have hr12 : r.2.length ≤ 12 := by
        have := hmin.1.len
        omega
      have np0 : ∀ {H : Hp} {N}, PenAt H p N → H p ≠ none := fun h => by
        obtain ⟨_, _, _, _, e, _⟩ := h
        rw [e]
        exact fun z => by cases z
      -- blocks
      refine ⟨fun σ' H' => ∃ bl xs, σ' = [some (.ref a), some (.ref p), some (.int (0 + (t : Int))), some (.int c), some (.int wn), some (.int m), some (.ref sa), some dv, some (.ref tx), some wv, some mv, some (.ref bl), x12, x13, x14, x15, x16, x17, x18, x19] ∧ Tn K H' p sa (N + 8) c wn m ns ∧ Bk K H' p bl xs dv r, ?_, ?_⟩
      · obtain ⟨q, q2, xs, rfl, w1, w2, w3⟩ := dp_encR hdp
        refine ⟨_, rfl, q, _, 1, .ref q2, rfl, rfl, w1, rfl, q2, xs, rfl, .inr w2, fun l nl => ?_⟩
        have sl := same_upd (o := .lst xs) nl
        exact ⟨l, xs, rfl, tn.same sl, dp_same sl hdp, (LsD.new nl (np0 tn.pen) w3).1, upd_same, dpAll_same sl w3, by rw [dpAll_len w3, List.length_map]⟩
      rintro σ' H13 ⟨bl, xs, rfl, tn, bk⟩
      have bkl : (xs.length : Int) ≤ 12 := by have := bk.l; omega
      -- bent
      refine ⟨fun σ' H' => ∃ ba ls, σ' = [some (.ref a), some (.ref p), some (.int (0 + (t : Int))), some (.int c), some (.int wn), some (.int m), some (.ref sa), some dv, some (.ref tx), some wv, some mv, some (.ref bl), some (.ref ba), x13, x14, x15, x16, x17, x18, x19] ∧ Tn K H' p sa (N + 8) c wn m ns ∧ Bk K H' p bl xs dv r ∧ H' ba = some (.lst ls) ∧ ba ≠ p ∧ ls.length = 6 ∧ ∀ v ∈ ls, OneBent K H' p v, ?_, ?_⟩
      · refine ⟨_, rfl, _, rfl, _, rfl, sa, ns, rfl, tn.ag.s, by have := tn.ag.l1; omega, fun mz _ _ => ⟨by rw [sizeLine_eq]; show 2 ≤ 16777216; omega, fun t1 nt1 => ⟨by rw [sizeLine_eq]; show 1 ≤ 16777216; omega, fun l1 nl1 => ?_⟩⟩⟩
        have sA := same_upd (o := .tup [.int c, .int mz]) nt1
        have sB := same_upd (o := .lst [.ref t1]) nl1
        refine ⟨bl, l1, xs, [.ref t1], rfl, rfl, (sA.trans sB) _ _ bk.e, upd_same, by rw [sizeLine_eq]; show xs.length + 1 ≤ 16777216; omega, fun q1 nq1 => ?_⟩
        have dA := sB _ _ (upd_same (H := H13) (a := t1) (o := .tup [.int c, .int mz]))
        have d1 : DpAll K (upd (upd H13 t1 (.tup [.int c, .int mz])) l1 (.lst [.ref t1])) (xs ++ [.ref t1]) ((r.2 ++ [(c, mz)]).map encB) := by
          rw [List.map_append]
          exact dpAll_app (dpAll_same (sA.trans sB) bk.d) (.cons (.tup (.inl (.inl dA)) (.cons (.int _) (.cons (.int _) .nil))) .nil)
        have o1 := LsD.new (p := p) nq1 (np0 ((tn.same (sA.trans sB)).pen)) d1
        have s1 := (sA.trans sB).trans (same_upd (o := .lst (xs ++ [.ref t1])) nq1)
        generalize upd (upd (upd H13 t1 (.tup [.int c, .int mz])) l1 (.lst [.ref t1])) q1 (.lst (xs ++ [.ref t1])) = Ha at *
        have o1 : OneBent K Ha p (.ref q1) := ⟨_, _, rfl, o1, .inl ⟨_, rfl, by simp; omega⟩⟩
        have tna := tn.same s1
        have bka := bk.same s1
        -- the second
        refine ⟨_, rfl, _, rfl, bl, xs, rfl, .inl (.inl bka.e), fun q2 nq2 => ?_⟩
        obtain ⟨cs, hcs, lcs⟩ := dpAll_cut (some 1) none bka.d
        have o2 := LsD.new (p := p) nq2 (np0 tna.pen) hcs
        have s2 := same_upd (o := .lst (cutV xs (some 1) none)) nq2
        generalize upd Ha q2 (.lst (cutV xs (some 1) none)) = Hb at *
        have o2 : OneBent K Hb p (.ref q2) := ⟨_, _, rfl, o2, .inl ⟨_, rfl, by omega⟩⟩
        have tnb := tna.same s2
        have bkb := bka.same s2
        -- the third
        refine ⟨_, rfl, bl, xs, rfl, .inl (.inl bkb.e), fun q3 nq3 => ?_⟩
        have d3 : DpAll K Hb xs.reverse (r.2.reverse.map encB) := by
          rw [List.map_reverse]
          exact dpAll_rev bkb.d
        have o3 := LsD.new (p := p) nq3 (np0 tnb.pen) d3
        have s3 := same_upd (o := .lst xs.reverse) nq3
        generalize upd Hb q3 (.lst xs.reverse) = Hc at *
        have o3 : OneBent K Hc p (.ref q3) := ⟨_, _, rfl, o3, .inl ⟨_, rfl, by rw [List.length_reverse]; omega⟩⟩
        have tnc := tnb.same s3
        have bkc := bkb.same s3
        -- the fourth
        refine ⟨_, rfl, _, rfl, _, rfl, _, rfl, bl, xs, rfl, .inl (.inl bkc.e), fun q4 nq4 => ?_⟩
        obtain ⟨es, hes, les⟩ := dpAll_cut (some (-1)) none bkc.d
        have s4 := same_upd (o := .lst (cutV xs (some (-1)) none)) nq4
        have l4 := cutV_length xs (some (-1)) none
        refine ⟨bl, q4, xs, _, rfl, rfl, s4 _ _ bkc.e, upd_same, by rw [sizeLine_eq]; omega, fun q5 nq5 => ?_⟩
        have d5 : DpAll K (upd Hc q4 (.lst (cutV xs (some (-1)) none))) (xs ++ cutV xs (some (-1)) none) ((r.2 ++ es).map encB) := by
          rw [List.map_append]
          exact dpAll_app (dpAll_same s4 bkc.d) (dpAll_same s4 hes)
        have o5 := LsD.new (p := p) nq5 (np0 ((tnc.same s4).pen)) d5
        have s5 := s4.trans (same_upd (o := .lst (xs ++ cutV xs (some (-1)) none)) nq5)
        generalize upd (upd Hc q4 (.lst (cutV xs (some (-1)) none))) q5 (.lst (xs ++ cutV xs (some (-1)) none)) = Hd at *
        have o5 : OneBent K Hd p (.ref q5) := ⟨_, _, rfl, o5, .inl ⟨_, rfl, by rw [List.length_append]; omega⟩⟩
        have tnd := tnc.same s5
        have bkd := bkc.same s5
        refine ⟨_, rfl, bl, rfl, ⟨_, .inl (.inl bkd.e)⟩, fun D21 nD21 => ?_⟩
        refine lc_blk (fun b => encB (b.1 + 1, b.2)) (by omega) (.inl (.inl bkd.e)) nD21 bkd.d (fun b _ => by simp [encB, tupOnly, tupAll]) (fun x d H3 s3 hx hmem R S hR hS => ?_) (fun He ys s21 eD hys => ?_)
        · obtain ⟨b, hb, rfl⟩ := List.mem_map.mp hmem
          cases hx with
          | tup sx ax =>
            cases ax with
            | cons h1 ax =>
              cases ax with
              | cons h2 ax =>
                cases ax
                cases h1
                cases h2
                refine ⟨_, _, rfl, sx, rfl, _, _, rfl, _, _, rfl, rfl, wipe_two _ 17 16 _ _, ?_⟩
                dsimp only [tYes]
                rw [if_pos rfl]
                exact ⟨_, rfl, _, _, rfl, rfl, _, rfl, by rw [sizeLine_eq]; show 2 ≤ 16777216; omega, fun t1 nt1 => hR _ _ (same_upd nt1) rfl (.tup (.inl (.inl upd_same)) (.cons (.int _) (.cons (.int _) .nil)))⟩
        have oo21 : OneBent K He p (.ref D21) := ⟨D21, _, rfl, ⟨fun z => np0 tnd.pen (by rw [← z]; exact nD21), ys, eD, hys⟩, .good (G := fun b => (b.1 + 1, b.2)) (by omega)⟩
        have tn21 := tnd.same s21
        have bk21 := bkd.same s21
        refine ⟨_, rfl, bl, rfl, ⟨_, .inl (.inl bk21.e)⟩, fun D22 nD22 => ?_⟩
        refine lc_blk (fun b => encB (if b.1 - 1 > 0 then b.1 - 1 else 0, b.2)) (by omega) (.inl (.inl bk21.e)) nD22 bk21.d (fun b _ => by simp [encB, tupOnly, tupAll]) (fun x d H3 s3 hx hmem R S hR hS => ?_) (fun Hf ys s22 eD hys => ?_)
        · obtain ⟨b, hb, rfl⟩ := List.mem_map.mp hmem
          cases hx with
          | tup sx ax =>
            cases ax with
            | cons h1 ax =>
              cases ax with
              | cons h2 ax =>
                cases ax
                cases h1
                cases h2
                refine ⟨_, _, rfl, sx, rfl, _, _, rfl, _, _, rfl, rfl, wipe_two _ 17 16 _ _, ?_⟩
                dsimp only [tYes]
                rw [if_pos rfl]
                exact ⟨_, rfl, _, _, rfl, rfl, _, _, rfl, _, rfl, by rw [sizeLine_eq]; show 2 ≤ 16777216; omega, fun t1 nt1 => hR _ _ (same_upd nt1) rfl (.tup (.inl (.inl upd_same)) (.cons (.int _) (.cons (.int _) .nil)))⟩
        have oo22 : OneBent K Hf p (.ref D22) := ⟨D22, _, rfl, ⟨fun z => np0 tn21.pen (by rw [← z]; exact nD22), ys, eD, hys⟩, .good (G := fun b => (if b.1 - 1 > 0 then b.1 - 1 else 0, b.2)) (by omega)⟩
        have tn22 := tn21.same s22
        have bk22 := bk21.same s22
        refine ⟨by rw [sizeLine_eq]; show 6 ≤ 16777216; omega, fun ba nba => ?_⟩
        have sb := same_upd (o := .lst [.ref q1, .ref q2, .ref q3, .ref q5, .ref D21, .ref D22]) nba
        have s26 := (s21.trans s22).trans sb
        refine ⟨ba, _, rfl, tn22.same sb, bk22.same sb, upd_same, fun z => np0 tn22.pen (by rw [← z]; exact nba), rfl, fun v hv => ?_⟩
        simp only [List.mem_cons, List.not_mem_nil, or_false] at hv
        rcases hv with rfl | rfl | rfl | rfl | rfl | rfl
        · exact o1.same ((((s2.trans s3).trans s5)).trans s26)
        · exact o2.same ((s3.trans s5).trans s26)
        · exact o3.same (s5.trans s26)
        · exact o5.same s26
        · exact oo21.same (s22.trans sb)
        · exact oo22.same sb
      rintro σ' H14 ⟨ba, ls, rfl, tn, bk, hba, bap, lls, hls⟩
      -- more of them
      refine ⟨fun σ' H' => ∃ ba ls, σ' = [some (.ref a), some (.ref p), some (.int (0 + (t : Int))), some (.int c), some (.int wn), some (.int m), some (.ref sa), some dv, some (.ref tx), some wv, some mv, some (.ref bl), some (.ref ba), x13, x14, x15, x16, x17, x18, x19] ∧ Tn K H' p sa (N + 8) c wn m ns ∧ Bk K H' p bl xs dv r ∧ H' ba = some (.lst ls) ∧ ba ≠ p ∧ ls.length = 9 ∧ ∀ v ∈ ls, OneBent K H' p v, ?_, ?_⟩
      · refine ⟨_, rfl, ?_⟩
        refine ⟨_, rfl, bl, rfl, ⟨_, .inl (.inl bk.e)⟩, fun D31 nD31 => ?_⟩
        refine lc_blk (fun b => encB (b.1, 1 + b.2 % 3)) (by omega) (.inl (.inl bk.e)) nD31 bk.d (fun b _ => by simp [encB, tupOnly, tupAll]) (fun x d H3 s3 hx hmem R S hR hS => ?_) (fun He ys s31 eD hys => ?_)
        · obtain ⟨b, hb, rfl⟩ := List.mem_map.mp hmem
          cases hx with
          | tup sx ax =>
            cases ax with
            | cons h1 ax =>
              cases ax with
              | cons h2 ax =>
                cases ax
                cases h1
                cases h2
                refine ⟨_, _, rfl, sx, rfl, _, _, rfl, _, _, rfl, rfl, wipe_two _ 17 16 _ _, ?_⟩
                dsimp only [tYes]
                rw [if_pos rfl]
                exact ⟨_, rfl, _, rfl, _, _, rfl, rfl, (show (0 : Int) < 3 by decide), _, _, rfl, rfl, by rw [sizeLine_eq]; show 2 ≤ 16777216; omega, fun t1 nt1 => hR _ _ (same_upd nt1) rfl (.tup (.inl (.inl upd_same)) (.cons (.int _) (.cons (.int _) .nil)))⟩
        have oo31 : OneBent K He p (.ref D31) := ⟨D31, _, rfl, ⟨fun z => np0 tn.pen (by rw [← z]; exact nD31), ys, eD, hys⟩, .good (G := fun b => (b.1, 1 + b.2 % 3)) (by omega)⟩
        have tn31 := tn.same s31
        have bk31 := bk.same s31
        refine ⟨_, rfl, bl, rfl, ⟨_, .inl (.inl bk31.e)⟩, fun D32 nD32 => ?_⟩
        refine lc_blk (fun b => .tuple [.bool true, .int b.2]) (by omega) (.inl (.inl bk31.e)) nD32 bk31.d (fun b _ => by simp [encB, tupOnly, tupAll]) (fun x d H3 s3 hx hmem R S hR hS => ?_) (fun Hf ys s32 eD hys => ?_)
        · obtain ⟨b, hb, rfl⟩ := List.mem_map.mp hmem
          cases hx with
          | tup sx ax =>
            cases ax with
            | cons h1 ax =>
              cases ax with
              | cons h2 ax =>
                cases ax
                cases h1
                cases h2
                refine ⟨_, _, rfl, sx, rfl, _, _, rfl, _, _, rfl, rfl, wipe_two _ 17 16 _ _, ?_⟩
                dsimp only [tYes]
                rw [if_pos rfl]
                exact ⟨_, rfl, by rw [sizeLine_eq]; show 2 ≤ 16777216; omega, fun t1 nt1 => hR _ _ (same_upd nt1) rfl (.tup (.inl (.inl upd_same)) (.cons (.bl _) (.cons (.int _) .nil)))⟩
        have oo32 : OneBent K Hf p (.ref D32) := ⟨D32, _, rfl, ⟨fun z => np0 tn31.pen (by rw [← z]; exact nD32), ys, eD, hys⟩, .bad (fun b => .inl ⟨_, rfl⟩) (by omega)⟩
        have tn32 := tn31.same s32
        have bk32 := bk31.same s32
        refine ⟨_, rfl, bl, rfl, ⟨_, .inl (.inl bk32.e)⟩, fun D33 nD33 => ?_⟩
        refine lc_blk (fun b => .tuple [.int b.1]) (by omega) (.inl (.inl bk32.e)) nD33 bk32.d (fun b _ => by simp [encB, tupOnly, tupAll]) (fun x d H3 s3 hx hmem R S hR hS => ?_) (fun Hg ys s33 eD hys => ?_)
        · obtain ⟨b, hb, rfl⟩ := List.mem_map.mp hmem
          cases hx with
          | tup sx ax =>
            cases ax with
            | cons h1 ax =>
              cases ax with
              | cons h2 ax =>
                cases ax
                cases h1
                cases h2
                refine ⟨_, _, rfl, sx, rfl, _, _, rfl, _, _, rfl, rfl, wipe_two _ 17 16 _ _, ?_⟩
                dsimp only [tYes]
                rw [if_pos rfl]
                exact ⟨_, rfl, by rw [sizeLine_eq]; show 1 ≤ 16777216; omega, fun t1 nt1 => hR _ _ (same_upd nt1) rfl (.tup (.inl (.inl upd_same)) (.cons (.int _) .nil))⟩
        have oo33 : OneBent K Hg p (.ref D33) := ⟨D33, _, rfl, ⟨fun z => np0 tn32.pen (by rw [← z]; exact nD33), ys, eD, hys⟩, .bad (fun b => .inr ⟨_, rfl⟩) (by omega)⟩
        have tn33 := tn32.same s33
        have bk33 := bk32.same s33
        refine ⟨by rw [sizeLine_eq]; show 3 ≤ 16777216; omega, fun b3 nb3 => ?_⟩
        have sb := same_upd (o := .lst [.ref D31, .ref D32, .ref D33]) nb3
        have s34 := ((s31.trans s32).trans s33).trans sb
        refine ⟨ba, b3, ls, _, rfl, rfl, s34 _ _ hba, upd_same, by rw [sizeLine_eq, lls]; show 6 + 3 ≤ 16777216; omega, fun bb nbb => ?_⟩
        have sc := same_upd (o := .lst (ls ++ [.ref D31, .ref D32, .ref D33])) nbb
        have tnb := tn33.same sb
        refine ⟨bb, _, rfl, tnb.same sc, (bk33.same sb).same sc, upd_same, fun z => np0 tnb.pen (by rw [← z]; exact nbb), by rw [List.length_append, lls]; rfl, fun v hv => ?_⟩
        rcases List.mem_append.mp hv with hv | hv
        · exact (hls v hv).same (s34.trans sc)
        simp only [List.mem_cons, List.not_mem_nil, or_false] at hv
        rcases hv with rfl | rfl | rfl
        · exact oo31.same (((s32.trans s33).trans sb).trans sc)
        · exact oo32.same ((s33.trans sb).trans sc)
        · exact oo33.same (sb.trans sc)
      rintro σ' H15 ⟨ba, ls, rfl, tn, bk, hba, bap, lls, hls⟩
      -- other
      refine ⟨fun σ' H' => ∃ l ds, σ' = [some (.ref a), some (.ref p), some (.int (0 + (t : Int))), some (.int c), some (.int wn), some (.int m), some (.ref sa), some dv, some (.ref tx), some wv, some mv, some (.ref bl), some (.ref ba), some (.ref l), x14, x15, x16, x17, x18, x19] ∧ Tn K H' p sa (N + 9) c wn m ns ∧ Bk K H' p bl xs dv r ∧ LsD K H' p l ds ∧ KindD ds, ?_, ?_⟩
      · refine ⟨_, rfl, _, rfl, p, ba, N + 8, ls, rfl, tn.pen, by omega, hba, bap, by omega, by omega, fun H16 i v bt pen hv => ?_⟩
        obtain ⟨l, ds, rfl, hl, hk⟩ := hls v (List.mem_of_getElem? hv)
        have e9 : N + 8 + 1 = N + 9 := by omega
        rw [e9] at pen
        exact ⟨l, ds, rfl, tn.but bt pen, bk.but bt tn.pen pen, hl.but bt tn.pen pen hk.tup, hk⟩
      rintro σ' H16 ⟨l, ds, rfl, tn, bk, hls2, hk⟩
      clear hls hba bap lls
      -- is it right
      refine ⟨fun σ' H' => ∃ rb, σ' = [some (.ref a), some (.ref p), some (.int (0 + (t : Int))), some (.int c), some (.int wn), some (.int m), some (.ref sa), some dv, some (.ref tx), some wv, some mv, some (.ref bl), some (.ref ba), some (.ref l), some (.bl rb), x15, x16, x17, x18, x19] ∧ Tn K H' p sa (N + 9) c wn m ns ∧ Bk K H' p bl xs dv r ∧ LsD K H' p l ds ∧ ((∃ bs : List Blk, ds = bs.map encB ∧ rb = (isB c wn m ns bs && decide (tot bs = r.1))) ∨ ((∃ d es, ds = d :: es) ∧ (∀ d ∈ ds, badD d) ∧ rb = false)), ?_, ?_⟩
      · obtain ⟨lp, zs, el, hz⟩ := id hls2
        have hzl := dpAll_len hz
        refine ⟨_, rfl, l, rfl, ⟨_, .inl (.inl el)⟩, fun D nD => ?_⟩
        rcases hk with ⟨bs, rfl, hb40⟩ | ⟨⟨d0, es, rfl⟩, hb40, hbad⟩
        · refine lc_dpL (K := K) (ds := bs.map encB) (keep := fun _ => false) (F := id) (by rw [List.length_map]; omega) (.inl (.inl el)) nD hz (fun d _ h => by cases h) (fun x d H3 s3 hx hmem R S hR hS => ?_) (fun H17 ys s17 eD hys => ?_)
          · obtain ⟨b, hb, rfl⟩ := List.mem_map.mp hmem
            cases hx with
            | tup sx ax =>
              cases ax with
              | cons h1 ax =>
                cases ax with
                | cons h2 ax =>
                  cases ax
                  cases h1
                  cases h2
                  refine ⟨wipe_one _ 18 _, ?_⟩
                  refine ⟨_, rfl, _, _, rfl, .inr sx, rfl, _, rfl, iteF ?_⟩
                  exact ⟨_, rfl, _, _, 0, .int b.1, rfl, rfl, sx, rfl, .inl ⟨b.1, true, rfl, rfl, _, rfl, iteF (hS _ (Same.refl _) rfl)⟩⟩
          · have e0 : ys = [] := by
              rw [show (bs.map encB).filter (fun _ => false) = [] by simp] at hys
              cases hys
              rfl
            subst e0
            refine ⟨by rw [sizeLine_eq]; show 0 ≤ 16777216; omega, fun e1 ne1 => ?_⟩
            have se := same_upd (o := .lst []) ne1
            refine ⟨.list [], .list [], .lst (.inl (.inl (se _ _ eD))) .nil, .lst (.inl (.inl upd_same)) .nil, shaped_nil, shaped_nil, ?_⟩
            rw [eqv_nil]
            refine ⟨_, rfl, iteT ?_⟩
            have s18 := s17.trans se
            generalize upd H17 e1 (.lst []) = H18 at *
            have tn18 := tn.same s18
            have bk18 := bk.same s18
            have ls18 := hls2.same s18
            obtain ⟨_, zs2, el2, hz2⟩ := id ls18
            refine ⟨_, rfl, _, rfl, _, rfl, _, rfl, _, rfl, ?_⟩
            dsimp only [tNil, tCons, tCall]
            refine lis_b tn18.ag.s (.inl (.inl el2)) hz2 fun H19 s19 => ?_
            refine ⟨_, rfl, iteC (fun hb => ?_) (fun hb => ?_)⟩
            · have tn19 := tn18.same s19
              have bk19 := bk18.same s19
              have ls19 := ls18.same s19
              obtain ⟨_, zs3, el3, hz3⟩ := id ls19
              refine ⟨_, rfl, l, rfl, ⟨_, .inl (.inl el3)⟩, fun D2 nD2 => ?_⟩
              refine lc_blk (fun b => .int b.2) (by omega) (.inl (.inl el3)) nD2 hz3 (fun b _ => rfl) (fun x d H3 s3 hx hmem R S hR hS => ?_) (fun H20 ys s20 eD2 hys => ?_)
              · obtain ⟨b, hb, rfl⟩ := List.mem_map.mp hmem
                cases hx with
                | tup sx ax =>
                  cases ax with
                  | cons h1 ax =>
                    cases ax with
                    | cons h2 ax =>
                      cases ax
                      cases h1
                      cases h2
                      refine ⟨_, _, rfl, sx, rfl, _, _, rfl, _, _, rfl, rfl, wipe_two _ 17 16 _ _, ?_⟩
                      dsimp only [tYes]
                      rw [if_pos rfl]
                      exact ⟨_, rfl, hR _ _ (Same.refl _) rfl (.int _)⟩
              · have e2 : bs.map (fun b => PyData.int b.2) = (bs.map (·.2)).map PyData.int := by rw [List.map_map]; rfl
                rw [e2] at hys
                have ey := ints_of hys
                subst ey
                obtain ⟨q, q2, ws, rfl, w1, w2, w3⟩ := dp_encR ((bk19.same s20).dp)
                refine ⟨D2, _, rfl, .inl (.inl eD2), _, rfl, q, _, 0, .int r.1, rfl, rfl, w1, rfl, rfl, ?_⟩
                refine ⟨_, rfl, tn19.same s20, bk19.same s20, ls19.same s20, .inl ⟨bs, rfl, ?_⟩⟩
                rw [hb, Bool.true_and, dec_int, tot_sum]
                by_cases hh : tot bs = r.1 <;> simp [hh]
            · refine ⟨_, rfl, tn18.same s19, bk18.same s19, ls18.same s19, .inl ⟨bs, rfl, ?_⟩⟩
              rw [hb, Bool.false_and]
        · refine lc_dpL (K := K) (ds := d0 :: es) (keep := fun _ => true) (F := id) (by omega) (.inl (.inl el)) nD hz (fun d hd _ => ?_) (fun x d H3 s3 hx hmem R S hR hS => ?_) (fun H17 ys s17 eD hys => ?_)
          · rcases hbad d hd with ⟨z, rfl⟩ | ⟨z, rfl⟩ <;> simp [tupOnly, tupAll]
          · refine ⟨wipe_one _ 18 _, ?_⟩
            have hx' := hx
            rcases hbad d hmem with ⟨z, rfl⟩ | ⟨z, rfl⟩
            · cases hx with
              | tup sx ax =>
                cases ax with
                | cons h1 ax =>
                  cases ax with
                  | cons h2 ax =>
                    cases ax
                    cases h1
                    cases h2
                    refine ⟨_, rfl, _, _, rfl, .inr sx, rfl, _, rfl, iteF ?_⟩
                    exact ⟨_, rfl, _, _, 0, .bl true, rfl, rfl, sx, rfl, .inr ⟨true, true, rfl, rfl, _, rfl, iteT ⟨_, rfl, hR _ _ (Same.refl _) rfl hx'⟩⟩⟩
            · cases hx with
              | tup sx ax =>
                cases ax with
                | cons h1 ax =>
                  cases ax
                  cases h1
                  exact ⟨_, rfl, _, _, rfl, .inr sx, rfl, _, rfl, iteT (iteT ⟨_, rfl, hR _ _ (Same.refl _) rfl hx'⟩)⟩
          · rw [filter_tt, List.map_id] at hys
            refine ⟨by rw [sizeLine_eq]; show 0 ≤ 16777216; omega, fun e1 ne1 => ?_⟩
            have se := same_upd (o := .lst []) ne1
            refine ⟨.list (d0 :: es), .list [], .lst (.inl (.inl (se _ _ eD))) (dpAll_same se hys), .lst (.inl (.inl upd_same)) .nil, shaped_bad hbad, shaped_nil, ?_⟩
            rw [eqv_cons]
            have s18 := s17.trans se
            exact ⟨_, rfl, iteF ⟨_, rfl, tn.same s18, bk.same s18, hls2.same s18, .inr ⟨⟨_, _, rfl⟩, hbad, rfl⟩⟩⟩
      rintro σ' H17 ⟨rb, rfl, tn, bk, hls3, hrb⟩
      refine ⟨fun σ' H' => σ' = [some (.ref a), some (.ref p), some (.int (0 + (t : Int))), some (.int c), some (.int wn), some (.int m), some (.ref sa), some dv, some (.ref tx), some wv, some mv, some (.ref bl), some (.ref ba), some (.ref l), some (.bl rb), x15, x16, x17, x18, x19] ∧ Tn K H' p sa (N + 9) c wn m ns ∧ Bk K H' p bl xs dv r, ?_, ?_⟩
      · obtain ⟨q, q2, ws, rfl, w1, w2, w3⟩ := dp_encR bk.dp
        obtain ⟨_, zs, el, hz⟩ := id hls3
        refine ⟨_, rfl, _, rfl, _, rfl, _, rfl, _, rfl, q, _, 0, .int r.1, rfl, rfl, w1, rfl, _, rfl, ?_⟩
        intro u du n1 n2 _
        refine mk_b n1 n2 (dc := .int r.1) (db := .list ds) (.int _) (.lst (.inl (.inl el)) hz) (fits_two (fits_int _ _) (fits_kind 1 hk)) fun H18 s18 hb => ⟨rfl, ?_⟩
        rw [tupD_kind hk] at hb
        have hb2 : IsBD K H18 CB u (.int r.1) (.tuple ds) := by simpa [tupD] using hb
        have tn18 := tn.same s18
        dsimp only [tNil, tCons, tCall]
        refine shows_b tn18.ag hb2 (by rw [tupOnly]; exact hk.tup) (fun es e => by cases e; have := hk.len; omega) (fun H19 s19 h => absurd hmin.1 (h r)) fun H19 r2 s19 h => ?_
        have er := h.uniq hmin
        subst er
        have hsh : showB c wn m ns (.int r2.1) (.tuple ds) r2 = rb := by
          rcases hrb with ⟨bs, rfl, rfl⟩ | ⟨⟨d0, es, rfl⟩, hbad, rfl⟩
          · rw [show PyData.tuple (bs.map encB) = encBs bs from rfl, showB_enc tn.z1 (by omega), decide_eq_true rfl, Bool.true_and]
            rw [show decide (r2.1 = tot bs) = decide (tot bs = r2.1) from decide_eq_decide.mpr eq_comm]
          · unfold showB
            rw [areB_bad hbad, Bool.false_and]
        rw [hsh]
        refine ⟨_, rfl, by cases rb <;> rfl, _, rfl, ?_⟩
        have e0 : (!decide (V.bl rb = V.bl rb)) = false := by simp
        rw [e0]
        exact iteF ⟨rfl, tn18.same s19, (bk.same s18).same s19⟩
      rintro σ' H18 ⟨rfl, tn, bk⟩
      clear hrb hls3 hk
      -- seven that show nothing
      refine ⟨fun σ' H' => ∃ wl vs, σ' = [some (.ref a), some (.ref p), some (.int (0 + (t : Int))), some (.int c), some (.int wn), some (.int m), some (.ref sa), some dv, some (.ref tx), some wv, some mv, some (.ref bl), some (.ref ba), some (.ref l), some (.bl rb), some (.ref wl), x16, x17, x18, x19] ∧ Tn K H' p sa (N + 9) c wn m ns ∧ H' wl = some (.lst vs) ∧ vs.length = 7 ∧ ∀ v ∈ vs, Wr K H' CB CU c wn m ns r v, ?_, ?_⟩
      · have hbk : KindD (r.2.map encB) := .inl ⟨r.2, rfl, by omega⟩
        have fb := fits_kind 1 hbk
        have hl6 : ∀ ds, encBs r.2 = .tuple ds → ds.length ≤ 1000000 := fun ds e => len_encBs e (by omega)
        obtain ⟨q, q2, ws, rfl, w1, w2, w3⟩ := dp_encR bk.dp
        -- one cell more
        refine ⟨_, rfl, q, _, 0, .int r.1, rfl, rfl, sqT_same (Same.refl _) w1, rfl, _, _, rfl, rfl, _, rfl, ?_⟩
        intro u1 du1 n1 m1' _
        refine mk_b n1 m1' (dc := .int (r.1 + 1)) (db := .list (r.2.map encB)) (.int _) (.lst (.inl (.inl bk.e)) bk.d) (fits_two (fits_int _ _) fb) fun Ha sa1 hb => ⟨rfl, ?_⟩
        rw [tupD_kind hbk, tupD_int] at hb
        have b1 : Wr K Ha CB CU c wn m ns r (.ref u1) := .inl ⟨u1, .int (r.1 + 1), encBs r.2, rfl, hb, tupOnly_encBs' _, hl6, showB_less (by omega)⟩
        clear hb
        -- no blocks
        refine ⟨_, rfl, q, _, 0, .int r.1, rfl, rfl, sqT_same sa1 w1, rfl, ?_⟩
        intro u2 du2 n2 m2' _
        refine mk_b n2 m2' (dc := .int r.1) (db := .none) (.int _) .non (fits_two (fits_int _ _) (by simp [fits])) fun Hb sb1 hb => ⟨rfl, ?_⟩
        rw [tupD_int, tupD_non] at hb
        have b2 : Wr K Hb CB CU c wn m ns r (.ref u2) := .inl ⟨u2, .int r.1, .none, rfl, hb, rfl, (fun ds e => by cases e), (by unfold showB; rw [areB_other rfl, Bool.false_and])⟩
        clear hb
        have s2 := sa1.trans sb1
        have bkb := bk.same s2
        -- no cells
        refine ⟨_, rfl, ?_⟩
        intro u3 du3 n3 m3' _
        refine mk_b n3 m3' (dc := .none) (db := .list (r.2.map encB)) .non (.lst (.inl (.inl bkb.e)) bkb.d) (fits_two (by simp [fits]) fb) fun Hc sc1 hb => ⟨rfl, ?_⟩
        rw [tupD_kind hbk, tupD_non] at hb
        have b3 : Wr K Hc CB CU c wn m ns r (.ref u3) := .inl ⟨u3, .none, encBs r.2, rfl, hb, tupOnly_encBs' _, hl6, showB_none⟩
        clear hb
        have s3 := s2.trans sc1
        have bkc := bk.same s3
        -- a list, None, a paper
        refine ⟨_, rfl, _, rfl, q, _, 0, .int r.1, rfl, rfl, sqT_same s3 w1, rfl, _, rfl, ?_⟩
        intro u6 du6 n6 m6' _
        have s6a := same_fresh (o := .ins CP du6 []) (u := .own u6) n6 m6'
        refine ⟨u6, CP, du6, "bars", [.int r.1, .ref bl], [.int r.1, .list (r.2.map encB)], rfl, upd_same, L.pP.cl, L.pP.w, L.pP.p, by rw [sizeLine_eq]; show 2 ≤ 16777216; omega, .cons (.int _) (.cons (.lst (.inl (.inl (s6a _ _ bkc.e))) (dpAll_same s6a bkc.d)) .nil), fits_two (fits_int _ _) fb, fun Hd pv6 bt6 e6 _ => ⟨rfl, ?_⟩⟩
        have sd1 := same_make n6 m6' bt6
        have b6 : Wr K Hd CB CU c wn m ns r (.ref u6) := .inr ⟨.ref CP, L.oP.ty e6, L.kPU, L.kPB⟩
        have s4 := s3.trans sd1
        have bkd := bk.same s4
        -- triples
        refine ⟨_, rfl, q, _, 0, .int r.1, rfl, rfl, sqT_same s4 w1, rfl, _, rfl, bl, rfl, ⟨_, .inl (.inl bkd.e)⟩, fun D7 nD7 => ?_⟩
        refine lc_blk (fun b => .tuple [.int b.1, .int b.2, .int 0]) (by omega) (.inl (.inl bkd.e)) nD7 bkd.d (fun b _ => by simp [tupOnly, tupAll]) (fun x d H3 s3 hx hmem R S hR hS => ?_) (fun He ys s7 eD hys => ?_)
        · obtain ⟨b, hb, rfl⟩ := List.mem_map.mp hmem
          cases hx with
          | tup sx ax =>
            cases ax with
            | cons h1 ax =>
              cases ax with
              | cons h2 ax =>
                cases ax
                cases h1
                cases h2
                refine ⟨_, _, rfl, sx, rfl, _, _, rfl, _, _, rfl, rfl, wipe_two _ 17 16 _ _, ?_⟩
                dsimp only [tYes]
                rw [if_pos rfl]
                exact ⟨_, rfl, _, rfl, by rw [sizeLine_eq]; show 3 ≤ 16777216; omega, fun t1 nt1 => hR _ _ (same_upd nt1) rfl (.tup (.inl (.inl upd_same)) (.cons (.int _) (.cons (.int _) (.cons (.int _) .nil))))⟩
        refine ⟨by rw [sizeLine_eq]; show 1 ≤ 16777216; omega, fun f1 nf1 => ?_⟩
        have sf := same_upd (o := .lst [.int 5]) nf1
        refine ⟨D7, f1, ys, _, rfl, rfl, sf _ _ eD, upd_same, ?_, fun f2 nf2 => ?_⟩
        · have := dpAll_len hys
          rw [List.length_map] at this
          rw [this, sizeLine_eq]
          show r.2.length + 1 ≤ 16777216
          omega
        have sg := same_upd (o := .lst (ys ++ [.int 5])) nf2
        have sfg := sf.trans sg
        have d7 : DpAll K (upd (upd He f1 (.lst [.int 5])) f2 (.lst (ys ++ [.int 5]))) (ys ++ [.int 5]) ((r.2.map fun b => PyData.tuple [.int b.1, .int b.2, .int 0]) ++ [.int 5]) := dpAll_app (dpAll_same sfg hys) (.cons (.int _) .nil)
        intro u7 du7 n7 m7' _
        refine mk_b n7 m7' (dc := .int r.1) (db := .list ((r.2.map fun b => PyData.tuple [.int b.1, .int b.2, .int 0]) ++ [.int 5])) (.int _) (.lst (.inl (.inl upd_same)) d7) (fits_two (fits_int _ _) ?_) fun Hf s7b hb => ⟨rfl, ?_⟩
        · rw [fits]
          refine ⟨by rw [List.length_append, List.length_map]; show r.2.length + 1 ≤ 1000000; omega, fun d hd => ?_⟩
          rcases List.mem_append.mp hd with hd | hd
          · obtain ⟨b, _, rfl⟩ := List.mem_map.mp hd
            simp [fits]
          · rw [List.mem_singleton] at hd
            rw [hd]
            simp [fits]
        have e7 : tupD (.list ((r.2.map fun b => PyData.tuple [.int b.1, .int b.2, .int 0]) ++ [.int 5])) = .tuple ((r.2.map fun b => PyData.tuple [.int b.1, .int b.2, .int 0]) ++ [.int 5]) := by
          rw [tupD, tupDs_map, List.map_append, List.map_map]
          refine congrArg PyData.tuple ?_
          have e1 : ∀ b : Blk, (tupD ∘ fun b : Blk => PyData.tuple [.int b.1, .int b.2, .int 0]) b = .tuple [.int b.1, .int b.2, .int 0] := fun b => by simp [tupD, tupDs]
          rw [List.map_congr_left fun b _ => e1 b]
          simp [tupD]
        rw [e7, tupD_int] at hb
        have b7 : Wr K Hf CB CU c wn m ns r (.ref u7) := .inl ⟨u7, .int r.1, _, rfl, hb, (by
          rw [tupOnly]
          refine tupAll_of fun d hd => ?_
          rcases List.mem_append.mp hd with hd | hd
          · obtain ⟨b, _, rfl⟩ := List.mem_map.mp hd
            simp [tupOnly, tupAll]
          · rw [List.mem_singleton] at hd
            rw [hd]
            rfl), (fun ds e => by
          cases e
          rw [List.length_append, List.length_map]
          show r.2.length + 1 ≤ 1000000
          omega), (by unfold showB; rw [areB_five, Bool.false_and])⟩
        refine ⟨by rw [sizeLine_eq]; show 7 ≤ 16777216; omega, fun wl nwl => ?_⟩
        have sw := same_upd (o := .lst [.ref u1, .ref u2, .ref u3, .ref bl, .non, .ref u6, .ref u7]) nwl
        have t7 := ((s7.trans sfg).trans s7b).trans sw
        have tw := s4.trans t7
        refine ⟨wl, _, rfl, tn.same tw, upd_same, rfl, fun v hv => ?_⟩
        simp only [List.mem_cons, List.not_mem_nil, or_false] at hv
        rcases hv with rfl | rfl | rfl | rfl | rfl | rfl | rfl
        · exact b1.same ((sb1.trans sc1).trans (sd1.trans t7))
        · exact b2.same (sc1.trans (sd1.trans t7))
        · exact b3.same (sd1.trans t7)
        · exact .inr ⟨.type "list", .base (.lst (tw _ _ bk.e)), L.kLU, L.kLB⟩
        · exact .inr ⟨.type "NoneType", .base .non, L.kNU, L.kNB⟩
        · exact b6.same t7
        · exact b7.same sw
      rintro σ' H19 ⟨wl, vs, rfl, tn, hwl, lvs, hvs⟩
      refine ⟨_, rfl, wl, rfl, ⟨_, .inl (.inl hwl)⟩, fun D nD => ?_⟩
      refine lc_list (K := K) (a := wl) (xs := vs) (fun _ H' => Same H19 H' ∧ H' D = some (.lst [])) ⟨same_upd nD, upd_same⟩ (fun i H' _ q => .inl (.inl (q.1 _ _ hwl))) (fun i x H' hx q => ?_) (fun H' q => ?_)
      · refine ⟨wipe_one _ 19 _, ?_⟩
        refine ⟨_, rfl, _, rfl, _, rfl, _, rfl, _, rfl, ?_⟩
        dsimp only [tNil, tCons, tCall]
        refine shows_wr (tn.same q.1).ag hmin ((hvs x (List.mem_of_getElem? hx)).same q.1) fun H'' s'' => ?_
        exact ⟨_, _, rfl, rfl, _, rfl, iteF ⟨q.1.trans s'', s'' _ _ q.2⟩⟩
      · refine ⟨by rw [sizeLine_eq]; show 0 ≤ 16777216; omega, fun e1 ne1 => ?_⟩
        have se := same_upd (o := .lst []) ne1
        refine ⟨.list [], .list [], .lst (.inl (.inl (se _ _ q.2))) .nil, .lst (.inl (.inl upd_same)) .nil, shaped_nil, shaped_nil, ?_⟩
        rw [eqv_nil]
        refine ⟨_, rfl, iteF ?_⟩
        exact ⟨⟨_, _, _, _, _, _, _, _, _, _, _, _, _, _, _, _, _, _, rfl⟩, N + 9, (tn.same (q.1.trans se)).pen, by omega⟩
    · obtain ⟨⟨x2, x3, x4, x5, x6, x7, x8, x9, x10, x11, x12, x13, x14, x15, x16, x17, x18, x19, rfl⟩, N, hp2, hN⟩ := q
      clear hp2 hN
      have hmin0 : ∀ r, FinB 4 3 (· ∈ [3]) 12 r → r.1 = 3 := fun r h => min4 h
      have z3 : ∀ n ∈ ([3] : List Int), 1 ≤ n ∧ n ≤ 3 := fun n hn => by simp at hn; omega
      refine ⟨by rw [sizeLine_eq]; show 1 ≤ 16777216; omega, fun a1 na1 => ?_⟩
      refine ⟨by rw [sizeLine_eq]; show 2 ≤ 16777216; omega, fun t1 nt1 => ⟨by rw [sizeLine_eq]; show 1 ≤ 16777216; omega, fun l1 nl1 => ?_⟩⟩
      intro u du n1 n2 _
      have sa := same_upd (o := .lst [.int 3]) na1
      have st := same_upd (o := .tup [.int 2, .int 3]) nt1
      have sl := same_upd (o := .lst [.ref t1]) nl1
      refine mk_b n1 n2 (dc := .int 3) (db := .list ([((2 : Int), (3 : Int))].map encB)) (.int _) (.lst (.inl (.inl upd_same)) (.cons (.tup (.inl (.inl (sl _ _ upd_same))) (.cons (.int _) (.cons (.int _) .nil))) .nil)) (fits_two (fits_int _ _) (fits_kind 1 (.inl ⟨_, rfl, by decide⟩))) fun Ha s1 hb => ⟨rfl, ?_⟩
      rw [tupD_kind (.inl ⟨_, rfl, by decide⟩), tupD_int] at hb
      have ag : Arg K Ha 4 3 12 a1 [3] := ⟨by omega, by omega, by omega, .inl (.inl (s1 _ _ (sl _ _ (st _ _ upd_same)))), by decide, by decide, z3⟩
      dsimp only [tNil, tCons, tCall, tC, tLst]
      refine shows_b ag hb (tupOnly_encBs' _) (fun ds e => by cases e; decide) (fun H' s h => absurd fin4 (h _)) fun Hb r s2 h => ?_
      have e1 : showB 4 3 12 [3] (.int 3) (encBs [(2, 3)]) r = false := by
        rw [showB_enc (fun z hz => (z3 z hz).1) (by omega), show isB 4 3 12 [3] [(2, 3)] = false from by decide, Bool.false_and]
      rw [show showB 4 3 12 [3] (.int 3) (.tuple ([((2 : Int), (3 : Int))].map encB)) r = false from e1]
      refine ⟨_, _, rfl, rfl, _, rfl, iteT ?_⟩
      refine ⟨by rw [sizeLine_eq]; show 1 ≤ 16777216; omega, fun a2 na2 => ?_⟩
      refine ⟨by rw [sizeLine_eq]; show 2 ≤ 16777216; omega, fun t2 nt2 => ⟨by rw [sizeLine_eq]; show 1 ≤ 16777216; omega, fun l2 nl2 => ?_⟩⟩
      intro v dv n3 n4 _
      have sa2 := same_upd (o := .lst [.int 3]) na2
      have st2 := same_upd (o := .tup [.int 1, .int 3]) nt2
      have sl2 := same_upd (o := .lst [.ref t2]) nl2
      refine mk_b n3 n4 (dc := .int 3) (db := .list ([((1 : Int), (3 : Int))].map encB)) (.int _) (.lst (.inl (.inl upd_same)) (.cons (.tup (.inl (.inl (sl2 _ _ upd_same))) (.cons (.int _) (.cons (.int _) .nil))) .nil)) (fits_two (fits_int _ _) (fits_kind 1 (.inl ⟨_, rfl, by decide⟩))) fun Hc s3 hb2 => ⟨rfl, ?_⟩
      rw [tupD_kind (.inl ⟨_, rfl, by decide⟩), tupD_int] at hb2
      have ag2 : Arg K Hc 4 3 12 a2 [3] := ⟨by omega, by omega, by omega, .inl (.inl (s3 _ _ (sl2 _ _ (st2 _ _ upd_same)))), by decide, by decide, z3⟩
      dsimp only [tNil, tCons, tCall, tC, tLst]
      refine shows_b ag2 hb2 (tupOnly_encBs' _) (fun ds e => by cases e; decide) (fun H' s h => absurd fin4 (h _)) fun Hd r2 s4 h2 => ?_
      have er := hmin0 r2 h2.1
      have e2 : showB 4 3 12 [3] (.int 3) (encBs [(1, 3)]) r2 = true := by
        rw [showB_enc (fun z hz => (z3 z hz).1) (by omega), show isB 4 3 12 [3] [(1, 3)] = true from by decide, er]
        rfl
      rw [show showB 4 3 12 [3] (.int 3) (.tuple ([((1 : Int), (3 : Int))].map encB)) r2 = true from e2]
      exact ⟨_, _, rfl, rfl, hq _⟩

end
end K23
namespace KSup
open PySem PySem.Spec PyProof.Rows L2 He
/-! ### the Hook with tests of one's own -/
abbrev AlX : Type := AlU × Bool
def obsX (file : Str) (fa : List Fa) (fn : List DefD) (su : List SupDef) (ex : PySem.W.Frag → Bool) (K : PySem.W.Frag) : AlX := (obsU file fa fn su K, ex K)
def valX (fn : List DefD) (su : List SupDef) : AlX := (valU fn su, true)
def obsXG (n : Nat) (file : Str) (fa : List Fa) (fn : List DefD) (su : List SupDef) (ex : PySem.W.Frag → Bool) (g : Addr → Option Obj) : AlX := obsX file fa fn su ex (frG g (asU g n))
def SaysX (file : Str) (fa : List Fa) (fn : List DefD) (su : List SupDef) (ex : PySem.W.Frag → Bool) (K : PySem.W.Frag) : Prop := obsX file fa fn su ex K = valX fn su
def hookX (n : Nat) (file : Str) (fa : List Fa) (fn : List DefD) (su : List SupDef) (ex : PySem.W.Frag → Bool) : PySem.W.Hook where
  α := AlX
  obs := fun s => obsXG n file fa fn su ex s.heap.get?
  val := fun _ => valX fn su
  says := fun _ h => ∃ K : PySem.W.Frag, K.In h ∧ SaysX file fa fn su ex K
  of := fun _ _ e => ⟨_, frG_in, e⟩
  keeps := fun _ _ _ ⟨K, hK, c⟩ k => ⟨K, PySem.W.Frag.In.keeps hK k, c⟩
theorem obsXG_eq {n : Nat} {file : Str} {fa : List Fa} {fn : List DefD} {su : List SupDef} {ex : PySem.W.Frag → Bool} {g : Addr → Option Obj} {s : Shared} (h : ∀ a, g a = s.heap.get? a) : obsXG n file fa fn su ex g = (hookX n file fa fn su ex).obs s := by
  have e : g = s.heap.get? := funext h
  rw [e] <;> rfl
section
variable {file : Str} {fa : List Fa} {fn : List DefD} {su : List SupDef} {ex : PySem.W.Frag → Bool} {K : PySem.W.Frag}
theorem SaysX.u (c : SaysX file fa fn su ex K) : SaysU file fa fn su K := congrArg (fun z : AlX => z.1) c
theorem SaysX.x (c : SaysX file fa fn su ex K) : ex K = true := congrArg (fun z : AlX => z.2) c
end
theorem ex_at {l : List Bool} (h : l.all id = true) (i : Nat) {b : Bool} (e : l[i]? = some b) : b = true := List.all_eq_true.mp h b (List.mem_of_getElem? e)
end KSup
set_option maxHeartbeats 0
namespace K23
open PySem PySem.Spec PyProof.Rows L2
/-! ### the head -/
def dG (i : Nat) (x : Str) : He.DefD := ⟨(x, none), x, x, defArgs (topS i), defBody (topS i), defScope (topS i), [], []⟩
def dGd (i : Nat) (x : Str) (dv : List He.Dv) : He.DefD := ⟨(x, none), x, x, defArgs (topS i), defBody (topS i), defScope (topS i), dv, []⟩
def dM (i j : Nat) (c x q : Str) : He.DefD := ⟨(c, some x), x, q, defArgs (inClass (topS i) j), defBody (inClass (topS i) j), defScope (inClass (topS i) j), [], []⟩
def fnL : List He.DefD := [dG 1 "is_integer", dG 2 "is_within", dG 3 "is_listed", dG 4 "is_plain_tuple", dG 10 "fixed", dG 11 "are_like", dG 20 "longer", dG 21 "least_bars", dG 22 "are_bars", dG 23 "need_sizes", dG 24 "need_bars", dGd 25 "bars" [.int 12],
  dG 26 "shows_bars", dG 28 "_law_pen", dG 29 "_law_draw", dG 30 "_law_pick", dG 31 "_law_least_bars", dG 32 "_law_is_bars", dG 33 "law", dM 12 0 "Paper" "__init__" "Paper.__init__", dM 12 1 "Paper" "__bool__" "Paper.__bool__", dM 12 2 "Paper" "__eq__" "Paper.__eq__", dM 13 0 "Denial" "__bool__" "Denial.__bool__"]
def faL : List He.Fa := [.glo "is_integer", .glo "is_within", .glo "is_listed", .glo "is_plain_tuple", .glo "fixed", .glo "are_like", .glo "longer", .glo "least_bars", .glo "are_bars", .glo "need_sizes", .glo "need_bars", .glo "bars", .glo "shows_bars",
  .glo "_law_pen", .glo "_law_draw", .glo "_law_pick", .glo "_law_least_bars", .glo "_law_is_bars", .glo "law", .glo "Paper", .glo "Denial", .glo "Bars", .glo "Unbarred",
  .cls "Paper", .cls "Denial", .cls "Bars", .cls "Unbarred", .mkr "Bars", .mkr "Unbarred", .mkr "Paper",
  .int "MOST_CELLS" 12, .int "MOST_SIZE" 3, .int "MOST_BLOCKS" 12,
  .noat "Bars" "word", .noat "Bars" "parts", .noat "Bars" "cells", .noat "Bars" "blocks", .noat "Unbarred" "word", .noat "Unbarred" "parts", .noat "Unbarred" "cells", .noat "Unbarred" "blocks", .noat "Paper" "word", .noat "Paper" "parts", .noat "Paper" "cells", .noat "Paper" "blocks",
  .free "isinstance", .free "int", .free "bool", .free "list", .free "tuple", .free "dict", .free "len", .free "min", .free "max", .free "sum", .free "all", .free "sorted", .free "range", .free "abs", .free "zip", .free "super"]
abbrev RowR : PySem.W.OpenRow := PySem.W.OpenLaw.row PySem.Challenge.rw_nevergone_k23_whole_bars_of_up_to_twelve
def dSup (i : Nat) (c q : Str) : KSup.SupDef := ⟨c, q, defArgs (inClass (topS i) 0), defBody (inClass (topS i) 0), defScope (inClass (topS i) 0), ("Paper", some "__init__")⟩
def suL : List KSup.SupDef := [dSup 18 "Bars" "Bars.__init__", dSup 19 "Unbarred" "Unbarred.__init__"]
def cfB (C : Addr) : Option PySem.W.CFound → Bool
  | some (.get (.builtin a) (.builtin b) c d) => decide (a = "getset_descriptor.__get__") && (decide (b = "type.__name__") && (decide (c = .ref C) && decide (d = .type "type")))
  | _ => false
theorem cfB_ok {C : Addr} {o : Option PySem.W.CFound} (h : cfB C o = true) : o = some (.get (.builtin "getset_descriptor.__get__") (.builtin "type.__name__") (.ref C) (.type "type")) := by
  unfold cfB at h
  split at h
  · rw [Bool.and_eq_true, Bool.and_eq_true, Bool.and_eq_true, decide_eq_true_iff, decide_eq_true_iff, decide_eq_true_iff, decide_eq_true_iff] at h
    obtain ⟨rfl, rfl, rfl, rfl⟩ := h
    rfl
  · cases h
def nmB (y : Str) : Option Value → Bool
  | some (.str x _) => decide (x = y)
  | _ => false
theorem nmB_ok {y : Str} {o : Option Value} (h : nmB y o = true) : ∃ t, o = some (.str y t) := by
  unfold nmB at h
  split at h
  · rw [decide_eq_true_iff] at h
    subst h
    exact ⟨_, rfl⟩
  · cases h
def exL (K : PySem.W.Frag) : List Bool :=
  [He.eqO (PySem.W.findIn K (.ref (He.ga K "Bars")) "__eq__") (some (some (.ref (He.fAd K ("Paper", some "__eq__"))))),
   He.eqO (PySem.W.findIn K (.ref (He.ga K "Unbarred")) "__eq__") (some (some (.ref (He.fAd K ("Paper", some "__eq__"))))),
   He.eqO (PySem.W.findIn K (.ref (He.ga K "Bars")) "__ne__") (some (some (.builtin "object.__ne__"))),
   He.eqO (PySem.W.findIn K (.ref (He.ga K "Unbarred")) "__ne__") (some (some (.builtin "object.__ne__"))),
   PySem.W.isFn K (.ref (He.fAd K ("Paper", some "__eq__"))),
   decide (PySem.W.mroIn K (He.ga K "Bars") (.type "object") = some true),
   decide (PySem.W.mroIn K (He.ga K "Unbarred") (.type "object") = some true),
   decide (PySem.W.mroIn K (He.ga K "Paper") (.type "object") = some true),
   He.eqO (PySem.W.findIn K (.ref (He.ga K "Bars")) "__bool__") (some (some (.ref (He.fAd K ("Paper", some "__bool__"))))),
   He.eqO (PySem.W.findIn K (.ref (He.ga K "Unbarred")) "__bool__") (some (some (.ref (He.fAd K ("Denial", some "__bool__"))))),
   PySem.W.isFn K (.ref (He.fAd K ("Paper", some "__bool__"))),
   PySem.W.isFn K (.ref (He.fAd K ("Denial", some "__bool__"))),
   He.eqO (PySem.W.findIn K (.ref (He.ga K "Bars")) "__class__") (some (some (.builtin "object.__class__"))),
   He.eqO (PySem.W.findIn K (.ref (He.ga K "Unbarred")) "__class__") (some (some (.builtin "object.__class__"))),
   He.eqO (PySem.W.findIn K (.ref (He.ga K "Paper")) "__class__") (some (some (.builtin "object.__class__"))),
   He.eqO (PySem.W.specialIn K (.builtin "object.__class__") "__get__") (some (some (.builtin "getset_descriptor.__get__"))),
   decide (PySem.W.takesIn K (.builtin "object.__class__") = some true),
   He.eqO (PySem.W.nsIn K cStatics "thirdparty.any") (some none),
   cfB (He.ga K "Bars") (PySem.W.findCls K (.ref (He.ga K "Bars")) (.type "type") "__name__"),
   cfB (He.ga K "Unbarred") (PySem.W.findCls K (.ref (He.ga K "Unbarred")) (.type "type") "__name__"),
   nmB "Bars" (KSup.nameIn K (He.ga K "Bars")),
   nmB "Unbarred" (KSup.nameIn K (He.ga K "Unbarred")),
   PySem.W.notFirst K (He.ga K "Bars") (.ref (He.ga K "Bars")),
   PySem.W.notFirst K (He.ga K "Unbarred") (.ref (He.ga K "Bars")),
   PySem.W.notFirst K (He.ga K "Bars") (.ref (He.ga K "Unbarred")),
   PySem.W.notFirst K (He.ga K "Unbarred") (.ref (He.ga K "Unbarred")),
   decide (PySem.W.kitOne K (.ref (He.ga K "Unbarred")) (.ref (He.ga K "Unbarred")) = some true),
   decide (PySem.W.kitOne K (.ref (He.ga K "Bars")) (.ref (He.ga K "Unbarred")) = some false),
   decide (PySem.W.kitOne K (.ref (He.ga K "Bars")) (.ref (He.ga K "Bars")) = some true),
   decide (PySem.W.kitOne K (.ref (He.ga K "Paper")) (.ref (He.ga K "Unbarred")) = some false),
   decide (PySem.W.kitOne K (.ref (He.ga K "Paper")) (.ref (He.ga K "Bars")) = some false),
   decide (PySem.W.kitOne K (.type "list") (.ref (He.ga K "Unbarred")) = some false),
   decide (PySem.W.kitOne K (.type "list") (.ref (He.ga K "Bars")) = some false),
   decide (PySem.W.kitOne K (.type "NoneType") (.ref (He.ga K "Unbarred")) = some false),
   decide (PySem.W.kitOne K (.type "NoneType") (.ref (He.ga K "Bars")) = some false),
   decide (PySem.W.kitOne K (.ref (He.ga K "Bars")) (.ref (He.ga K "Paper")) = some true),
   decide (PySem.W.kitOne K (.ref (He.ga K "Unbarred")) (.ref (He.ga K "Paper")) = some true)]
def exB (K : PySem.W.Frag) : Bool := (exL K).all id
abbrev fileN : Str := PySem.Challenge.pw_nevergone_k23_whole_bars_of_up_to_twelve.main.file
abbrev hkX : PySem.W.Hook := KSup.hookX 4 fileN faL fnL suL exB
def obX (s : PySem.W.SharedT) : KSup.AlX := KSup.obsXG 4 fileN faL fnL suL exB (HandSHeadRun.getT s)
theorem obX_eq (s : PySem.W.SharedT) : obX s = hkX.obs s.abs := KSup.obsXG_eq (HandSHeadRun.getT_eq s)
def namesL : List PySem.Str := ["is_integer", "is_within", "is_listed", "is_plain_tuple", "GoneError", "BadNumber", "BadValue", "fixed", "are_like", "Paper", "Denial", "MOST_CELLS", "MOST_SIZE", "MOST_BLOCKS", "Bars", "Unbarred", "longer", "least_bars", "are_bars", "need_sizes", "need_bars", "bars", "shows_bars", "_law_pen", "_law_draw", "_law_pick", "_law_least_bars", "_law_is_bars"]
theorem runX (w : World) : HandSHeadRun.RunEq RowR (PySem.W.view RowR.prog [33]) hkX obX 3000 namesL w := by
  intro os
  kernel_rfl
end K23
set_option maxHeartbeats 1000000
namespace K23
open PySem PySem.Spec PyProof.Rows L2
abbrev PP : Program := PySem.Challenge.pw_nevergone_k23_whole_bars_of_up_to_twelve
theorem FnOk.r0 {P : Program} {w : World} {K : PySem.W.Frag} {mg : Str → Option Value} {base : Heap} {k : Nat} {f : Addr} {fd : FuncData} {ps : List Str} {sp : Sp} (F : FnOk P w K mg base CX0 k f fd ps sp) (hb : Binds K fd ps []) : FnR P w K mg base CX0 k f sp :=
  (FnOk.raw F hb .nil).imp fun vs H Q E h => by
    rw [List.append_nil]
    exact h
theorem factsX {w : World} {K : PySem.W.Frag} {h : Heap} {mg : Str → Option Value} {f : Addr} (X : K.In h) (G : h.Ns mainGlobals mg) (hfa : mg ("law" : Str) = some (.ref f)) (c : KSup.SaysX fileN faL fnL suL exB K) :
    ∃ fd : FuncData, (∀ (s : Shared) (v : Value), BindsTo s fd ⟨[v], []⟩ [("script", v)]) ∧ ∀ base : Heap, K.In base → base.Ns mainGlobals mg → FnOk PP w K mg base CX0 12 f fd ["script"] (spLaw K) := by
  have cd := c.u.d
  have cx := c.x
  have ex : ∀ (i : Nat) {b : Bool}, (exL K)[i]? = some b → b = true := fun i b e => KSup.ex_at cx i e
  obtain ⟨d0, F0⟩ := cd.def_ 0 (d := dG 1 "is_integer") rfl
  obtain ⟨d1, F1⟩ := cd.def_ 1 (d := dG 2 "is_within") rfl
  obtain ⟨d2, F2⟩ := cd.def_ 2 (d := dG 3 "is_listed") rfl
  obtain ⟨d3, F3⟩ := cd.def_ 3 (d := dG 4 "is_plain_tuple") rfl
  obtain ⟨d4, F4⟩ := cd.def_ 4 (d := dG 10 "fixed") rfl
  obtain ⟨d5, F5⟩ := cd.def_ 5 (d := dG 11 "are_like") rfl
  obtain ⟨d6, F6⟩ := cd.def_ 6 (d := dG 20 "longer") rfl
  obtain ⟨d7, F7⟩ := cd.def_ 7 (d := dG 21 "least_bars") rfl
  obtain ⟨d8, F8⟩ := cd.def_ 8 (d := dG 22 "are_bars") rfl
  obtain ⟨d9, F9⟩ := cd.def_ 9 (d := dG 23 "need_sizes") rfl
  obtain ⟨d10, F10⟩ := cd.def_ 10 (d := dG 24 "need_bars") rfl
  obtain ⟨d11, F11⟩ := cd.def_ 11 (d := dGd 25 "bars" [.int 12]) rfl
  obtain ⟨d12, F12⟩ := cd.def_ 12 (d := dG 26 "shows_bars") rfl
  obtain ⟨d13, F13⟩ := cd.def_ 13 (d := dG 28 "_law_pen") rfl
  obtain ⟨d14, F14⟩ := cd.def_ 14 (d := dG 29 "_law_draw") rfl
  obtain ⟨d15, F15⟩ := cd.def_ 15 (d := dG 30 "_law_pick") rfl
  obtain ⟨d16, F16⟩ := cd.def_ 16 (d := dG 31 "_law_least_bars") rfl
  obtain ⟨d17, F17⟩ := cd.def_ 17 (d := dG 32 "_law_is_bars") rfl
  obtain ⟨d18, F18⟩ := cd.def_ 18 (d := dG 33 "law") rfl
  obtain ⟨d19, F19⟩ := cd.def_ 19 (d := dM 12 0 "Paper" "__init__" "Paper.__init__") rfl
  obtain ⟨d20, F20⟩ := cd.def_ 20 (d := dM 12 1 "Paper" "__bool__" "Paper.__bool__") rfl
  obtain ⟨d21, F21⟩ := cd.def_ 21 (d := dM 12 2 "Paper" "__eq__" "Paper.__eq__") rfl
  obtain ⟨d22, F22⟩ := cd.def_ 22 (d := dM 13 0 "Denial" "__bool__" "Denial.__bool__") rfl
  have b0 : Binds K d0 ["value"] [] := FunD.bindsN F0 fun _ _ _ _ _ _ us hl => match us, hl with | [_], _ => rfl
  have b1 : Binds K d1 ["value", "least", "most"] [] := FunD.bindsN F1 fun _ _ _ _ _ _ us hl => match us, hl with | [_, _, _], _ => rfl
  have b2 : Binds K d2 ["value"] [] := FunD.bindsN F2 fun _ _ _ _ _ _ us hl => match us, hl with | [_], _ => rfl
  have b3 : Binds K d3 ["value", "many"] [] := FunD.bindsN F3 fun _ _ _ _ _ _ us hl => match us, hl with | [_, _], _ => rfl
  have b4 : Binds K d4 ["value"] [] := FunD.bindsN F4 fun _ _ _ _ _ _ us hl => match us, hl with | [_], _ => rfl
  have b5 : Binds K d5 ["one", "other"] [] := FunD.bindsN F5 fun _ _ _ _ _ _ us hl => match us, hl with | [_, _], _ => rfl
  have b6 : Binds K d6 ["lines", "cells", "sizes", "wanted"] [] := FunD.bindsN F6 fun _ _ _ _ _ _ us hl => match us, hl with | [_, _, _, _], _ => rfl
  have b7 : Binds K d7 ["cells", "sizes", "wanted", "most"] [] := FunD.bindsN F7 fun _ _ _ _ _ _ us hl => match us, hl with | [_, _, _, _], _ => rfl
  have b8 : Binds K d8 ["cells", "sizes", "wanted", "most", "value"] [] := FunD.bindsN F8 fun _ _ _ _ _ _ us hl => match us, hl with | [_, _, _, _, _], _ => rfl
  have b9 : Binds K d9 ["value"] [] := FunD.bindsN F9 fun _ _ _ _ _ _ us hl => match us, hl with | [_], _ => rfl
  have b10 : Binds K d10 ["cells", "sizes", "wanted", "most"] [] := FunD.bindsN F10 fun _ _ _ _ _ _ us hl => match us, hl with | [_, _, _, _], _ => rfl
  have b11 := bars_b4 F11
  have b12 : Binds K d12 ["cells", "sizes", "wanted", "most", "value"] [] := FunD.bindsN F12 fun _ _ _ _ _ _ us hl => match us, hl with | [_, _, _, _, _], _ => rfl
  have b13 : Binds K d13 ["script"] [] := FunD.bindsN F13 fun _ _ _ _ _ _ us hl => match us, hl with | [_], _ => rfl
  have b14 : Binds K d14 ["pen", "many"] [] := FunD.bindsN F14 fun _ _ _ _ _ _ us hl => match us, hl with | [_, _], _ => rfl
  have b15 : Binds K d15 ["pen", "some"] [] := FunD.bindsN F15 fun _ _ _ _ _ _ us hl => match us, hl with | [_, _], _ => rfl
  have b16 : Binds K d16 ["cells", "sizes", "wanted", "many"] [] := FunD.bindsN F16 fun _ _ _ _ _ _ us hl => match us, hl with | [_, _, _, _], _ => rfl
  have b17 : Binds K d17 ["cells", "sizes", "wanted", "many", "blocks"] [] := FunD.bindsN F17 fun _ _ _ _ _ _ us hl => match us, hl with | [_, _, _, _, _], _ => rfl
  have b20 : Binds K d20 ["self"] [] := FunD.bindsN F20 fun _ _ _ _ _ _ us hl => match us, hl with | [_], _ => rfl
  have b21 : Binds K d21 ["self", "other"] [] := FunD.bindsN F21 fun _ _ _ _ _ _ us hl => match us, hl with | [_, _], _ => rfl
  have b22 : Binds K d22 ["self"] [] := FunD.bindsN F22 fun _ _ _ _ _ _ us hl => match us, hl with | [_], _ => rfl
  have m0 := He.glo_ok X G (cd.fact 0 (f := .glo "is_integer") rfl)
  have m1 := He.glo_ok X G (cd.fact 1 (f := .glo "is_within") rfl)
  have m2 := He.glo_ok X G (cd.fact 2 (f := .glo "is_listed") rfl)
  have m3 := He.glo_ok X G (cd.fact 3 (f := .glo "is_plain_tuple") rfl)
  have m4 := He.glo_ok X G (cd.fact 4 (f := .glo "fixed") rfl)
  have m5 := He.glo_ok X G (cd.fact 5 (f := .glo "are_like") rfl)
  have m6 := He.glo_ok X G (cd.fact 6 (f := .glo "longer") rfl)
  have m7 := He.glo_ok X G (cd.fact 7 (f := .glo "least_bars") rfl)
  have m8 := He.glo_ok X G (cd.fact 8 (f := .glo "are_bars") rfl)
  have m9 := He.glo_ok X G (cd.fact 9 (f := .glo "need_sizes") rfl)
  have m10 := He.glo_ok X G (cd.fact 10 (f := .glo "need_bars") rfl)
  have m11 := He.glo_ok X G (cd.fact 11 (f := .glo "bars") rfl)
  have m12 := He.glo_ok X G (cd.fact 12 (f := .glo "shows_bars") rfl)
  have m13 := He.glo_ok X G (cd.fact 13 (f := .glo "_law_pen") rfl)
  have m14 := He.glo_ok X G (cd.fact 14 (f := .glo "_law_draw") rfl)
  have m15 := He.glo_ok X G (cd.fact 15 (f := .glo "_law_pick") rfl)
  have m16 := He.glo_ok X G (cd.fact 16 (f := .glo "_law_least_bars") rfl)
  have m17 := He.glo_ok X G (cd.fact 17 (f := .glo "_law_is_bars") rfl)
  have mP := He.glo_ok X G (cd.fact 19 (f := .glo "Paper") rfl)
  have mB := He.glo_ok X G (cd.fact 21 (f := .glo "Bars") rfl)
  have mU := He.glo_ok X G (cd.fact 22 (f := .glo "Unbarred") rfl)
  have cP := He.cls_ok (cd.fact 23 (f := .cls "Paper") rfl)
  have cB := He.cls_ok (cd.fact 25 (f := .cls "Bars") rfl)
  have cU := He.cls_ok (cd.fact 26 (f := .cls "Unbarred") rfl)
  have kB := He.mkr_ok (cd.fact 27 (f := .mkr "Bars") rfl)
  have kU := He.mkr_ok (cd.fact 28 (f := .mkr "Unbarred") rfl)
  have kP := He.mkr_ok (cd.fact 29 (f := .mkr "Paper") rfl)
  have co : Co mg := ⟨He.int_ok X G (cd.fact 30 (f := .int "MOST_CELLS" 12) rfl), He.int_ok X G (cd.fact 31 (f := .int "MOST_SIZE" 3) rfl), He.int_ok X G (cd.fact 32 (f := .int "MOST_BLOCKS" 12) rfl)⟩
  have pB : PapC K (He.ga K "Bars") := ⟨cB, He.noat_ok (cd.fact 33 (f := .noat "Bars" "word") rfl), He.noat_ok (cd.fact 34 (f := .noat "Bars" "parts") rfl), He.noat_ok (cd.fact 35 (f := .noat "Bars" "cells") rfl), He.noat_ok (cd.fact 36 (f := .noat "Bars" "blocks") rfl)⟩
  have pU : PapC K (He.ga K "Unbarred") := ⟨cU, He.noat_ok (cd.fact 37 (f := .noat "Unbarred" "word") rfl), He.noat_ok (cd.fact 38 (f := .noat "Unbarred" "parts") rfl), He.noat_ok (cd.fact 39 (f := .noat "Unbarred" "cells") rfl), He.noat_ok (cd.fact 40 (f := .noat "Unbarred" "blocks") rfl)⟩
  have pP : PapC K (He.ga K "Paper") := ⟨cP, He.noat_ok (cd.fact 41 (f := .noat "Paper" "word") rfl), He.noat_ok (cd.fact 42 (f := .noat "Paper" "parts") rfl), He.noat_ok (cd.fact 43 (f := .noat "Paper" "cells") rfl), He.noat_ok (cd.fact 44 (f := .noat "Paper" "blocks") rfl)⟩
  have T : Bl mg := ⟨He.free_ok X G (cd.fact 45 (f := .free "isinstance") rfl), He.free_ok X G (cd.fact 46 (f := .free "int") rfl), He.free_ok X G (cd.fact 47 (f := .free "bool") rfl), He.free_ok X G (cd.fact 48 (f := .free "list") rfl),
    He.free_ok X G (cd.fact 49 (f := .free "tuple") rfl), He.free_ok X G (cd.fact 50 (f := .free "dict") rfl), He.free_ok X G (cd.fact 51 (f := .free "len") rfl), He.free_ok X G (cd.fact 52 (f := .free "min") rfl), He.free_ok X G (cd.fact 53 (f := .free "max") rfl),
    He.free_ok X G (cd.fact 54 (f := .free "sum") rfl), He.free_ok X G (cd.fact 55 (f := .free "all") rfl), He.free_ok X G (cd.fact 56 (f := .free "sorted") rfl), He.free_ok X G (cd.fact 57 (f := .free "range") rfl), He.free_ok X G (cd.fact 58 (f := .free "abs") rfl), He.free_ok X G (cd.fact 59 (f := .free "zip") rfl), He.free_ok X G (cd.fact 60 (f := .free "super") rfl)⟩
  have hn := He.eqO_ok (ex 15 rfl)
  have htk := of_decide_eq_true (ex 16 rfl)
  have hop := He.eqO_ok (ex 17 rfl)
  have moB := of_decide_eq_true (ex 5 rfl)
  have moU := of_decide_eq_true (ex 6 rfl)
  have moP := of_decide_eq_true (ex 7 rfl)
  have haB := He.eqO_ok (ex 12 rfl)
  have haU := He.eqO_ok (ex 13 rfl)
  have haP := He.eqO_ok (ex 14 rfl)
  obtain ⟨nfB, SB⟩ := c.u.sup (P := PP) 0 (d := dSup 18 "Bars" "Bars.__init__") rfl (by decide +kernel) (by decide +kernel) (by decide +kernel)
  obtain ⟨nfU, SU⟩ := c.u.sup (P := PP) 1 (d := dSup 19 "Unbarred" "Unbarred.__init__") rfl (by decide +kernel) (by decide +kernel) (by decide +kernel)
  have e := hfa.symm.trans (He.glo_ok X G (cd.fact 18 (f := .glo "law") rfl))
  cases e
  have bl := FunD.bindsA (ps := ["script"]) F18 fun _ _ _ _ _ _ us hl => match us, hl with | [_], _ => rfl
  refine ⟨d18, fun s v => bl s [v] rfl, fun base _ _ => ?_⟩
  have oB : OwnC K (He.ga K "Bars") := ⟨cB, haB, hn, htk, moB⟩
  have oU : OwnC K (He.ga K "Unbarred") := ⟨cU, haU, hn, htk, moU⟩
  have oP : OwnC K (He.ga K "Paper") := ⟨cP, haP, hn, htk, moP⟩
  have kb : KitB K (He.ga K "Bars") (He.ga K "Unbarred") := ⟨oB, oU, pB, of_decide_eq_true (ex 26 rfl), of_decide_eq_true (ex 27 rfl), of_decide_eq_true (ex 28 rfl)⟩
  have G0 : FnOk PP w K mg base CX0 1 _ d0 ["value"] (spIsInt K) := ok_isInt F0 T
  have G1 : FnOk PP w K mg base CX0 2 _ d1 ["value", "least", "most"] (spIsWithin K) := ok_isWithin F1 G0 F0.kp b0 m0
  have G2 : FnOk PP w K mg base CX0 1 _ d2 ["value"] (spIsListed K) := ok_isListed F2 T
  have G3 : FnOk PP w K mg base CX0 2 _ d3 ["value", "many"] (spIsPlain K) := ok_isPlain F3 T G2 F2.kp b2 m2
  have G4 : FnOk PP w K mg base CX0 5 _ d4 ["value"] (spFixed K 4) := ok_fixed F4 T b4 m4 4
  have G5 : FnOk PP w K mg base CX0 6 _ d5 ["one", "other"] (spLike K 5) := ok_like F5 T b5 m5 5
  have G6 : FnOk PP w K mg base CX0 1 _ d6 ["lines", "cells", "sizes", "wanted"] (spLonger K) := ok_longer F6 T
  have G7 : FnOk PP w K mg base CX0 2 _ d7 ["cells", "sizes", "wanted", "most"] (spLeast K) := ok_least F7 T G6 F6.kp b6 m6
  have G8 : FnOk PP w K mg base CX0 3 _ d8 ["cells", "sizes", "wanted", "most", "value"] (spAreBars K) := ok_areBars F8 T G2 F2.kp b2 m2 G3 F3.kp b3 m3 G1 F1.kp b1 m1 G0 F0.kp b0 m0
  have G9 : FnOk PP w K mg base CX0 3 _ d9 ["value"] (spNeedSizes K) := ok_needSizes F9 T co G2 F2.kp b2 m2 G1 F1.kp b1 m1
  have G10 : FnOk PP w K mg base CX0 4 _ d10 ["cells", "sizes", "wanted", "most"] (spNeedBars K) := ok_needBars F10 co G9 F9.kp b9 m9 G1 F1.kp b1 m1
  have PI : FnR PP w K mg base CX0 6 _ (spPInit K 4) := ok_pinit F19 4 G4 F4.kp b4 m4
  have FB : FnR PP w K mg base CX0 7 _ (spBInit K (He.ga K "Bars") 4) := ok_binit SB pB T.super 4 6 PI
  have FU : FnR PP w K mg base CX0 7 _ (spUInit K (He.ga K "Unbarred")) := ok_uinit SU pU T.super 3 6 PI
  have FE : FnR PP w K mg base CX0 7 _ (spPEq K (He.ga K "Paper") 5) := FnOk.r0 (ok_peq F21 T (He.ga K "Paper") mP 5 6 G5 F5.kp b5 m5) b21
  have FT : FnR PP w K mg base CX0 1 _ spT := FnOk.r0 (ok_pbool F20) b20
  have FF : FnR PP w K mg base CX0 1 _ spF := FnOk.r0 (ok_dbool F22) b22
  have G11 : FnOk PP w K mg base CX0 9 _ d11 ["cells", "sizes", "wanted", "most"] (spBars K (He.ga K "Bars") (He.ga K "Unbarred")) := ok_bars F11 G10 F10.kp b10 m10 G7 F7.kp b7 m7 kB FB mB kU FU mU
  have G12 : FnOk PP w K mg base CX0 5 _ d12 ["cells", "sizes", "wanted", "most", "value"] (spShows K (He.ga K "Bars") (He.ga K "Unbarred")) := ok_shows F12 T kb mB mU G10 F10.kp b10 m10 G7 F7.kp b7 m7 G8 F8.kp b8 m8 G0 F0.kp b0 m0
  have G13 : FnOk PP w K mg base CX0 1 _ d13 ["script"] (spPen K) := ok_pen F13 T
  have G14 : FnOk PP w K mg base CX0 1 _ d14 ["pen", "many"] (spDraw K) := ok_draw F14 T
  have G15 : FnOk PP w K mg base CX0 2 _ d15 ["pen", "some"] (spPick K) := ok_pick F15 T G14 F14.kp b14 m14
  have G16 : FnOk PP w K mg base CX0 1 _ d16 ["cells", "sizes", "wanted", "many"] (spLeast K) := ok_lLeast F16 T
  have G17 : FnOk PP w K mg base CX0 1 _ d17 ["cells", "sizes", "wanted", "many", "blocks"] (spLIs K) := ok_lIs F17 T
  have L : Lw PP w K mg base (He.ga K "Bars") (He.ga K "Unbarred") (He.ga K "Paper") _ _ _ _ _ _ :=
    { kb := kb, bl := T, mk1 := kB, mk2 := kU, mk3 := kP, in1 := FB, in2 := FU, in3 := PI, mB := mB, mU := mU, mP := mP, eq := FE, bt := FT, bf := FF, pU := pU, pP := pP,
      cnB := ⟨cB, haB, hn, htk, moB, hop, cfB_ok (ex 18 rfl), nmB_ok (ex 20 rfl)⟩, cnU := ⟨cU, haU, hn, htk, moU, hop, cfB_ok (ex 19 rfl), nmB_ok (ex 21 rfl)⟩,
      ipB := ⟨haB, hn, htk, moB, of_decide_eq_true (ex 35 rfl)⟩, ipU := ⟨haU, hn, htk, moU, of_decide_eq_true (ex 36 rfl)⟩,
      ecB := ⟨He.eqO_ok (ex 0 rfl), He.eqO_ok (ex 2 rfl), ex 4 rfl, moB⟩, ecU := ⟨He.eqO_ok (ex 1 rfl), He.eqO_ok (ex 3 rfl), ex 4 rfl, moU⟩,
      bcB := ⟨He.eqO_ok (ex 8 rfl), ex 10 rfl⟩, bcU := ⟨He.eqO_ok (ex 9 rfl), ex 11 rfl⟩,
      nfB := fun C h => h.elim (fun e => by rw [e]; exact ex 22 rfl) fun e => by rw [e]; exact ex 23 rfl,
      nfU := fun C h => h.elim (fun e => by rw [e]; exact ex 24 rfl) fun e => by rw [e]; exact ex 25 rfl,
      oP := oP, kPU := of_decide_eq_true (ex 29 rfl), kPB := of_decide_eq_true (ex 30 rfl), kLU := of_decide_eq_true (ex 31 rfl), kLB := of_decide_eq_true (ex 32 rfl), kNU := of_decide_eq_true (ex 33 rfl), kNB := of_decide_eq_true (ex 34 rfl) }
  exact ok_law F18 L ⟨G13, F13.kp, b13, m13⟩ ⟨G14, F14.kp, b14, m14⟩ ⟨G16, F16.kp, b16, m16⟩ ⟨G11, F11.kp, b11, m11⟩ F11 ⟨G12, F12.kp, b12, m12⟩ ⟨G15, F15.kp, b15, m15⟩ ⟨G17, F17.kp, b17, m17⟩
end K23
open PySem PySem.W PySem.Calls PyProof.Rows
theorem PySem.Challenge.cw_nevergone_k23_whole_bars_of_up_to_twelve_holds : PySem.Challenge.rw_nevergone_k23_whole_bars_of_up_to_twelve.Holds := by
  w_on; o_law
  refine HandSHeadRun.head_any (r := OpenLaw.row PySem.Challenge.rw_nevergone_k23_whole_bars_of_up_to_twelve) (q := view (OpenLaw.row PySem.Challenge.rw_nevergone_k23_whole_bars_of_up_to_twelve).prog [33]) (H := K23.hkX) (ob := K23.obX) (M := 3000) (loose := K23.namesL) (d := HandSHeadRun.topDef (OpenLaw.row PySem.Challenge.rw_nevergone_k23_whole_bars_of_up_to_twelve).prog 33) (kwd := []) K23.obX_eq
    (by kernel_rfl) (fun s => by kernel_rfl) K23.runX (by kernel_rfl) (by kernel_rfl) (by kernel_rfl) (by rfl) (by first | assumption | decide +kernel) (by decide +kernel) ⟨rfl, rfl, rfl, rfl, rfl, by decide +kernel⟩ ?hw ?hc
  case hw => w_witness2
  case hc =>
    refine L2.walk_ofE (l := PySem.Challenge.rw_nevergone_k23_whole_bars_of_up_to_twelve) (n := 63) (k := 12) (x := "script") (CX := L2.CX0) rfl (by decide) (by kernel_rfl) ⟨rfl, by decide, by decide⟩ ?F (fun _ _ _ _ z => z)
    intro w mg fa h Y G hmg0
    obtain ⟨K, KX, c⟩ := Y
    have hmg : mg ("law" : PySem.Str) = some (.ref fa) := by
      have e : (HandSHeadRun.topDef (OpenLaw.row PySem.Challenge.rw_nevergone_k23_whole_bars_of_up_to_twelve).prog 33).name = ("law" : PySem.Str) := by kernel_rfl
      rw [← e]
      exact hmg0
    obtain ⟨fd, hb, hF⟩ := K23.factsX (w := w) KX G hmg c
    exact ⟨K, fd, K23.spLaw K, KX, hb, fun H a ns hl _ hS => ⟨a, ns, rfl, hS, fun _ => rfl⟩, hF⟩
