import PyProof.Rows.All
import Wide.All
import OpenK.AllK
import Wide.FinOn
import KE.KExcSuper
import HandS.ForMost
import HandS.Exc
import HandS.WordsExc
import KE.KIsAll
import KE.KTryMore
import HandS.ExcIs
import HandS.ExcField
import HandS.ExcValue
import HandS.TryOnly
import HandS.IsInst
import HandS.Lambda
import HandS.Flow
import HandS.Style
import HandS.Wide
import HandS.CallSlots
import HandS.Defaults
import HandS.TupAny
import HandS.Conv
import HandS.WrittenGet
import HandS.Text
import PySem.Challenge.RW_coverbut_k14_texts_of_sentences
import HandS.HeadHook4
import HandS.HeadWalk
import HandS.Head0
import HandS.Head1
import HandS.Head2
import HandS.NestedK
set_option Elab.async false
set_option linter.all false
set_option maxRecDepth 100000
set_option maxHeartbeats 4000000
set_option exponentiation.threshold 2000
/-! C1: an own exception class whose __init__ (its own or a base's) says super().__init__('..') and stores one field. -/
namespace PySem
namespace SupX
open PySem.W PySem.Calls PyProof.Rows PySem.HandSPX
/-! ### the text of __init__ -/
def iA (fld : Str) (p1 p2 : Pos) : Arguments := { posonlyargs := [], args := [{ arg := "self", annotation := none, pos := p1 }, { arg := fld, annotation := none, pos := p2 }], vararg := none, kwonlyargs := [], kw_defaults := [], kwarg := none, defaults := [] }
def iB (fld msg : Str) (a1 a2 a3 a4 a5 a6 q1 q2 q3 q4 : Pos) : List Stmt :=
  [.Expr (.Call (.Attribute (.Call (.Name "super" a1) [] [] a2) "__init__" a3) [.Constant (.str msg) 0 a4] [] a5) a6, .Assign [.Attribute (.Name "self" q1) fld q2] (.Name fld q3) q4]
def iS (fld : Str) : Scope := { kind := .function, names := [("self", .local), (fld, .local), ("__class__", .free), ("super", .globalImplicit)], isGenerator := false, isCoroutine := false, more := [] }
/-- the call super().__init__(msg) is read in the plain way (its row stands on one line) -/
def Plain (msg : Str) (a1 a2 a3 a4 a5 : Pos) : Prop := ∃ pl : Env → Sem Bool, ∀ env : Env, eval (.Call (.Attribute (.Call (.Name "super" a1) [] [] a2) "__init__" a3) [.Constant (.str msg) 0 a4] [] a5) env = (do
      let ov ← attributeBase (.Call (.Name "super" a1) [] [] a2) "__init__" env (eval (.Call (.Name "super" a1) [] [] a2) env)
      standAt a3.atName
      let (f, first) ← holding [ov] (getMethod ov "__init__" (pl env))
      callWith a5 f first (backTo a5 (starEach [.Constant (.str msg) 0 a4] env)) [])
/-- the class x at C, its __init__ the def at fI of its base (or itself) at D, the field fld -/
structure SupTxt (P : Program) (K : Frag) (mg : Str → Option Value) (x : Str) (C D fI : Addr) (fld : Str) : Prop where
  gC : mg x = some (.ref C)
  cls : ∃ nm q N bs bm sn sub ab col dd k0 k1 k2 k3 k5, K.lookup C = some (excClassObj nm q C N bs bm true sn sub ab col dd k0 k1 k2 k3 k5 "ValueError.__new__") ∧ refsVE bm = true
  sup : ks_superIn K C D "__init__" = some (some (.builtin "ValueError.__init__"))
  dcl : (clsIn K D).isSome = true
  sa : findIn K (.ref C) "__setattr__" = some (some (.builtin "object.__setattr__"))
  ga : findIn K (.ref C) "__getattribute__" = some (some (.builtin "BaseException.__getattribute__"))
  gg : findIn K (.ref C) "__getattr__" = some none
  noN : findIn K (.ref C) fld = some none
  iC : findIn K (.ref C) "__init__" = some (some (.ref fI))
  tI : typeIn K (.ref fI) = some (.type "function")
  kC : keepIn K (.ref C) = true
  exC : subIn K (.ref C) (.type "BaseException") = some true
  exV : subIn K (.ref C) (.type "ValueError") = some true
  mrD : mroIn K C (.ref D) = some true
  tyC : typeIn K (.ref C) = some (.type "type")
  hdC : hasDictIn K C = true
  opq : nsIn K cStatics "thirdparty.any" = some none
  zs : mg "super" = none
  top : (P.main.scope.names.lookup ("super" : Str)).isSome = false
  nself : fld ≠ "self"
  ncls : fld ≠ "__class__"
  nsup : fld ≠ "super"
  ndbg : (fld == ("__debug__" : Str)) = false
  bnd : ∀ (qual : Str) (body : List Stmt) (doc pm : Value) (an : Option Addr) (cdv : Value) (cc : Addr) (ct : Value) (p1 p2 : Pos) (a b : Value),
    bindArgs (fnX "__init__" qual (iA fld p1 p2) body (iS fld) [((Str.ofString "__class__"), cc)] .none .none doc pm an cdv ct) ⟨[a, b], []⟩ = pure [((Str.ofString "self"), a), (fld, b)]
  fn : ∃ (qual msg : Str) (oc : Value) (od : Option Addr) (doc pm : Value) (an : Option Addr) (cda cc : Addr) (ct : Value) (osl : Array (Option Value)) (p1 p2 a1 a2 a3 a4 a5 a6 q1 q2 q3 q4 : Pos),
    K.lookup fI = some ⟨oc, od, .func (fnX "__init__" qual (iA fld p1 p2) (iB fld msg a1 a2 a3 a4 a5 a6 q1 q2 q3 q4) (iS fld) [("__class__", cc)] .none .none doc pm an (.ref cda) ct), osl⟩ ∧ codeIn K (.ref cda) qual = true ∧
    (∃ cl cld csl, K.lookup cc = some ⟨cl, cld, .cell (some (.ref D)), csl⟩) ∧
    (∃ ccl cdd ccs vs file tf, K.lookup cda = some ⟨ccl, cdd, .fields vs, ccs⟩ ∧ vs[2]? = some (.str file tf) ∧ ((P.main.file : Str) == file) = true) ∧ Plain msg a1 a2 a3 a4 a5
/-- what __init__ leaves of a fresh exception at x -/
structure InitEnd (h h' : Heap) (x C dx : Addr) (fld : Str) (v : Value) : Prop where
  keep : ∀ b o, b ≠ x → h.get? b = some o → h'.get? b = some o
  obj : ∃ t1, h'.get? x = some { cls := .ref C, dict := some dx, data := .fields #[.ref t1, .none, .none, .none, .bool false, .none] }
  dbig : h.objs.size ≤ dx
  dne : dx ≠ x
  ns : h'.Ns1 dx (fun y => if y = fld then some v else none)
/-- a made exception -/
structure OwnMade (h h' : Heap) (e C d : Addr) (fld : Str) (v : Value) : Prop where
  keep : ∀ b o, h.get? b = some o → h'.get? b = some o
  new : h.objs.size ≤ e
  obj : ∃ oe vs, h'.get? e = some oe ∧ oe.cls = .ref C ∧ oe.dict = some d ∧ oe.data = .fields vs ∧ vs[1]? = some .none
  dbig : h.objs.size ≤ d
  dne : d ≠ e
  ns : h'.Ns1 d (fun y => if y = fld then some v else none)
theorem one_size (v : Value) : [v].length ≤ sizeLine := by
  rw [sizeLine_eq]
  exact (by decide : 1 ≤ 16777216)
section
variable {prog : Program} {w : World} {M : Model} {A : Around} {E : Value → Shared → Prop}
/-- the method-wrapper called: the args are laid anew -/
theorem call_mw {h : Heap} {g : Array GenState} {d : Drawn} {t : Nat} {os : OsState} {nm q : Str} {C N : Addr} {bs bm : List Value} {hdct : Bool} {sn : List Str} {sub : List Value} {ab : Bool} {col : Option Bool} {dd : Option Addr} {k0 k1 k2 k3 k5 : Option Value}
    {u e t0 : Addr} {rest : List Value} {Q : Value → Shared → Prop}
    (hC : h.get? C = some (excClassObj nm q C N bs bm hdct sn sub ab col dd k0 k1 k2 k3 k5 "ValueError.__new__")) (he : h.get? e = some (excO C t0)) (hu : h.get? u = some (kxs_mw "ValueError.__init__" e)) (hrest : rest.length ≤ sizeLine)
    (hq : ∀ h' t1, (∀ b o, b ≠ e → h.get? b = some o → h'.get? b = some o) → h'.get? e = some (excO C t1) → Q .none ⟨h', g, d, t, os⟩) :
    wpAny (model prog w) A (call (.ref u) rest) Q E ⟨h, g, d, t, os⟩ := by
  refine wpAny_call (codeAny_of_tree ?_)
  show wpAny _ A.in1 (callAny (.ref u) ⟨rest, []⟩) _ _ _
  simp only [callAny]
  refine wpAny_bind (wpAny_load hu ?_)
  simp only [kxs_mw, show (Value.type "method-wrapper" == Value.type "method" || Value.type "method-wrapper" == Value.type "builtin_function_or_method" || Value.type "method-wrapper" == Value.type "method-wrapper") = true by decide, if_true]
  refine KFB.if_so (by decide) ?_
  refine wpAny_bind (check_bound_init F.excBase_ValueError.toExcCallFacts hC he rfl ?_)
  refine wpAny_bind (wpAny_pure (wpAny_pure ?_))
  refine ⟨plainId_quiet F.excBase_ValueError.init.plain _, codeAny_builtin F.excBase_ValueError.initEntry ?_⟩
  exact exc_init_tree (cls := .ref C) (t0 := t0) (dv := none) (c2 := .none) (c3 := .none) (b4 := .bool false) he hrest fun h' k e' _ => hq h' _ k e'
end
theorem kept_but {K : Frag} {h h' : Heap} {x : Addr} (X : K.In h) (hx : K.lookup x = none) (k : ∀ b o, b ≠ x → h.get? b = some o → h'.get? b = some o) : K.In h' := fun a o e =>
  k a o (fun z => by rw [z, hx] at e; cases e) (X a o e)
theorem ldC {M : Model} {s : Shared} {env : Env} {A : Around} {E : Value → Shared → Prop} {m : Str → Option Value} {x : Str} {pos : Pos} {v : Value} {Q : Value → Shared → Prop} (hn : s.heap.Ns env.locals m) (hv : m x = some v) (h : Q v s)
    (hk : env.scope.kind = .function) (hl : env.kindOf x = some .local) (hd : (x == ("__debug__" : Str)) = false) :
    wpAny M A (eval (.Name x pos) env) Q E s := wpAny_Name (wpAny_loadName_local hk hl hn hv h) hd
section
variable {prog : Program} {w : World} {A : Around} {R : Result → Shared → Prop} {s : Shared} {K : Frag} {mg : Str → Option Value} {x : Str} {C D fI : Addr} {fld : Str}
theorem sup_init (T : SupTxt prog K mg x C D fI fld) {e t0 : Addr} {v : Value} (X : K.In s.heap) (G : s.heap.Ns mainGlobals mg) (B : ∃ mb, s.heap.Ns builtinsNs mb ∧ ∀ x : Str, x ≠ "__name__" → mb x = bootBuiltins x) (hlim : s.heap.NoLimit) (hx : s.heap.get? e = some (excO C t0)) (hnx : K.lookup e = none) (hroom : A.depth < recursionLimit)
    (hq : ∀ h' tk dx, InitEnd s.heap h' e C dx fld v → R (.ok (.ret .none)) { s with heap := h', toks := tk }) :
    codeAny (model prog w) A (.call (.ref fI) ⟨[.ref e, v], []⟩) R s := by
  obtain ⟨qual, msg, oc, od, doc, pm, an, cda, cc, ct, osl, p1, p2, a1, a2, a3, a4, a5, a6, q1, q2, q3, q4, ho, hcd, ⟨cl, cld, csl, hcc⟩, ⟨ccl, cdd, ccs, vs, file, tf, hcda, hvs, hfile⟩, ⟨pl, hpl⟩⟩ := T.fn
  obtain ⟨nm, q, N, bs, bm, sn, sub, ab, col, dd, k0, k1, k2, k3, k5, hC, hbm⟩ := T.cls
  have hcl : clsIn K C = some { name := nm, bases := bs, mro := .ref C :: bm, ns := N, qualname := q, hasDict := true, slotNames := sn, subclasses := sub, abstract := ab, collection := col, hasDel := false } := by unfold clsIn; rw [hC] <;> rfl
  have nsf : ((fld : Str) == ("self" : Str)) = false := by simpa using T.nself
  have nsf' : (("self" : Str) == fld) = false := by simpa using (Ne.symm T.nself)
  have lself : (iS fld).names.lookup ("self" : Str) = some .local := by simp [iS, List.lookup]
  have lfld : (iS fld).names.lookup fld = some .local := by simp [iS, List.lookup, nsf]
  have ncf : (("__class__" : Str) == fld) = false := by simpa using (Ne.symm T.ncls)
  have nuf : (("super" : Str) == fld) = false := by simpa using (Ne.symm T.nsup)
  have lcls : (iS fld).names.lookup ("__class__" : Str) = some .free := by
    have z : (("__class__" : Str) == ("self" : Str)) = false := by decide
    simp [iS, List.lookup, ncf, z]
  have lsup : (iS fld).names.lookup ("super" : Str) = some .globalImplicit := by
    have z : (("super" : Str) == ("self" : Str)) = false := by decide
    have z2 : (("super" : Str) == ("__class__" : Str)) = false := by decide
    simp [iS, List.lookup, nuf, z, z2]
  obtain ⟨cdD, hD⟩ := Option.isSome_iff_exists.mp T.dcl
  obtain ⟨oD, hD1, hD2⟩ : ∃ oD, K.lookup D = some oD ∧ oD.data = .cls cdD := by
    unfold clsIn at hD
    split at hD
    · rename_i c d cd' sl ho
      cases hD
      exact ⟨_, ho, rfl⟩
    · cases hD
  obtain ⟨mb, hb1, hb2⟩ := B
  have exlt : e < s.heap.objs.size := Heap.lt_size hx
  refine ks_codeAny_call_defAt (fd := fnX "__init__" qual (iA fld p1 p2) (iB fld msg a1 a2 a3 a4 a5 a6 q1 q2 q3 q4) (iS fld) [("__class__", cc)] .none .none doc pm an (.ref cda) ct) (body := iB fld msg a1 a2 a3 a4 a5 a6 q1 q2 q3 q4) (binds := [("self", .ref e), (fld, v)])
    hroom (X _ _ ho) rfl hlim (codeRec_of X hcd) rfl (BindsTo.of_eq ?_) ?_ ?_ (fun h₁ hns hk₁ => ?_) rfl rfl rfl
  · exact T.bnd _ _ _ _ _ _ _ _ _ _ _ _
  · intro y hy
    rcases List.mem_cons.mp hy with rfl | hy
    · exact fun z => nomatch z
    rcases List.mem_cons.mp hy with rfl | hy
    · exact fun z => nomatch z
    rcases List.mem_cons.mp hy with rfl | hy
    · exact fun z => nomatch z
    obtain rfl := List.mem_singleton.mp hy
    exact fun z => nomatch z
  · intro y hy
    rcases List.mem_cons.mp hy with rfl | hy
    · exact lself
    · obtain rfl := List.mem_singleton.mp hy
      exact lfld
  · have ms : (([((Str.ofString "self" : Str), Value.ref e), (fld, v)] : List (Str × Value)).reverse.lookup (Str.ofString "self")) = some (Value.ref e) := by
      show ([(fld, v), ((Str.ofString "self" : Str), Value.ref e)] : List (Str × Value)).lookup (Str.ofString "self") = some (Value.ref e)
      simp [List.lookup, nsf']
    have mf : (([((Str.ofString "self" : Str), Value.ref e), (fld, v)] : List (Str × Value)).reverse.lookup fld) = some v := by
      show ([(fld, v), ((Str.ofString "self" : Str), Value.ref e)] : List (Str × Value)).lookup fld = some v
      simp [List.lookup]
    have X₁ : K.In h₁ := X.keeps hk₁
    have hxL : s.heap.objs.size ≠ e := Nat.ne_of_gt exlt
    -- super().__init__('..')
    show wpAt _ _ _ (execs (iB fld msg a1 a2 a3 a4 a5 a6 q1 q2 q3 q4) _) _ _ _
    refine ks_wpAt_execs_cons (ks_wpAt_Expr_any (ks_wpAt_MethodCall (pl := pl _) ?_ (hpl _)) (by rfl) (by rfl))
    refine ks_wpAt_super_base (f := fI) (cc := cda) (ar := { arg := "self", annotation := none, pos := p1 }) lsup lcls (by decide) rfl (X₁ _ _ ho) rfl rfl rfl (X₁ _ _ hcda) rfl hvs hfile T.top ?_
    refine ks_loadName_global rfl lsup (loadGlobal_builtin (G.keeps hk₁) T.zs (hb1.keeps hk₁) ((hb2 "super" (by decide)).trans PyProof.Rows.Boot.«super») ⟨rfl, ?_⟩)
    refine wpAny_loadName_free rfl lcls rfl ⟨_, X₁ _ _ hcc, rfl⟩ ?_
    refine wpAny_loadName_local rfl lself hns ms ?_
    refine ks_wpAny_isType_cls (X₁ _ _ hD1) hD2 ⟨rfl, ?_⟩
    have hx₁ := hk₁ _ _ hx
    refine ks_wpAny_call_super (X₁ _ _ hD1) hD2 hx₁ rfl (fun c z => by cases z) (looks_mroIn X₁ T.mrD) (fun h₂ hso k₂ => ?_)
    have X₂ : K.In h₂ := X₁.keeps k₂
    have hx₂ := k₂ _ _ hx₁
    have hm : ks_superIn K C D "__init__" = some (some (.builtin "ValueError.__init__")) := T.sup
    unfold ks_superIn at hm
    rw [hcl] at hm
    have hI : Looks (model prog w) h₂ (isInstance (.ref e) (.type "ValueError")) true := (InstAt.mk (od := none) hx₂ rfl rfl trivial : InstAt h₂ e _ C none).type.andThen (looks_subIn X₂ T.exV)
    have eC : e ≠ C := fun z => by
      rw [z] at hx
      have y := X _ _ hC
      rw [hx] at y
      cases y
    refine kxs_getMethod kxs_ValueError hso (looks_opaque X₂ T.opq) (l₀ := .ref C :: bm) ?_ rfl X₂ hm hI eC rfl ?_
    · exact fun A Q E s k q => wpAny_bind ((looks_clsIn X₂ hcl) A _ E s k (wpAny_pure q))
    · -- the wrapper is called
      have k₃ : ∀ b o, h₂.get? b = some o → (h₂.push (kxs_mw "ValueError.__init__" e)).get? b = some o := fun b o z => Heap.get?_push_of_some _ z
      refine kxs_callWith (i := "ValueError.__init__") (u := h₂.objs.size) (x := e) rfl ?_
      refine evalArgs_plain ?_
      refine Calls.spliced_cons ?_
      show wpAny _ _ (eval (.Constant (.str msg) 0 a4) _) _ _ _
      refine Constant_str (pos := a4) ?_
      refine Calls.spliced_nil ⟨Heap.get?_push_size _ rfl, ?_⟩
      refine call_mw (k₃ _ _ (X₂ _ _ hC)) (k₃ _ _ hx₂) (Heap.get?_push_size _ rfl) (one_size _) (fun h₄ t1 k₄ hx₄ => ?_)
      -- self.fld = fld
      have k₀ : ∀ b o, b ≠ e → s.heap.get? b = some o → h₄.get? b = some o := fun b o hb z => k₄ b o hb (k₃ _ _ (k₂ _ _ (hk₁ _ _ z)))
      have X₄ : K.In h₄ := kept_but X hnx k₀
      have ns₄ : h₄.Ns s.heap.objs.size (fun y => ([((Str.ofString "self" : Str), Value.ref e), (fld, v)] : List (Str × Value)).reverse.lookup y) := by
        obtain ⟨o, es, ep, ho', r⟩ := hns
        exact ⟨o, es, ep, k₄ _ _ hxL (k₃ _ _ (k₂ _ _ ho')), r⟩
      show wpAt _ _ _ (execs [.Assign [.Attribute (.Name "self" q1) fld q2] (.Name fld q3) q4] _) _ _ _
      refine ks_wpAt_execs_cons (ks_wpAt_Assign_Attr (wpAt_of_wpAny ?_) (by rfl))
      refine ldC (v := v) ns₄ mf ?_ rfl lfld T.ndbg
      refine ldC (v := .ref e) ns₄ ms ?_ rfl lself (by decide)
      refine set_plain X₄ (ox := excO C t1) (od := none) ⟨hx₄, rfl, rfl, trivial⟩ T.sa ?_
      refine exc_osa X₄ hx₄ hcl (show refsVE (.ref C :: bm) = true from hbm) rfl T.noN (fun h₅ tk₅ dx k₅ dn dne hx₅ hn₅ => ?_)
      refine wpAt_of_wpAny ?_
      show wpAny _ _ (execs [] _) _ _ _
      have z : s.heap.objs.size < h₄.objs.size := by
        obtain ⟨o, es, ep, ho', r⟩ := ns₄
        exact Heap.lt_size ho'
      exact wpAny_execs_nil (hq h₅ tk₅ dx ⟨fun b o hb y => k₅ b o hb (k₀ b o hb y), ⟨t1, hx₅⟩, Nat.le_of_lt (Nat.lt_of_lt_of_le z dn), dne, hn₅⟩)
theorem sup_made (T : SupTxt prog K mg x C D fI fld) {v : Value} (X : K.In s.heap) (G : s.heap.Ns mainGlobals mg) (B : ∃ mb, s.heap.Ns builtinsNs mb ∧ ∀ x : Str, x ≠ "__name__" → mb x = bootBuiltins x) (hlim : s.heap.NoLimit) (hroom : A.depth + 1 < recursionLimit)
    (hq : ∀ h' tk e d, OwnMade s.heap h' e C d fld v → R (.ok (.ret (.ref e))) { s with heap := h', toks := tk }) :
    codeAny (model prog w) A (.call (.ref C) ⟨[v], []⟩) R s := by
  obtain ⟨nm, q, N, bs, bm, sn, sub, ab, col, dd, k0, k1, k2, k3, k5, hC, hbm⟩ := T.cls
  obtain ⟨hp, g, dr, tk, os⟩ := s
  have k : ∀ b o, hp.get? b = some o → ((hp.push (kdv_tup [v])).push (excO C hp.objs.size)).get? b = some o := fun b o e => Heap.get?_push_of_some _ (Heap.get?_push_of_some _ e)
  have hget : ((hp.push (kdv_tup [v])).push (excO C hp.objs.size)).get? (hp.objs.size + 1) = some (excO C hp.objs.size) := by heap_get
  have hnx : K.lookup (hp.objs.size + 1) = none := by
    cases e : K.lookup (hp.objs.size + 1) with
    | none => rfl
    | some o =>
      have z : hp.get? (hp.objs.size + 1) = some o := X _ _ e
      exact absurd (Nat.lt_of_succ_lt (Heap.lt_size z)) (Nat.lt_irrefl _)
  refine call_own F.excBase_ValueError (fun X => refsVE_contains X bm hbm) (X _ _ hC) (looks_findIn X T.iC) (fun self => bind_fn X self T.tI) (one_size v) ?_
  refine sup_init (s := ⟨(hp.push (kdv_tup [v])).push (excO C hp.objs.size), g, dr, tk, os⟩) T (X.keeps k) (G.keeps k) (let ⟨mb, b1, b2⟩ := B; ⟨mb, b1.keeps k, b2⟩) (hlim.keeps k) hget hnx ?_ fun h' tk' dx ⟨k', ⟨t1, hx⟩, dn, dne, hns⟩ => ?_
  · show A.depth + 1 < recursionLimit
    exact hroom
  · have old : ∀ b o, hp.get? b = some o → h'.get? b = some o := fun b o e => k' b o (Nat.ne_of_lt (Nat.lt_succ_of_lt (Heap.lt_size e))) (k b o e)
    have z : hp.objs.size + 1 + 1 ≤ dx := by
      first
        | (simpa only [Heap.size_push] using dn)
        | exact dn
        | (have q := dn; rw [Heap.size_push, Heap.size_push] at q; exact q)
    exact ⟨rfl, hq h' tk' (hp.objs.size + 1) dx ⟨old, Nat.le_succ _, ⟨_, _, hx, rfl, rfl, rfl, rfl⟩, Nat.le_trans (Nat.le_trans (Nat.le_succ _) (Nat.le_succ _)) z, dne, hns⟩⟩
end
end SupX
end PySem
/-! C2: such an exception raised; an exception caught and kept as a value; isinstance of it, its fields. -/
namespace PySem.W
open PySem PySem.Spec PySem.Calls PyProof.Rows
section
variable {prog : Program} {w : World} {A : Around} {E : Value → Shared → Prop} {s : Shared} {K : Frag} {x D : Addr} {ox : Obj} {od : Option Obj}
theorem findObj_dataD {C : Addr} {name : Str} {a g : Value} (hc : (clsIn K C).isSome = true) (ha : findIn K (.ref C) name = some (some a)) (hg : specialIn K a "__get__" = some (some g)) (ht : takesIn K a = some true) : findObj K C od name = some (.bind g a) := by
  obtain ⟨cd, hc⟩ := Option.isSome_iff_exists.mp hc
  unfold findObj
  rw [hc, Option.bind_some, ha, Option.bind_some]
  simp [hg, ht]
theorem kin_classD {Q : Option Value → Shared → Prop} (hga : findIn K (.ref D) "__getattribute__" = some (some (.builtin "BaseException.__getattribute__"))) (hgt : findIn K (.ref D) "__getattr__" = some none) (hsub : subIn K (.ref D) (.type "BaseException") = some true)
    (hdct : hasDictIn K D = true) (ha : findIn K (.ref D) "__class__" = some (some (.builtin "object.__class__")))
    (hn : specialIn K (.builtin "object.__class__") "__get__" = some (some (.builtin "getset_descriptor.__get__"))) (htk : takesIn K (.builtin "object.__class__") = some true) (hm : mroIn K D (.type "object") = some true)
    (X : K.In s.heap) (I : InstAt s.heap x ox D od) (h : Q (some (.ref D)) { s with toks := s.toks + 1 }) : wpAny (model prog w) A (getAttr? (.ref x) "__class__") Q E s := by
  have hf : findObj K D od "__class__" = some (.bind (.builtin "getset_descriptor.__get__") (.builtin "object.__class__")) := findObj_dataD (by obtain ⟨cd, hc, _⟩ := any_some hdct; rw [hc]; rfl) ha hn htk
  obtain ⟨hp, g, d, t, os⟩ := s
  have L0 := I.type (M := model prog w)
  have L1 := looks_findIn (M := model prog w) X hga
  have L2 := looks_findIn (M := model prog w) X hgt
  have L3 := looks_find (M := model prog w) X I hf
  have sub : Looks (model prog w) hp (isInstance (.ref x) (.type "BaseException")) true := L0.andThen (looks_subIn X hsub)
  have hx0 : (false && onTheHeap (Value.builtin "BaseException.__getattribute__")) = false := rfl
  have hx2 : (Value.builtin "BaseException.__getattribute__" == Value.builtin "object.__getattribute__") = false := by decide +kernel
  have hx1 : (onTheHeap (Value.ref D) && Value.builtin "BaseException.__getattribute__" == Value.builtin "object.__getattribute__") = false := by rw [hx2]; rfl
  unfold getAttr? getAttrBy? getAttrBy
  refine wpAny_bind (wpAny_mkText (wpAny_bind (wpAny_attempt (wpAny_holding (wpAny_bind (L0.at (wpAny_bind (L1.at ?_))))))))
  show wpAny _ _ (if (onTheHeap (Value.ref D) && Value.builtin "BaseException.__getattribute__" == Value.builtin "object.__getattribute__") = true then _ else _) _ _ _
  rw [hx1, if_neg Bool.false_ne_true]
  unfold getAttrByItsOwn hookBefore
  refine wpAny_bind ?_
  rw [if_pos (show onTheHeap (Value.ref D) = true from rfl)]
  refine L2.at ?_
  refine wpAny_bind (wpAny_attempt (wpAny_holding ?_))
  unfold callGetattribute
  rw [hx0, if_neg Bool.false_ne_true]
  unfold boundAndCalled
  rw [PySem.F.excAttr_ValueError.ga.bind (.ref x)]
  refine wpAny_bind (wpAny_pure ?_)
  show wpAny _ _ (call (.builtin "BaseException.__getattribute__") [.ref x, .str "__class__" t]) _ _ _
  refine wpAny_call (codeAny_call_builtin PySem.F.excAttr_ValueError.ga.plain PySem.F.entry_bexc_ga ?_)
  refine @check_slot (model prog w) _ _ ⟨hp, g, d, t + 1, os⟩ "BaseException.__getattribute__" "BaseException" "__getattribute__" (.ref x) [.str "__class__" t] [] _ (by decide +kernel) (by decide +kernel) sub (PySem.F.args_bexc_ga (.ref x) (.str "__class__" t)) ?_
  unfold Builtin.«object.__getattribute__»
  refine wpAny_bind (wpAny_of_eq (a := ((Value.ref x : Value), [Value.str "__class__" t])) (by first | rfl | (simp only [slotArgs]; rfl)) ?_)
  refine wpAny_bind (wpAny_pure (wpAny_bind (L0.at (wpAny_bind (L3.at ?_)))))
  show wpAny _ _ (holding [Value.builtin "object.__class__"] (call (.builtin "getset_descriptor.__get__") [.builtin "object.__class__", .ref x, .ref D]) >>= ret) _ _ _
  refine wpAny_bind (wpAny_holding (wpAny_call (class_get (s := ⟨hp, g, d, t + 1, os⟩) (ox := ox) (od := od) X I hm ?_)))
  refine wpAny_pure ?_
  show wpAny _ _ (handedOut (.ref D)) _ _ _
  rw [handedOut_of (v := .ref D) rfl]
  first
    | exact wpAny_pure (wpAny_pure h)
    | exact wpAny_pure h
    | exact wpAny_pure (wpAny_bind (wpAny_pure (wpAny_pure h)))
theorem kitx_excD (hga : findIn K (.ref D) "__getattribute__" = some (some (.builtin "BaseException.__getattribute__"))) (hgt : findIn K (.ref D) "__getattr__" = some none) (hsub : subIn K (.ref D) (.type "BaseException") = some true) (hdct : hasDictIn K D = true) (ha : findIn K (.ref D) "__class__" = some (some (.builtin "object.__class__")))
    (hn : specialIn K (.builtin "object.__class__") "__get__" = some (some (.builtin "getset_descriptor.__get__"))) (htk : takesIn K (.builtin "object.__class__") = some true) (hm : mroIn K D (.type "object") = some true) :
    KitX K (.ref x) (.ref D) (fun h => ∃ ox od, InstAt h x ox D od) where
  ty := fun _ _ _ ⟨_, _, I⟩ => I.type
  it := fun _ _ X _ => by
    obtain ⟨cdD, hcD, _⟩ := any_some hdct
    unfold clsIn at hcD
    split at hcD
    · rename_i c' d' cd' sl' ho
      intro A' Q' E' s' k q
      unfold isType loadHead
      exact wpAny_bind (wpAny_loadPart (k _ _ (X _ _ ho)) (wpAny_pure q))
    · cases hcD
  ne := fun h tp dd its n sl X htp => by
    obtain ⟨cdD, hcD, _⟩ := any_some hdct
    refine Bool.eq_false_iff.mpr fun q => ?_
    have e : D = tp := Value.ref.inj (beq_iff_eq.mp q)
    subst e
    unfold clsIn at hcD
    split at hcD
    · rename_i c' d' cd' sl' ho
      have z := (X _ _ ho).symm.trans htp
      cases z
    · cases hcD
  ca := fun X ⟨_, _, I⟩ k => kin_classD hga hgt hsub hdct ha hn htk hm X I k
end
end PySem.W
namespace L2
open PySem PySem.Spec PyProof.Rows
/-! ### raise X(e) -/
theorem relO_one {fld : Str} {v : V} {v' : Value} (r : RelV v v') (f : Str) : RelO (List.lookup f [((fld : Str), v)]) (if f = fld then some v' else none) := by
  by_cases hw : f = fld
  · subst hw
    rw [if_pos rfl]
    have q : List.lookup f [((f : Str), v)] = some v := by simp [List.lookup]
    rw [q]
    exact r
  · rw [if_neg hw]
    have qw : (f == fld) = false := by simpa using hw
    have q2 : List.lookup f [((fld : Str), v)] = none := by simp [List.lookup, qw]
    rw [q2]
    trivial
/-- X(e) -/
def tMkSup (C : Addr) (fld : Str) (ta : TA) : St → Hp → XK → Prop := fun σ H Q => ta σ H fun vs H1 => ∃ v, vs = [v] ∧ ∀ d, H1 d = none → Q (.ref C) (some d) (upd H1 d (.xd [(fld, v)]))
section
variable {X : Cx} {x : Str} {C D fI : Addr} {fld : Str}
theorem pmk_sup {a : Expr} {ta : TA} {p pos : Pos} {k : Nat} (T : PySem.SupX.SupTxt X.prog X.K X.mg x C D fI fld) (hr : Room (k + 1) X.A) (ha : PA X [a] ta) (hg : Gl X x)
    (hdb : (x == ("__debug__" : Str)) = false := by decide)
    (he : starEach (a :: []) X.env = (false, eval a X.env) :: starEach [] X.env := by rfl) (hpl : (backTo pos (starEach [] X.env)).any (·.1) = false := by rfl) :
    PMk X (.Call (.Name x p) [a] [] pos) (tMkSup C fld ta) := by
  intro pins s σ H Q I h
  refine wpAny_Call_Name_kw (ld_glob I hg T.gC ?_ hdb)
  refine PySem.W.callWith_K (h₀ := X.base) I.ok.mod.kin T.kC (thn (ha.run pos pins s σ H _ I h) fun us s1 hh => ?_) he hpl
  obtain ⟨vs, H1, I1, r1, v, ev, q1⟩ := hh
  subst ev
  refine ⟨I1.kIn, ?_⟩
  cases r1 with
  | cons rv rn =>
    rename_i v' us'
    cases rn
    show wpAny _ _ (call (.ref C) [v']) _ _ _
    have hlim := I1.nolimit
    have hG : s1.heap.Ns mainGlobals X.mg := I1.mod.glob.keeps I1.bk
    have hB : ∃ mb, s1.heap.Ns builtinsNs mb ∧ ∀ x : Str, x ≠ "__name__" → mb x = bootBuiltins x := let ⟨mb, h1, h2⟩ := I1.mod.blt; ⟨mb, h1.keeps I1.bk, h2⟩
    obtain ⟨hp, g, dr, tk, os⟩ := s1
    refine wpAny_call (PySem.SupX.sup_made T I1.kIn hG hB hlim (by have := hr.dp; omega) fun h' tk' e d M => ?_)
    show MkP X pins σ Q (.ref e) ⟨h', g, dr, tk', os⟩
    obtain ⟨oe, fv, hoe, hc, hd, hdat, h1⟩ := M.obj
    have hns := M.ns
    obtain ⟨G', g1, g2⟩ := restrict h' fun b => decide (b ≠ e)
    have gk : ∀ b, b ≠ e → G'.get? b = h'.get? b := fun b hb => g1 b (decide_eq_true hb)
    have ge : G'.get? e = none := g2 e (by simp)
    have old : ∀ b o, hp.get? b = some o → G'.get? b = some o := fun b o q => (gk b (Nat.ne_of_lt (Nat.lt_of_lt_of_le (Heap.lt_size q) M.new))).trans (M.keep b o q)
    have ob : ObjOk X.prog X.w (upd H1 d (.xd [((fld : Str), v)])) G' d (.xd [((fld : Str), v)]) :=
      ⟨_, hns.at (fun o q => (gk d M.dne).trans q), fun f => relO_one rv f⟩
    have J : Inv X pins σ (upd H1 d (.xd [((fld : Str), v)])) ⟨G', g, dr, tk', os⟩ := I1.laid (t' := tk') old M.dbig ob
    refine ⟨e, oe, fv, ⟨G', g, dr, tk', os⟩, _, .ref C, some d, rfl, J, fun b o q => ?_, ge, hoe, ⟨hc, hd⟩, hdat, h1, ?_, rfl, I1.bare, raises_own T.exC T.tyC, q1 d (I1.hok.fresh M.dbig)⟩
    · by_cases hb : b = e
      · have q' : G'.get? b = some o := q
        rw [hb, ge] at q'; cases q'
      · exact (gk b hb).symm.trans q
    · rw [upd_ne (Ne.symm M.dne)]
      exact I1.hok.fresh M.new
/-- raise X(e) -/
def tRaiseSup (C : Addr) (fld : Str) (W : WX) (ta : TA) : TS := fun _ σ H => tMkSup C fld ta σ H fun cls d H' => W cls d σ H'
theorem ps_raiseSup {a : Expr} {ta : TA} {W : WX} {p pos pos2 : Pos} {k : Nat} (hc : X.calm = true) (T : PySem.SupX.SupTxt X.prog X.K X.mg x C D fI fld) (hr : Room (k + 1) X.A) (tk : Takes X W) (ha : PA X [a] ta) (hg : Gl X x)
    (hdb : (x == ("__debug__" : Str)) = false := by decide)
    (he : starEach (a :: []) X.env = (false, eval a X.env) :: starEach [] X.env := by rfl) (hpl : (backTo pos (starEach [] X.env)).any (·.1) = false := by rfl) :
    PS X (.Raise (some (.Call (.Name x p) [a] [] pos)) none pos2) (tRaiseSup C fld W ta) := ps_raise hc tk (pmk_sup T hr ha hg hdb he hpl)
end
/-! ### an exception as a value -/
/-- at a: an exception (made, perhaps raised and caught) of the class cls, its dict d -/
def ExV (a : Addr) (cls : Value) (d : Option Addr) : HO := .ext fun h => ∃ (oe : Obj) (vs : Array Value), h.get? a = some oe ∧ Zc cls d oe ∧ oe.data = .fields vs
theorem exV_ok {P : Program} {w : World} {H : Hp} {h : Heap} {a : Addr} {cls : Value} {d : Option Addr} {oe : Obj} {vs : Array Value} (e : h.get? a = some oe) (z : Zc cls d oe) (hd : oe.data = .fields vs) : ObjOk P w H h a (ExV a cls d) :=
  ⟨⟨oe, vs, e, z, hd⟩, ⟨oe, e⟩, fun _ _ ⟨o, v, q, r⟩ k => ⟨o, v, k o q, r⟩⟩
section
variable {X : Cx} {pins : List (Addr × Obj)} {σ : St} {H : Hp} {s : Shared}
/-- an object of ours that nobody tracks is tracked from now on -/
theorem Inv.track {a : Addr} {o : HO} {oe : Obj} (I : Inv X pins σ H s) (ha : s.heap.get? a = some oe) (hn : H a = none) (h0 : X.s_0.heap.get? a = none) (hL : a ≠ X.env.locals) (hcl : ∀ v, oe.data ≠ .cell v) (hp : ∀ p ∈ X.pn ++ pins, p.1 ≠ a)
    (new : ObjOk X.prog X.w (upd H a o) s.heap a o) : Inv X pins σ (upd H a o) s := by
  have ne0 : ∀ b ob, X.s_0.heap.get? b = some ob → b ≠ a := fun b ob e z => by
    rw [z, h0] at e
    cases e
  refine ⟨I.ok, I.os, I.bare, ⟨I.base.keep, I.base.slot, fun b ob e n hx => ?_, I.base.there, fun b xs e => ?_, fun b ob u e => ?_, fun b ps e => ?_⟩, I.loc, I.cell, ?_, fun x c e => ?_, fun p hpp => ?_, fun b u e => ?_, I.len⟩
  · rw [upd_ne (ne0 b ob e)]
    exact I.base.free b ob e n hx
  · rw [upd_ne (ne_of_none (I.base.tups b xs e) hn)]
    exact I.base.tups b xs e
  · rw [upd_ne (ne_of_none (I.base.frzs b ob u e) hn)]
    exact I.base.frzs b ob u e
  · obtain ⟨m, q⟩ := I.base.tbls b ps e
    exact ⟨m, by rw [upd_ne (ne_of_none q hn)]; exact q⟩
  · rw [upd_ne (Ne.symm hL)]
    exact I.free
  · obtain ⟨v, oc, hoc, hdc⟩ := I.cell x c e
    have : c ≠ a := fun z => by
      rw [z, ha] at hoc
      cases hoc
      exact hcl _ hdc
    rw [upd_ne this]
    exact I.freeC x c e
  · obtain ⟨e, n, ne, nf, d⟩ := I.pin p hpp
    exact ⟨e, by rw [upd_ne (hp p hpp)]; exact n, ne, nf, d⟩
  · by_cases hb : b = a
    · subst hb
      rw [upd_same] at e
      cases e
      exact new
    · rw [upd_ne hb] at e
      exact (I.hok b u e).stay (fun c v _ q => q) (fun c q => by rw [upd_ne (ne_of_none q hn)]; exact q) fun c xs q => by rw [upd_ne (ne_of_none q hn)]; exact q
end
end L2
/-! C3: try: body / except X as n: m = n: the caught exception is kept. isinstance of an exception that is kept, its fields. -/
namespace L2
open PySem PySem.Spec PyProof.Rows
/-- what the clause 'except x as n: m = n' wishes of an exception of the body: slot i is n's, slot j m's -/
def wKept (K : PySem.W.Frag) (c : Value) (i j : Nat) (D : Ends) : WX := fun cls d σ H =>
  PySem.W.exmOne K cls c = some true ∧ ∀ a, H a = none → D.nx (((σ.set i (some (.ref a))).set j (some (.ref a))).set i none) (upd H a (ExV a cls d))
section
variable {X : Cx} {x n m : Str} {c : Value} {i j : Nat} {body : List Stmt} {np pos pos' q1 q2 q3 : Pos} {tb : WX → TS}
theorem ps_catch (hs : X.stack = X.env :: X.outer) (hf : X.env.frame = some X.env.locals) (hex : X.ex = []) (hN : X.N.Nodup) (hi : X.N[i]? = some n) (hj : X.N[j]? = some m) (hij : i ≠ j) (hln : X.env.kindOf n = some .local) (hlm : X.env.kindOf m = some .local) (hc : Names X x c)
    (hnd : (n == ("__debug__" : Str)) = false := by decide) (hncd : (n == ("__classdict__" : Str)) = false := by decide)
    (hb : ∀ (W : WX) (pn : List (Addr × Obj)) (xe : Value → Shared → Prop), Takes (X.tr pn xe) W → PassesOwn (model X.prog X.w) X.A X.env xe → PSs (X.tr pn xe) body (tb W)) :
    PS X (.Try body [.ExceptHandler (some (.Name x np)) (some n) [.Assign [.Name m q1] (.Name n q2) q3] pos'] [] [] pos) (fun D σ H => tb (wKept X.K c i j D) D σ H) := by
  refine ⟨fun pins s σ H D I h => ?_⟩
  have ok := I.ok
  have hfr : X.A.frames = some (X.env :: X.outer) := by rw [ok.frames, hs]
  have hloc : Loc X.env.scope n := .inl hln
  refine wpAny_Try_except ?_
  refine wpAny_mono ((hb (wKept X.K c i j D) (X.pn ++ pins) (fun e s₁ => wpAny (model X.prog X.w) X.A (noteFrame e X.env) (fun _ s₂ => wpAny (model X.prog X.w) X.A (setFlight e none) (fun _ s₃ =>
    wpAny (model X.prog X.w) X.A (handleBy e X.env [.ExceptHandler (some (.Name x np)) (some n) [.Assign [.Name m q1] (.Name n q2) q3] pos']) (SP X pins D) X.xe s₃) X.xe s₂) X.xe s₁) (fun u s' xx => ?_) PassesOwn.looking).run [] s σ H D (I.toTry _) h) (fun f s1 hsp => ?_) (fun e s1 he => he)
  · -- the catch
    obtain ⟨a, B, sI, pins', σ', H', cls, d, rfl, J', nb, up, sky, na, os, ag, hb1, hyes⟩ := xx
    have J : Inv X pins σ' H' sI := J'.ofTry ok
    have sky' : Sky B (X.env :: X.outer) a (Zc cls d) X.env.locals s'.heap := by rw [← hs]; exact sky
    show wpAny (model X.prog X.w) X.A (noteFrame (.ref a) X.env) _ _ _
    refine Sky.land Zc.steady hfr hf sky' fun h3 fl3 up3 => ?_
    have J3 : Inv X pins σ' H' { s' with heap := h3 } := J.landed nb fl3.1 (up.trans up3) os ag
    obtain ⟨oe3, vs3, he3, hz3, hd3⟩ := fl3.there
    have notFr : ∀ {h : Heap} {o : Obj} {vs : Array Value}, h.FunFrames B (X.env :: X.outer) → h.get? a = some o → o.data = .fields vs → a ∉ frs (X.env :: X.outer) := fun {h o vs} ff e dd hm => by
      obtain ⟨_, o', e', hnf⟩ := ff.mem hm
      rw [e] at e'; cases e'
      exact hnf _ dd
    have nfr := notFr fl3.2.2.1 he3 hd3
    have nL : a ≠ X.env.locals := fun z => nfr (List.mem_filterMap.mpr ⟨X.env, List.mem_cons_self, by rw [hf, z]⟩)
    have nF : a ∉ X.fs := fun hm => by
      obtain ⟨e, he, q⟩ := List.mem_filterMap.mp hm
      exact nfr (List.mem_filterMap.mpr ⟨e, List.mem_cons_of_mem _ he, q⟩)
    have nfs : a ∉ frs X.stack := by rw [hs]; exact nfr
    have nB : B.get? a = none := fl3.2.1
    have newI : sI.heap.get? a = none := by
      cases e : sI.heap.get? a with
      | none => rfl
      | some o =>
        have z := nb a o e nfs
        rw [nB] at z
        cases z
    have new0 : X.s_0.heap.get? a = none := by
      cases e : X.s_0.heap.get? a with
      | none => rfl
      | some o =>
        obtain ⟨o', z⟩ := J.base.there a o e (by rw [hex]; simp)
        rw [newI] at z
        cases z
    have npin : ∀ p ∈ X.pn ++ pins, p.1 ≠ a := fun p hp z => by
      have y := (J.pin p hp).1
      rw [z, newI] at y
      cases y
    have S3 := J3.suite he3 hd3 na nL nF
    refine wpAny_handleBy_cons (codeAny_handlers_test ?_) (by intro q; cases q)
    have LT : PySem.W.Looks (model X.prog X.w) h3 (typeOf (.ref a)) cls := fun A Q E s k q => wpAny_typeOf_ref (k _ _ he3) (by rw [hz3.1]; exact q)
    have LM := PySem.W.exm_one (M := model X.prog X.w) (J3.kIn) LT hb1
    have test : ∀ {Q : Value → Shared → Prop} {E : Value → Shared → Prop}, Q c { s' with heap := h3 } → wpAny (model X.prog X.w) (X.A.mark (some (.ref a))) (eval (.Name x np) X.env) Q E { s' with heap := h3 } := fun {Q E} q => by
      obtain ⟨hg, hdbg, hm | ⟨hm, hv, hnn⟩⟩ := hc
      · exact ld_glob (X := X.suite a ((a, oe3) :: (X.pn ++ pins))) S3 hg hm q hdbg
      · exact ld_blt (X := X.suite a ((a, oe3) :: (X.pn ++ pins))) S3 hg hm hv q hnn hdbg
    refine test (LM.here ?_)
    refine codeAny_handlers_suite_as ?_
    refine HandSPX.lands_againZ fl3 fun h4 fl4 up4 => ?_
    have J4 : Inv X pins σ' H' { s' with heap := h4 } := J.landed nb fl4.1 ((up.trans up3).trans up4) os ag
    obtain ⟨oe4, vs4, he4, hz4, hd4⟩ := fl4.there
    have S4 := J4.suite he4 hd4 na nL nF
    refine store_ok (X := X.suite a ((a, oe4) :: (X.pn ++ pins))) (v := .ref a) S4 hN hi hloc rfl (fun s5 S5 => ?_) (.inr hln)
    have hil : i < (σ'.set i (some (V.ref a))).length := by rw [S5.len]; exact (List.getElem?_eq_some_iff.mp hi).1
    have hsu : PSs (X.suite a ((a, oe4) :: (X.pn ++ pins))) [.Assign [.Name m q1] (.Name n q2) q3] (tAsg (tVar i) (gName j)) :=
      pss_one (ps_set (X := X.suite a ((a, oe4) :: (X.pn ++ pins))) (i := j) hN hj (.inl hlm) (pe_var hi (.inl hln) hnd hncd) (by rfl) (.inr hlm))
    refine wpAny_mono (hsu.run [] s5 _ H' { nx := fun σ6 H6 => σ6 = (σ'.set i (some (.ref a))).set j (some (.ref a)) ∧ H6 = H', rt := fun _ _ => False } S5 ?_) (fun f s6 hsp => ?_) (fun _ _ z => False.elim z)
    · refine ⟨.ref a, ?_, rfl, rfl⟩
      rw [List.length_set] at hil
      rw [List.getElem?_set_self hil]
    · cases f with
      | next =>
        obtain ⟨σ6, H6, S6, rfl, rfl⟩ := hsp
        have hpin := S6.pin (a, oe4) (List.mem_append_left _ List.mem_cons_self)
        have J6 := S6.unsuite ok
        have J7 : Inv X pins _ (upd H6 a (ExV a cls d)) s6 := J6.track hpin.1 na new0 nL (fun v z => by rw [hd4] at z; cases z) npin (exV_ok hpin.1 hz4 hd4)
        exact gone_ok J7 hN hi hln fun s7 J8 => ⟨_, _, J8, hyes a na⟩
      | brk =>
        obtain ⟨σ6, H6, S6, q6⟩ := hsp
        exact q6.elim
      | cont =>
        obtain ⟨σ6, H6, S6, q6⟩ := hsp
        exact q6.elim
      | ret u =>
        obtain ⟨v6, σ6, H6, S6, r6, q6⟩ := hsp
        exact q6.elim
  · cases f with
    | next =>
      obtain ⟨σ', H', J', q⟩ := hsp
      exact wpAny_execs_nil ⟨σ', H', J'.ofTry ok, q⟩
    | brk =>
      obtain ⟨σ', H', J', q⟩ := hsp
      exact ⟨σ', H', J'.ofTry ok, q⟩
    | cont =>
      obtain ⟨σ', H', J', q⟩ := hsp
      exact ⟨σ', H', J'.ofTry ok, q⟩
    | ret u =>
      obtain ⟨v, σ', H', J', r, q⟩ := hsp
      exact ⟨v, σ', H', J'.ofTry ok, r, q⟩
end
/-! ### isinstance of a kept exception, its fields -/
/-- isinstance(e, c), e a kept exception of the class at D -/
def rIsV (K : PySem.W.Frag) : List V → Hp → VK → Prop := fun xs H Q => ∃ (a D : Addr) (d : Option Addr) (c : V) (cv : Value) (b : Bool), xs = [.ref a, c] ∧ H a = some (ExV a (.ref D) d) ∧ (∀ o, d = some o → ∃ fs, H o = some (.xd fs)) ∧ ExcC K D ∧ ClsV c cv ∧ PySem.W.kitOne K (.ref D) cv = some b ∧ Q (.bl b) H
section
variable {X : Cx} {pins : List (Addr × Obj)} {σ : St} {H : Hp} {s : Shared}
theorem call_isV : CallR X (.builtin "isinstance") (rIsV X.K) := by
  intro pins s σ H xs us Q I r h
  obtain ⟨a, D, d, c, cv, b, rfl, ha, hd, C, k, e, q⟩ := h
  obtain ⟨u1, u2, rfl, r1, r2⟩ := vals2 r
  cases (show u1 = Value.ref a from r1)
  have e2 := k.eq r2
  subst e2
  have J : ∃ ox od, PySem.W.InstAt s.heap a ox D od := by
    obtain ⟨⟨oe, vs, ho, hz, hv⟩, _, _⟩ := I.hok a _ ha
    obtain ⟨oc, odd, oda, osl⟩ := oe
    obtain ⟨h1, h2⟩ := hz
    dsimp only at h1 h2 hv
    subst h1 h2 hv
    cases odd with
    | none => exact ⟨_, none, ho, rfl, rfl, trivial⟩
    | some dd =>
      obtain ⟨fs, hfs⟩ := hd dd rfl
      have hx : ObjOk X.prog X.w H s.heap dd (.xd fs) := I.hok dd _ hfs
      obtain ⟨mA, ⟨od, es, ep, ho2, _⟩, _⟩ := hx
      exact ⟨_, some od, ho, rfl, rfl, ho2⟩
  exact PySem.W.kia_one (PySem.W.kitx_excD C.hg C.hk C.hs C.hd C.ha C.hn C.ht C.hm) I.kIn J e (fun z => nomatch z) fun tk => ⟨.bl b, H, I.tok tk, rfl, q⟩
end
/-- e.f, e a kept exception -/
def tVf (K : PySem.W.Frag) (f : Str) (te : TE) : TE := fun σ H Q => te σ H fun x H1 => ∃ (a C dd : Addr) (fs : List (Str × V)) (v : V), x = .ref a ∧ H1 a = some (ExV a (.ref C) (some dd)) ∧ XfC K C ∧ PySem.W.findIn K (.ref C) f = some none ∧ H1 dd = some (.xd fs) ∧ fs.lookup f = some v ∧ Q v H1
theorem pe_vf {X : Cx} {e : Expr} {te : TE} {pos : Pos} {n : Str} (he : PE X e te) (hb : attributeBase e n X.env (eval e X.env) = eval e X.env := by rfl) : PE X (.Attribute e n pos) (tVf X.K n te) := by
  refine ⟨fun pins s σ H Q I h => ?_⟩
  refine attr_of hb (thn (he.run pins s σ H _ I h) fun u s1 hh => ?_)
  obtain ⟨x, H1, I1, rx, a, C, dd, fs, v, ex, ea, T, hno, ed, l, q⟩ := hh
  subst ex
  obtain rfl : u = Value.ref a := rx
  obtain ⟨⟨oe, vs, ho, hz, hv⟩, _, _⟩ := I1.hok a _ ea
  have hx : ObjOk X.prog X.w H1 s1.heap dd (.xd fs) := I1.hok dd _ ed
  obtain ⟨mA, hns, hr⟩ := hx
  obtain ⟨od, ho2, hl⟩ := lookIn_ns hns
  obtain ⟨u, hu, ru⟩ := RelO.some_of (v := v) (o := mA n) (by rw [← l]; exact hr n)
  have J : PySem.W.InstAt s1.heap a oe C (some od) := ⟨ho, hz.1, by unfold PySem.W.notCls; rw [hv] <;> rfl, by rw [hz.2]; exact ho2⟩
  exact HandSPX.exc_get I1.kIn J T.ga T.gg T.exC (PySem.W.findObj_own T.hdC hno rfl (by rw [hl, hu])) (handed_of ru) ⟨v, H1, I1.tok _, ru, q⟩
end L2
/-! C4: helpers: defs by facts, calls, what stays of a heap. -/
namespace Cov
open PySem PySem.Spec PyProof.Rows L2 LamX
/-- the names of built-ins are free at the module -/
structure Zs (mg : Str → Option Value) : Prop where
  len_ : mg "len" = none
  isinstance_ : mg "isinstance" = none
  str_ : mg "str" = none
  int_ : mg "int" = none
  bool_ : mg "bool" = none
  tuple_ : mg "tuple" = none
  list_ : mg "list" = none
  dict_ : mg "dict" = none
  all_ : mg "all" = none
  any_ : mg "any" = none
  sum_ : mg "sum" = none
  range_ : mg "range" = none
  min_ : mg "min" = none
  max_ : mg "max" = none
  abs_ : mg "abs" = none
  sorted_ : mg "sorted" = none
  enumerate_ : mg "enumerate" = none
  zip_ : mg "zip" = none
  set_ : mg "set" = none
/-- a def of the module -/
structure Dat (K : PySem.W.Frag) (mg : Str → Option Value) (x : Str) (f : Addr) (fd : FuncData) (ps : List Str) : Prop where
  g : mg x = some (.ref f)
  k : PySem.W.keepIn K (.ref f) = true
  b : Binds K fd ps []
/-- an own class of error without own __init__ -/
structure ExT (K : PySem.W.Frag) (mg : Str → Option Value) (x : Str) (C : Addr) : Prop where
  g : mg x = some (.ref C)
  q : PySem.W.excIn K C [.type "ValueError", .type "Exception", .type "BaseException", .type "object"] "ValueError.__new__" = true
  k : PySem.W.keepIn K (.ref C) = true
  b : PySem.W.subIn K (.ref C) (.type "BaseException") = some true
  t : PySem.W.typeIn K (.ref C) = some (.type "type")
section
variable {X : Cx} {k : Nat} {f : Addr} {fd : FuncData} {ps : List Str} {sp : Sp} {x : Str} {p pos : Pos} {e : Expr} {es : List Expr} {t : TA} {W : WX}
theorem pe_fn (G : FnOk X.prog X.w X.K X.mg X.base (L2.CX X.prog X.w) k f fd ps sp) (M : Dat X.K X.mg x f fd ps) (hr : Room k X.A) (ha : PA X (e :: es) t) (hg : Gl X x := by rfl)
    (hdb : (x == ("__debug__" : Str)) = false := by decide) (he : starEach (e :: es) X.env = (false, eval e X.env) :: starEach es X.env := by rfl) (hpl : (backTo pos (starEach es X.env)).any (·.1) = false := by rfl) :
    PE X (.Call (.Name x p) (e :: es) [] pos) (tCall sp [] E0 t) := pe_call G hr hg M.g M.k M.b .nil passL ha hdb he hpl
theorem pe_fx (G : FnOk X.prog X.w X.K X.mg X.base (L2.CX X.prog X.w) k f fd ps sp) (M : Dat X.K X.mg x f fd ps) (hr : Room k X.A) (tk : Takes X W) (ha : PA X (e :: es) t) (hg : Gl X x := by rfl)
    (hdb : (x == ("__debug__" : Str)) = false := by decide) (he : starEach (e :: es) X.env = (false, eval e X.env) :: starEach es X.env := by rfl) (hpl : (backTo pos (starEach es X.env)).any (·.1) = false := by rfl) :
    PE X (.Call (.Name x p) (e :: es) [] pos) (tCallS sp (WE W) t) := pe_callS G hr hg M.g M.k M.b (fun σ => passAt tk σ) ha hdb he hpl
/-- f(k = v, ..), all by name; E: what is wanted of an exception -/
theorem pe_fk0 {E : XK} {ks : List Str} {kws : List Keyword} {tk : TA} {g : List Value → List Value → List Value} {gV : List V → List V → List V}
    (F : FnOk X.prog X.w X.K X.mg X.base (L2.CX X.prog X.w) k f fd ps sp) (M : Dat X.K X.mg x f fd ps) (hb : KBinds X.K fd ps ks g gV) (hr : Room k X.A) (hx : Passes (L2.CX X.prog X.w) X E) (hkw : PK X kws tk) (hg : Gl X x := by rfl)
    (hall : (backToKw pos (keywordEach kws X.env)).all (·.1.isSome) = true := by rfl) (hks : (backToKw pos (keywordEach kws X.env)).filterMap (·.1) = ks := by rfl)
    (hdb : (x == ("__debug__" : Str)) = false := by decide) (hpl : ((backTo pos (starEach [] X.env)).any (·.1) || (backToKw pos (keywordEach kws X.env)).any (·.1.isNone)) = false := by rfl) :
    PE X (.Call (.Name x p) [] kws pos) (fun σ H Q => tk σ H fun zs H2 => sp (gV [] zs) H2 Q E) := by
  refine ⟨fun pins s σ H Q I h => ?_⟩
  refine wpAny_Call_Name_kw (ld_glob I hg M.g ?_ hdb)
  refine PySem.W.callWith_KW0 (h₀ := X.base) I.ok.mod.kin M.k hall (thn (hkw.run pos pins s σ H _ I h) fun ws s2 ⟨zs, H2, I2, rz, q2⟩ => ⟨I2.kIn, ?_⟩) hpl
  rw [hks]
  exact run_fnk F hr hb hx I2 .nil rz q2
theorem pe_globR {a : Addr} (hm : X.mg x = some (.ref a)) (hg : Gl X x := by rfl) (hd : (x == ("__debug__" : Str)) = false := by decide) : PE X (.Name x pos) (tC (.ref a)) := pe_glob hg hm rfl hd
theorem pe_globI {i : Int} {t0 : Tok} (hm : X.mg x = some (.int i t0)) (hg : Gl X x := by rfl) (hd : (x == ("__debug__" : Str)) = false := by decide) : PE X (.Name x pos) (tC (.int i)) := pe_glob hg hm ⟨_, rfl⟩ hd
/-- X('..') -/
theorem pmk_x {m : Str} {j : Nat} {C : Addr} {p2 : Pos} (T : ExT X.K X.mg x C) (hg : Gl X x := by rfl) (hdb : (x == ("__debug__" : Str)) = false := by decide) :
    PMk X (.Call (.Name x p) [.Constant (.str m) j p2] [] pos) (fun _ H Q => Q (.ref C) none H) :=
  pmk_own PySem.F.excBase_ValueError T.q T.g T.k (raises_own T.b T.t) hg hdb
end
/-! ### what stays of a heap -/
/-- all but F and the tables of code objects is as it was; tuples and the tables T hold on -/
structure Ext (T : List (Addr × Str)) (F : Addr → Prop) (H H' : Hp) : Prop where
  keep : ∀ b o, H b = some o → ¬ F b → (∀ ps, o ≠ .tbl ps) → H' b = some o
  tups : ∀ b xs, H b = some (.tup xs) → H' b = some (.tup xs)
  tabs : Tabs T H → Tabs T H'
theorem same_new {H : Hp} {p : Addr} (h : H p = none) (o : HO) : Same H (upd H p o) := fun b u q => by rw [upd_ne (ne_of_none q h)]; exact q
theorem Ext.same {T : List (Addr × Str)} {F : Addr → Prop} {H H' : Hp} (s : Same H H') : Ext T F H H' := ⟨fun b o h _ _ => s b o h, fun b xs h => s b _ h, fun t => t.ext s⟩
theorem Ext.refl {T : List (Addr × Str)} {F : Addr → Prop} {H : Hp} : Ext T F H H := Ext.same (Same.refl H)
theorem Ext.trans {T : List (Addr × Str)} {F : Addr → Prop} {H H1 H2 : Hp} (a : Ext T F H H1) (b : Ext T F H1 H2) : Ext T F H H2 :=
  ⟨fun c o h n t => b.keep c o (a.keep c o h n t) n t, fun c xs h => b.tups c xs (a.tups c xs h), fun t => b.tabs (a.tabs t)⟩
theorem Ext.wk {T : List (Addr × Str)} {F G : Addr → Prop} {H H' : Hp} (a : Ext T F H H') (h : ∀ b, F b → G b) : Ext T G H H' := ⟨fun b o e n t => a.keep b o e (fun z => n (h b z)) t, a.tups, a.tabs⟩
/-- an object that is no table, no tuple and no code object is written -/
def MutO (u : HO) : Prop := (∀ ps, u ≠ .tbl ps) ∧ (∀ xs, u ≠ .tup xs) ∧ ∀ φ, u ≠ .ext φ
theorem mut_lst {xs : List V} : MutO (.lst xs) := ⟨(fun _ z => by cases z), (fun _ z => by cases z), (fun _ z => by cases z)⟩
theorem mut_dK {xs : List (Key × V)} : MutO (.dK xs) := ⟨(fun _ z => by cases z), (fun _ z => by cases z), (fun _ z => by cases z)⟩
theorem tabs_upd {T : List (Addr × Str)} {H : Hp} {a : Addr} {o u : HO} (h : H a = some u) (hu : MutO u) (t : Tabs T H) : Tabs T (upd H a o) := fun p hp => by
  obtain ⟨ps, h1, h2, h3⟩ := t p hp
  refine ⟨ps, ?_, h2, fun pos cv hc => ?_⟩
  · rw [upd_ne (fun z => by rw [z, h] at h1; exact hu.1 _ (Option.some.inj h1))]
    exact h1
  · obtain ⟨c, e1, e2⟩ := h3 pos cv hc
    refine ⟨c, e1, ?_⟩
    rw [upd_ne (fun z => by rw [z, h] at e2; exact hu.2.2 _ (Option.some.inj e2))]
    exact e2
theorem Ext.upd {T : List (Addr × Str)} {F : Addr → Prop} {H : Hp} {a : Addr} {o u : HO} (ha : F a) (h : H a = some u) (hu : MutO u) : Ext T F H (L2.upd H a o) :=
  ⟨fun b v e n _ => by rw [upd_ne (fun z => n (by rw [z]; exact ha))]; exact e, fun b xs e => by
    rw [upd_ne (fun z => by rw [z, h] at e; exact hu.2.1 _ (Option.some.inj e))]
    exact e, tabs_upd h hu⟩
/-- what was written is new -/
theorem Ext.out {T : List (Addr × Str)} {F : Addr → Prop} {H H1 H' : Hp} {p : Addr} (s : Same H H1) (hp : H p = none) (e : Ext T (fun b => F b ∨ b = p) H1 H') : Ext T F H H' :=
  ⟨fun b o h n t => e.keep b o (s b o h) (fun z => z.elim n fun q => by rw [q, hp] at h; cases h) t, fun b xs h => e.tups b xs (s b _ h), fun t => e.tabs (t.ext s)⟩
theorem sameT {K : PySem.W.Frag} {H H' : Hp} {a : Addr} {xs : List V} (s : Same H H') (h : SqT K H a xs) : SqT K H' a xs := by
  rcases h with (h | ⟨o, h⟩) | h
  · exact .inl (.inl (s _ _ h))
  · exact .inl (.inr ⟨o, s _ _ h⟩)
  · exact .inr h
/-- a tuple that stands by itself, or in the written part -/
def Tu (K : PySem.W.Frag) (H : Hp) (a : Addr) (xs : List V) : Prop := H a = some (.tup xs) ∨ ∃ (o : Obj) (its : Array Value) (n : Nat), K.lookup a = some o ∧ o.cls = .type "tuple" ∧ o.data = .seq its n ∧ its.size ≤ sizeLine ∧ Vals xs its.toList
theorem Tu.sq {K : PySem.W.Frag} {H : Hp} {a : Addr} {xs : List V} (h : Tu K H a xs) : SqT K H a xs := h.elim (fun h => .inl (.inl h)) .inr
theorem Tu.ext {K : PySem.W.Frag} {T : List (Addr × Str)} {F : Addr → Prop} {H H' : Hp} {a : Addr} {xs : List V} (e : Ext T F H H') (h : Tu K H a xs) : Tu K H' a xs := h.imp (e.tups _ _) id
theorem Tu.same {K : PySem.W.Frag} {H H' : Hp} {a : Addr} {xs : List V} (e : Same H H') (h : Tu K H a xs) : Tu K H' a xs := h.imp (e _ _) id
/-- a list that nobody of F writes -/
def Li (F : Addr → Prop) (H : Hp) (a : Addr) (xs : List V) : Prop := H a = some (.lst xs) ∧ ¬ F a
theorem Li.ext {T : List (Addr × Str)} {F : Addr → Prop} {H H' : Hp} {a : Addr} {xs : List V} (e : Ext T F H H') (h : Li F H a xs) : Li F H' a xs := ⟨e.keep _ _ h.1 h.2 (fun _ z => nomatch z), h.2⟩
theorem Li.sq {F : Addr → Prop} {K : PySem.W.Frag} {H : Hp} {a : Addr} {xs : List V} (h : Li F H a xs) : SqL K H a xs := SqL.of h.1
theorem small {n : Nat} (h : n ≤ 1000000) : n ≤ sizeLine := Nat.le_trans h (by decide)
theorem smallt {n : Nat} (h : n ≤ 1000000) : n < sizeLine := Nat.lt_of_le_of_lt h (by decide)
end Cov
/-! M: the plain mathematics of sentences and their words. -/
namespace K14
open PySem
inductive Sn where
  | is (p a : Nat)
  | no (s : Sn)
  | both (s t : Sn)
  | either (s t : Sn)
def num (n : Nat) : Str := Str.ofString (toString ((n : Nat) : Int))
def wIs : Str := Str.ofString "is"
def wNo : Str := Str.ofString "no"
def wBoth : Str := Str.ofString "both"
def wEither : Str := Str.ofString "either"
def Sn.words : Sn → List Str
  | .is p a => [wIs, num p, num a]
  | .no s => wNo :: s.words
  | .both s t => wBoth :: (s.words ++ t.words)
  | .either s t => wEither :: (s.words ++ t.words)
def Sn.ok (P : Nat) : Nat → Sn → Prop
  | 0, _ => False
  | d + 1, .is p a => p < P ∧ a < 2
  | d + 1, .no s => s.ok P d
  | d + 1, .both s t => s.ok P d ∧ t.ok P d
  | d + 1, .either s t => s.ok P d ∧ t.ok P d
/-- the number below n whose figures a word is -/
def dig? (n : Nat) (x : Str) : Option Nat := (List.range n).find? fun k => decide (num k = x)
def rd (P : Nat) (ws : List Str) : Nat → Nat → Except Nat (Sn × Nat)
  | 0, i => .error i
  | d + 1, i => match ws[i]? with
    | none => .error i
    | some w =>
      if w = wIs then
        match (ws[i+1]?).bind (dig? P) with
        | none => .error (i+1)
        | some p => match (ws[i+2]?).bind (dig? 2) with
          | none => .error (i+2)
          | some a => .ok (.is p a, i+3)
      else if d = 0 then .error i
      else if w = wNo then
        match rd P ws d (i+1) with
        | .error e => .error e
        | .ok (s, k) => .ok (.no s, k)
      else if w = wBoth then
        match rd P ws d (i+1) with
        | .error e => .error e
        | .ok (s, k) => match rd P ws d k with
          | .error e => .error e
          | .ok (t, l) => .ok (.both s t, l)
      else if w = wEither then
        match rd P ws d (i+1) with
        | .error e => .error e
        | .ok (s, k) => match rd P ws d k with
          | .error e => .error e
          | .ok (t, l) => .ok (.either s t, l)
      else .error i
def readAll (P : Nat) (ws : List Str) : Except Nat Sn := match rd P ws 8 0 with
  | .error e => .error e
  | .ok (s, k) => if k < ws.length then .error k else .ok s

theorem dig_some {n : Nat} {x : Str} {k : Nat} (h : dig? n x = some k) : k < n ∧ num k = x := by
  unfold dig? at h
  exact ⟨List.mem_range.mp (List.mem_of_find?_eq_some h), by have := List.find?_some h; simpa using this⟩
theorem dig_none {n : Nat} {x : Str} (h : dig? n x = none) : ∀ k, k < n → num k ≠ x := by
  unfold dig? at h
  intro k hk e
  have := List.find?_eq_none.mp h k (List.mem_range.mpr hk)
  simp [e] at this
theorem get_lt {α : Type} {l : List α} {i : Nat} {x : α} (h : l[i]? = some x) : i < l.length := (List.getElem?_eq_some_iff.mp h).1
theorem bind_some_lt {ws : List Str} {i n p : Nat} (h : (ws[i]?).bind (dig? n) = some p) : i < ws.length ∧ p < n := by
  cases e : ws[i]? with
  | none => rw [e] at h; cases h
  | some x =>
    rw [e] at h
    exact ⟨get_lt e, (dig_some h).1⟩
/-- where a reading ends, and what it is -/
theorem rd_facts (P : Nat) (ws : List Str) : ∀ (d i : Nat), i ≤ ws.length → match rd P ws d i with
    | .error e => e ≤ ws.length
    | .ok (s, k) => i < k ∧ k ≤ ws.length ∧ s.ok P d := by
  intro d
  induction d with
  | zero => intro i hi; exact hi
  | succ d ih =>
    intro i hi
    unfold rd
    cases e : ws[i]? with
    | none => exact hi
    | some w =>
      have hlt := get_lt e
      dsimp only
      by_cases h1 : w = wIs
      · rw [if_pos h1]
        cases e1 : (ws[i+1]?).bind (dig? P) with
        | none => exact hlt
        | some p =>
          have h2 := bind_some_lt e1
          dsimp only
          cases e2 : (ws[i+2]?).bind (dig? 2) with
          | none => show i + 2 ≤ ws.length; omega
          | some a =>
            have h3 := bind_some_lt e2
            exact ⟨by omega, by omega, h2.2, h3.2⟩
      · rw [if_neg h1]
        by_cases h0 : d = 0
        · rw [if_pos h0]; exact hi
        · rw [if_neg h0]
          have ih1 := ih (i+1) hlt
          by_cases h2 : w = wNo
          · rw [if_pos h2]
            cases r : rd P ws d (i+1) with
            | error e => rw [r] at ih1; exact ih1
            | ok q =>
              obtain ⟨s, k⟩ := q
              rw [r] at ih1
              dsimp only at ih1 ⊢
              exact ⟨by omega, ih1.2.1, ih1.2.2⟩
          · rw [if_neg h2]
            by_cases h3 : w = wBoth
            · rw [if_pos h3]
              cases r : rd P ws d (i+1) with
              | error e => rw [r] at ih1; exact ih1
              | ok q =>
                obtain ⟨s, k⟩ := q
                rw [r] at ih1
                dsimp only at ih1 ⊢
                have ih2 := ih k ih1.2.1
                cases r2 : rd P ws d k with
                | error e => rw [r2] at ih2; exact ih2
                | ok q2 =>
                  obtain ⟨t, l⟩ := q2
                  rw [r2] at ih2
                  dsimp only at ih2 ⊢
                  exact ⟨by omega, ih2.2.1, ih1.2.2, ih2.2.2⟩
            · rw [if_neg h3]
              by_cases h4 : w = wEither
              · rw [if_pos h4]
                cases r : rd P ws d (i+1) with
                | error e => rw [r] at ih1; exact ih1
                | ok q =>
                  obtain ⟨s, k⟩ := q
                  rw [r] at ih1
                  dsimp only at ih1 ⊢
                  have ih2 := ih k ih1.2.1
                  cases r2 : rd P ws d k with
                  | error e => rw [r2] at ih2; exact ih2
                  | ok q2 =>
                    obtain ⟨t, l⟩ := q2
                    rw [r2] at ih2
                    dsimp only at ih2 ⊢
                    exact ⟨by omega, ih2.2.1, ih1.2.2, ih2.2.2⟩
              · rw [if_neg h4]; exact hi
theorem rd_err {P : Nat} {ws : List Str} {d i e : Nat} (hi : i ≤ ws.length) (h : rd P ws d i = .error e) : e ≤ ws.length := by
  have := rd_facts P ws d i hi
  rw [h] at this
  exact this
theorem rd_ok {P : Nat} {ws : List Str} {d i k : Nat} {s : Sn} (hi : i ≤ ws.length) (h : rd P ws d i = .ok (s, k)) : i < k ∧ k ≤ ws.length ∧ s.ok P d := by
  have := rd_facts P ws d i hi
  rw [h] at this
  exact this
theorem words_pos : ∀ s : Sn, 1 ≤ s.words.length
  | .is _ _ => by show 1 ≤ 3; decide
  | .no s => by show 1 ≤ s.words.length + 1; omega
  | .both s t => by show 1 ≤ (s.words ++ t.words).length + 1; omega
  | .either s t => by show 1 ≤ (s.words ++ t.words).length + 1; omega
theorem dig_num : ∀ n : Nat, n ≤ 6 → ∀ k : Nat, k < n → dig? n (num k) = some k := by decide +kernel
theorem ne_no : wNo ≠ wIs := by decide +kernel
theorem ne_both : wBoth ≠ wIs := by decide +kernel
theorem ne_both2 : wBoth ≠ wNo := by decide +kernel
theorem ne_either : wEither ≠ wIs := by decide +kernel
theorem ne_either2 : wEither ≠ wNo := by decide +kernel
theorem ne_either3 : wEither ≠ wBoth := by decide +kernel
/-- the words of a sentence read back -/
theorem rd_words {P : Nat} (hP : P ≤ 6) : ∀ (s : Sn) (d : Nat) (pre post : List Str), s.ok P d → rd P (pre ++ (s.words ++ post)) d pre.length = .ok (s, pre.length + s.words.length) := by
  intro s
  induction s with
  | is p a =>
    intro d pre post h
    cases d with
    | zero => exact h.elim
    | succ d =>
      obtain ⟨h1, h2⟩ := h
      have e0 : (pre ++ ((Sn.is p a).words ++ post))[pre.length]? = some wIs := by simp [Sn.words]
      have e1 : (pre ++ ((Sn.is p a).words ++ post))[pre.length + 1]? = some (num p) := by simp [Sn.words]
      have e2 : (pre ++ ((Sn.is p a).words ++ post))[pre.length + 2]? = some (num a) := by simp [Sn.words]
      unfold rd
      rw [e0, e1, e2]
      dsimp only
      rw [if_pos rfl]
      show (match (dig? P (num p)) with | none => _ | some p => _) = _
      rw [dig_num P hP p h1]
      dsimp only
      show (match (dig? 2 (num a)) with | none => _ | some p => _) = _
      rw [dig_num 2 (by decide) a h2] <;> rfl
  | no s ih =>
    intro d pre post h
    cases d with
    | zero => exact h.elim
    | succ d =>
      have h' : s.ok P d := h
      have hd : d ≠ 0 := fun z => by rw [z] at h'; exact h'
      have e0 : (pre ++ ((Sn.no s).words ++ post))[pre.length]? = some wNo := by simp [Sn.words]
      have el : pre ++ ((Sn.no s).words ++ post) = (pre ++ [wNo]) ++ (s.words ++ post) := by simp [Sn.words]
      have i1 := ih d (pre ++ [wNo]) post h'
      unfold rd
      rw [e0]
      dsimp only
      rw [if_neg ne_no, if_neg hd, if_pos rfl, el]
      have eln : (pre ++ [wNo]).length = pre.length + 1 := by simp
      rw [eln] at i1
      rw [i1]
      simp [Sn.words, Nat.add_assoc, Nat.add_comm, Nat.add_left_comm]
  | both s t ih1 ih2 =>
    intro d pre post h
    cases d with
    | zero => exact h.elim
    | succ d =>
      have h' : s.ok P d ∧ t.ok P d := h
      have hd : d ≠ 0 := fun z => by rw [z] at h'; exact h'.1
      have e0 : (pre ++ ((Sn.both s t).words ++ post))[pre.length]? = some wBoth := by simp [Sn.words]
      have el : pre ++ ((Sn.both s t).words ++ post) = (pre ++ [wBoth]) ++ (s.words ++ (t.words ++ post)) := by simp [Sn.words]
      have el2 : (pre ++ [wBoth]) ++ (s.words ++ (t.words ++ post)) = (pre ++ [wBoth] ++ s.words) ++ (t.words ++ post) := by simp
      have i1 := ih1 d (pre ++ [wBoth]) (t.words ++ post) h'.1
      have i2 := ih2 d (pre ++ [wBoth] ++ s.words) post h'.2
      have eln : (pre ++ [wBoth]).length = pre.length + 1 := by simp
      have eln2 : (pre ++ [wBoth] ++ s.words).length = pre.length + 1 + s.words.length := by simp; omega
      rw [eln] at i1
      rw [eln2] at i2
      unfold rd
      rw [e0]
      dsimp only
      rw [if_neg ne_both, if_neg hd, if_neg ne_both2, if_pos rfl, el, i1]
      dsimp only
      rw [el2, i2]
      simp [Sn.words, Nat.add_assoc, Nat.add_comm, Nat.add_left_comm]
  | either s t ih1 ih2 =>
    intro d pre post h
    cases d with
    | zero => exact h.elim
    | succ d =>
      have h' : s.ok P d ∧ t.ok P d := h
      have hd : d ≠ 0 := fun z => by rw [z] at h'; exact h'.1
      have e0 : (pre ++ ((Sn.either s t).words ++ post))[pre.length]? = some wEither := by simp [Sn.words]
      have el : pre ++ ((Sn.either s t).words ++ post) = (pre ++ [wEither]) ++ (s.words ++ (t.words ++ post)) := by simp [Sn.words]
      have el2 : (pre ++ [wEither]) ++ (s.words ++ (t.words ++ post)) = (pre ++ [wEither] ++ s.words) ++ (t.words ++ post) := by simp
      have i1 := ih1 d (pre ++ [wEither]) (t.words ++ post) h'.1
      have i2 := ih2 d (pre ++ [wEither] ++ s.words) post h'.2
      have eln : (pre ++ [wEither]).length = pre.length + 1 := by simp
      have eln2 : (pre ++ [wEither] ++ s.words).length = pre.length + 1 + s.words.length := by simp; omega
      rw [eln] at i1
      rw [eln2] at i2
      unfold rd
      rw [e0]
      dsimp only
      rw [if_neg ne_either, if_neg hd, if_neg ne_either2, if_neg ne_either3, if_pos rfl, el, i1]
      dsimp only
      rw [el2, i2]
      simp [Sn.words, Nat.add_assoc, Nat.add_comm, Nat.add_left_comm]
theorem readAll_words {P : Nat} (hP : P ≤ 6) {s : Sn} (h : s.ok P 8) : readAll P s.words = .ok s := by
  have e := rd_words hP s 8 [] [] h
  rw [List.nil_append, List.append_nil] at e
  unfold readAll
  have e' : rd P s.words 8 0 = .ok (s, s.words.length) := by simpa using e
  rw [e']
  dsimp only
  rw [if_neg (Nat.lt_irrefl _)]
/-! ### sizes -/
theorem words_len (P : Nat) : ∀ (d : Nat) (s : Sn), s.ok P d → s.words.length + 1 ≤ 2 * 2 ^ d := by
  intro d
  induction d with
  | zero => intro s h; exact h.elim
  | succ d ih =>
    intro s h
    have e : 2 ^ (d + 1) = 2 * 2 ^ d := by rw [Nat.pow_succ]; omega
    have p : 1 ≤ 2 ^ d := Nat.one_le_two_pow
    cases s with
    | is p a => show 3 + 1 ≤ _; omega
    | no s =>
      have := ih s h
      show s.words.length + 1 + 1 ≤ _
      omega
    | both s t =>
      have h1 := ih s h.1
      have h2 := ih t h.2
      show (s.words ++ t.words).length + 1 + 1 ≤ _
      rw [List.length_append]
      omega
    | either s t =>
      have h1 := ih s h.1
      have h2 := ih t h.2
      show (s.words ++ t.words).length + 1 + 1 ≤ _
      rw [List.length_append]
      omega
/-- a word that a text may part -/
def Wk (x : Str) : Prop := x.length ≤ 8 ∧ 32 ∉ x.cps.toList
instance (x : Str) : Decidable (Wk x) := by unfold Wk; exact inferInstance
theorem wk_num : ∀ k : Nat, k < 6 → Wk (num k) := by decide +kernel
theorem wk_words {P : Nat} (hP : P ≤ 6) : ∀ (s : Sn) (d : Nat), s.ok P d → ∀ x ∈ s.words, Wk x := by
  intro s
  induction s with
  | is p a =>
    intro d h x hx
    cases d with
    | zero => exact h.elim
    | succ d =>
      obtain ⟨h1, h2⟩ := h
      have hx' : x ∈ [wIs, num p, num a] := hx
      simp only [List.mem_cons, List.not_mem_nil, or_false] at hx'
      rcases hx' with rfl | rfl | rfl
      · decide +kernel
      · exact wk_num p (by omega)
      · exact wk_num a (by omega)
  | no s ih =>
    intro d h x hx
    cases d with
    | zero => exact h.elim
    | succ d =>
      have hx' : x ∈ wNo :: s.words := hx
      rcases List.mem_cons.mp hx' with rfl | hx
      · decide +kernel
      · exact ih d h x hx
  | both s t ih1 ih2 =>
    intro d h x hx
    cases d with
    | zero => exact h.elim
    | succ d =>
      have hx' : x ∈ wBoth :: (s.words ++ t.words) := hx
      rcases List.mem_cons.mp hx' with rfl | hx
      · decide +kernel
      · rcases List.mem_append.mp hx with hx | hx
        · exact ih1 d h.1 x hx
        · exact ih2 d h.2 x hx
  | either s t ih1 ih2 =>
    intro d h x hx
    cases d with
    | zero => exact h.elim
    | succ d =>
      have hx' : x ∈ wEither :: (s.words ++ t.words) := hx
      rcases List.mem_cons.mp hx' with rfl | hx
      · decide +kernel
      · rcases List.mem_append.mp hx with hx | hx
        · exact ih1 d h.1 x hx
        · exact ih2 d h.2 x hx
/-- a list of words that stays small -/
def Wl (n : Nat) (ws : List Str) : Prop := ws.length ≤ n ∧ ws ≠ [] ∧ ∀ x ∈ ws, Wk x
def sp : Str := Str.ofString " "
theorem sum_len {ws : List Str} (h : ∀ x ∈ ws, Wk x) : (ws.map (·.length)).sum ≤ 8 * ws.length := by
  induction ws with
  | nil => exact Nat.zero_le _
  | cons a r ih =>
    have h1 := (h a (List.mem_cons_self ..)).1
    have h2 := ih fun x hx => h x (List.mem_cons_of_mem _ hx)
    rw [List.map_cons, List.sum_cons, List.length_cons]
    omega
theorem join_fits {n : Nat} {ws : List Str} (h : Wl n ws) (hn : n ≤ 100000) : (ws.map (·.length)).sum + ws.length * sp.length ≤ 16777216 := by
  have h1 := sum_len h.2.2
  have h2 := h.1
  have e : sp.length = 1 := by decide +kernel
  rw [e]
  omega
theorem join_len {n : Nat} {ws : List Str} (h : Wl n ws) (hn : n ≤ 100000) : (Txt.join sp ws).length + 2 ≤ sizeLine := by
  rw [TL.join_eq]
  have h1 := StrLaws.join_length_le sp ws
  have h2 := sum_len h.2.2
  have h3 := h.1
  have e : sp.length = 1 := by decide +kernel
  rw [e] at h1
  rw [sizeLine_eq]
  omega
theorem split_joined {n : Nat} {ws : List Str} (h : Wl n ws) : Txt.split (Txt.join sp ws) sp = ws :=
  TL.split_join (s := 32) (S := []) (by decide +kernel) (by decide +kernel) h.2.1 fun p hp => (h.2.2 p hp).2
/-! ### figures read as numbers -/
theorem int_num : ∀ k : Nat, k < 6 → PySem.intText? (num k) = some (k : Int) := by decide +kernel
theorem num_len : ∀ k : Nat, k < 6 → (num k).length ≤ 640 := by decide +kernel
end K14
/-! C5: sentences in a heap. -/
namespace K14
open PySem PySem.Spec PyProof.Rows L2 LamX Cov
/-- v is a sentence's value -/
inductive RpS (H : Hp) : V → Sn → Prop
  | is {x : Addr} {p a : Nat} (e : H x = some (.tup [.str wIs, .int p, .int a])) : RpS H (.ref x) (.is p a)
  | no {x : Addr} {v : V} {s : Sn} (e : H x = some (.tup [.str wNo, v])) (h : RpS H v s) : RpS H (.ref x) (.no s)
  | both {x : Addr} {v u : V} {s t : Sn} (e : H x = some (.tup [.str wBoth, v, u])) (h : RpS H v s) (k : RpS H u t) : RpS H (.ref x) (.both s t)
  | either {x : Addr} {v u : V} {s t : Sn} (e : H x = some (.tup [.str wEither, v, u])) (h : RpS H v s) (k : RpS H u t) : RpS H (.ref x) (.either s t)
theorem RpS.tups {H H' : Hp} (e : ∀ b xs, H b = some (.tup xs) → H' b = some (.tup xs)) {v : V} {s : Sn} (h : RpS H v s) : RpS H' v s := by
  induction h with
  | is q => exact .is (e _ _ q)
  | no q _ ih => exact .no (e _ _ q) ih
  | both q _ _ i1 i2 => exact .both (e _ _ q) i1 i2
  | either q _ _ i1 i2 => exact .either (e _ _ q) i1 i2
theorem RpS.ext {T : List (Addr × Str)} {F : Addr → Prop} {H H' : Hp} (e : Ext T F H H') {v : V} {s : Sn} (h : RpS H v s) : RpS H' v s := h.tups e.tups
theorem RpS.same {H H' : Hp} (e : Same H H') {v : V} {s : Sn} (h : RpS H v s) : RpS H' v s := h.tups fun b xs q => e b _ q
/-- values of sentences -/
def RpA (H : Hp) : List V → List Sn → Prop := Paired (RpS H)
theorem RpA.same {H H' : Hp} (e : Same H H') {vs : List V} {ss : List Sn} (h : RpA H vs ss) : RpA H' vs ss := Paired.mapP h fun _ _ q => q.same e
theorem RpA.ext {T : List (Addr × Str)} {F : Addr → Prop} {H H' : Hp} (e : Ext T F H H') {vs : List V} {ss : List Sn} (h : RpA H vs ss) : RpA H' vs ss := Paired.mapP h fun _ _ q => q.ext e
/-- the word of a part's kind, and how many parts -/
def kinds (w : Str) : Option Nat := if w = wNo then some 1 else if w = wBoth then some 2 else if w = wEither then some 2 else none
/-- the parts of a sentence that is no "is" -/
inductive Pts : Sn → Str → List Sn → Prop
  | no (s : Sn) : Pts (.no s) wNo [s]
  | both (s t : Sn) : Pts (.both s t) wBoth [s, t]
  | either (s t : Sn) : Pts (.either s t) wEither [s, t]
theorem Pts.kind {s : Sn} {w : Str} {ss : List Sn} (h : Pts s w ss) : kinds w = some ss.length ∧ w ≠ wIs ∧ 1 ≤ ss.length ∧ ss.length ≤ 2 := by
  cases h with
  | no s => exact ⟨(by decide +kernel : kinds wNo = some 1), by decide +kernel, Nat.le_refl 1, (by decide : (1 : Nat) ≤ 2)⟩
  | both s t => exact ⟨(by decide +kernel : kinds wBoth = some 2), by decide +kernel, (by decide : (1 : Nat) ≤ 2), Nat.le_refl 2⟩
  | either s t => exact ⟨(by decide +kernel : kinds wEither = some 2), by decide +kernel, (by decide : (1 : Nat) ≤ 2), Nat.le_refl 2⟩
theorem Pts.words {s : Sn} {w : Str} {ss : List Sn} (h : Pts s w ss) : s.words = w :: (ss.map Sn.words).flatten := by
  cases h <;> simp [Sn.words]
theorem Pts.ok {s : Sn} {w : Str} {ss : List Sn} (h : Pts s w ss) {P d : Nat} (k : s.ok P (d + 1)) : ∀ t ∈ ss, t.ok P d := by
  cases h with
  | no s => intro t ht; obtain rfl := List.mem_singleton.mp ht; exact k
  | both s t =>
    intro z hz
    rcases List.mem_cons.mp hz with rfl | hz
    · exact k.1
    · obtain rfl := List.mem_singleton.mp hz; exact k.2
  | either s t =>
    intro z hz
    rcases List.mem_cons.mp hz with rfl | hz
    · exact k.1
    · obtain rfl := List.mem_singleton.mp hz; exact k.2
theorem Pts.uniq {s t : Sn} {w : Str} {ss : List Sn} (h : Pts s w ss) (k : Pts t w ss) : s = t := by
  cases h <;> cases k <;> first | rfl | (exfalso; revert k; decide)
/-- how a sentence's value looks -/
theorem RpS.view {H : Hp} {v : V} {s : Sn} (h : RpS H v s) : (∃ x p a, s = .is p a ∧ v = .ref x ∧ H x = some (.tup [.str wIs, .int (p : Nat), .int (a : Nat)])) ∨
    ∃ x w vs ss, Pts s w ss ∧ v = .ref x ∧ H x = some (.tup (.str w :: vs)) ∧ RpA H vs ss := by
  cases h with
  | is e => exact .inl ⟨_, _, _, rfl, rfl, e⟩
  | no e h => exact .inr ⟨_, _, _, _, .no _, rfl, e, .cons h .nil⟩
  | both e h k => exact .inr ⟨_, _, _, _, .both _ _, rfl, e, .cons h (.cons k .nil)⟩
  | either e h k => exact .inr ⟨_, _, _, _, .either _ _, rfl, e, .cons h (.cons k .nil)⟩
theorem RpS.of {H : Hp} {x : Addr} {w : Str} {vs : List V} {ss : List Sn} {s : Sn} (p : Pts s w ss) (e : H x = some (.tup (.str w :: vs))) (r : RpA H vs ss) : RpS H (.ref x) s := by
  cases p with
  | no s =>
    cases r with
    | cons r1 r => cases r; exact .no e r1
  | both s t =>
    cases r with
    | cons r1 r =>
      cases r with
      | cons r2 r => cases r; exact .both e r1 r2
  | either s t =>
    cases r with
    | cons r1 r =>
      cases r with
      | cons r2 r => cases r; exact .either e r1 r2
/-! ### as data -/
def Sn.data : Sn → PyData
  | .is p a => .tuple [.str wIs, .int p, .int a]
  | .no s => .tuple [.str wNo, s.data]
  | .both s t => .tuple [.str wBoth, s.data, t.data]
  | .either s t => .tuple [.str wEither, s.data, t.data]
theorem RpS.dp {K : PySem.W.Frag} {H : Hp} {v : V} {s : Sn} (h : RpS H v s) : Dp K H v s.data := by
  induction h with
  | is e => exact .tup (SqT.of e) (.cons (.str _) (.cons (.int _) (.cons (.int _) .nil)))
  | no e _ ih => exact .tup (SqT.of e) (.cons (.str _) (.cons ih .nil))
  | both e _ _ i1 i2 => exact .tup (SqT.of e) (.cons (.str _) (.cons i1 (.cons i2 .nil)))
  | either e _ _ i1 i2 => exact .tup (SqT.of e) (.cons (.str _) (.cons i1 (.cons i2 .nil)))
theorem so1 : PyData.strOk wIs = true := by decide +kernel
theorem so2 : PyData.strOk wNo = true := by decide +kernel
theorem so3 : PyData.strOk wBoth = true := by decide +kernel
theorem so4 : PyData.strOk wEither = true := by decide +kernel
theorem data_lay {P : Nat} : ∀ (s : Sn) (d : Nat), s.ok P d → s.data.canLay0 = true ∧ s.data.depth ≤ d := by
  intro s
  induction s with
  | is p a =>
    intro d h
    cases d with
    | zero => exact h.elim
    | succ d => exact ⟨by simp [Sn.data, PyData.canLay0, PyData.canLayAll0, so1], by simp [Sn.data, PyData.depth, PyData.depthAll]⟩
  | no s ih =>
    intro d h
    cases d with
    | zero => exact h.elim
    | succ d =>
      obtain ⟨h1, h2⟩ := ih d h
      refine ⟨by simp [Sn.data, PyData.canLay0, PyData.canLayAll0, h1, so2], ?_⟩
      simp [Sn.data, PyData.depth, PyData.depthAll]
      omega
  | both s t i1 i2 =>
    intro d h
    cases d with
    | zero => exact h.elim
    | succ d =>
      obtain ⟨h1, h2⟩ := i1 d h.1
      obtain ⟨h3, h4⟩ := i2 d h.2
      refine ⟨by simp [Sn.data, PyData.canLay0, PyData.canLayAll0, h1, h3, so3, so4], ?_⟩
      simp [Sn.data, PyData.depth, PyData.depthAll]
      omega
  | either s t i1 i2 =>
    intro d h
    cases d with
    | zero => exact h.elim
    | succ d =>
      obtain ⟨h1, h2⟩ := i1 d h.1
      obtain ⟨h3, h4⟩ := i2 d h.2
      refine ⟨by simp [Sn.data, PyData.canLay0, PyData.canLayAll0, h1, h3, so3, so4], ?_⟩
      simp [Sn.data, PyData.depth, PyData.depthAll]
      omega
theorem data_shaped {P d : Nat} {s : Sn} (h : s.ok P d) (hd : d ≤ 60) : SeqAt.shaped s.data = true := by
  obtain ⟨h1, h2⟩ := data_lay s d h
  unfold SeqAt.shaped
  rw [h1, decide_eq_true (by omega)] <;> rfl
theorem data_ne_nil (s : Sn) : PyData.eqv s.data (.tuple []) = false := by
  cases s <;> simp [Sn.data, PyData.eqv, PyData.eqvAll]
/-! ### reading several parts in a row -/
def rdN (P : Nat) (ws : List Str) (d : Nat) : Nat → Nat → Except Nat (List Sn × Nat)
  | 0, i => .ok ([], i)
  | m + 1, i => match rdN P ws d m i with
    | .error e => .error e
    | .ok (ss, k) => match rd P ws d k with
      | .error e => .error e
      | .ok (s, l) => .ok (ss ++ [s], l)
theorem rdN_facts {P : Nat} {ws : List Str} {d : Nat} : ∀ (m i : Nat), i ≤ ws.length → match rdN P ws d m i with
    | .error e => e ≤ ws.length
    | .ok (ss, k) => k ≤ ws.length ∧ ss.length = m ∧ ∀ s ∈ ss, s.ok P d := by
  intro m
  induction m with
  | zero => intro i hi; exact ⟨hi, rfl, fun s hs => nomatch hs⟩
  | succ m ih =>
    intro i hi
    have h := ih i hi
    unfold rdN
    cases r : rdN P ws d m i with
    | error e => rw [r] at h; exact h
    | ok q =>
      obtain ⟨ss, k⟩ := q
      rw [r] at h
      dsimp only at h ⊢
      have f := rd_facts P ws d k h.1
      cases r2 : rd P ws d k with
      | error e => rw [r2] at f; exact f
      | ok q2 =>
        obtain ⟨s, l⟩ := q2
        rw [r2] at f
        dsimp only at f ⊢
        refine ⟨f.2.1, by rw [List.length_append, h.2.1]; rfl, fun t ht => ?_⟩
        rcases List.mem_append.mp ht with ht | ht
        · exact h.2.2 t ht
        · obtain rfl := List.mem_singleton.mp ht; exact f.2.2
/-- a reading that is no "is" -/
theorem rd_parts {P : Nat} {ws : List Str} {d i : Nat} {w : Str} (hw : ws[i]? = some w) (h1 : w ≠ wIs) (h0 : d ≠ 0) {m : Nat} (hk : kinds w = some m) :
    match rdN P ws d m (i + 1) with
    | .error e => rd P ws (d + 1) i = .error e
    | .ok (ss, k) => ∃ s, Pts s w ss ∧ rd P ws (d + 1) i = .ok (s, k) := by
  unfold rd
  rw [hw]
  dsimp only
  rw [if_neg h1, if_neg h0]
  unfold kinds at hk
  by_cases h2 : w = wNo
  · rw [if_pos h2] at hk ⊢
    cases hk
    unfold rdN rdN
    dsimp only
    cases rd P ws d (i + 1) with
    | error e => rfl
    | ok q => exact ⟨_, by rw [h2]; exact .no _, rfl⟩
  · rw [if_neg h2] at hk ⊢
    by_cases h3 : w = wBoth
    · rw [if_pos h3] at hk ⊢
      cases hk
      unfold rdN rdN rdN
      dsimp only
      cases rd P ws d (i + 1) with
      | error e => rfl
      | ok q =>
        dsimp only
        cases rd P ws d q.2 with
        | error e => rfl
        | ok q2 => exact ⟨_, by rw [h3]; exact .both _ _, rfl⟩
    · rw [if_neg h3] at hk ⊢
      by_cases h4 : w = wEither
      · rw [if_pos h4] at hk ⊢
        cases hk
        unfold rdN rdN rdN
        dsimp only
        cases rd P ws d (i + 1) with
        | error e => rfl
        | ok q =>
          dsimp only
          cases rd P ws d q.2 with
          | error e => rfl
          | ok q2 => exact ⟨_, by rw [h4]; exact .either _ _, rfl⟩
      · rw [if_neg h4] at hk
        cases hk
theorem rd_bad {P : Nat} {ws : List Str} {d i : Nat} {w : Str} (hw : ws[i]? = some w) (h1 : w ≠ wIs) (hk : kinds w = none ∨ d = 0) : rd P ws (d + 1) i = .error i := by
  unfold rd
  rw [hw]
  dsimp only
  rw [if_neg h1]
  by_cases h0 : d = 0
  · rw [if_pos h0]
  · rw [if_neg h0]
    rcases hk with hk | hk
    · unfold kinds at hk
      by_cases h2 : w = wNo
      · rw [if_pos h2] at hk; cases hk
      · rw [if_neg h2] at hk ⊢
        by_cases h3 : w = wBoth
        · rw [if_pos h3] at hk; cases hk
        · rw [if_neg h3] at hk ⊢
          by_cases h4 : w = wEither
          · rw [if_pos h4] at hk; cases hk
          · rw [if_neg h4]
    · exact absurd hk h0
/-- a reading of an "is" -/
theorem rd_is {P : Nat} {ws : List Str} {d i : Nat} (hw : ws[i]? = some wIs) : rd P ws (d + 1) i = match (ws[i+1]?).bind (dig? P) with
    | none => .error (i+1)
    | some p => match (ws[i+2]?).bind (dig? 2) with
      | none => .error (i+2)
      | some a => .ok (.is p a, i+3) := by
  conv => lhs; unfold rd
  rw [hw]
  dsimp only
  rw [if_pos rfl]
  all_goals (generalize (ws[i+1]?).bind (dig? P) = u; cases u <;> first | rfl | (generalize (ws[i+2]?).bind (dig? 2) = v; cases v <;> rfl))
theorem rd_end {P : Nat} {ws : List Str} {d i : Nat} (hw : ws[i]? = none ∨ d = 0) : rd P ws d i = .error i := by
  cases d with
  | zero => rfl
  | succ d =>
    rcases hw with hw | hw
    · unfold rd
      rw [hw]
    · cases hw
end K14
/-! C6: small facts for the walks. -/
namespace K14
open PySem PySem.Spec PyProof.Rows L2 LamX Cov
theorem RpA.get {H : Hp} : ∀ {vs : List V} {ss : List Sn}, RpA H vs ss → ∀ {i : Nat} {x : V}, vs[i]? = some x → ∃ s, ss[i]? = some s ∧ RpS H x s := fun h _ _ e => L2.paired_get h e
theorem RpA.len {H : Hp} {vs : List V} {ss : List Sn} (h : RpA H vs ss) : vs.length = ss.length := by
  induction h with
  | nil => rfl
  | cons _ _ ih => simp [ih]
theorem RpA.snoc {H : Hp} {vs : List V} {ss : List Sn} {v : V} {s : Sn} (h : RpA H vs ss) (k : RpS H v s) : RpA H (vs ++ [v]) (ss ++ [s]) := by
  induction h with
  | nil => exact .cons k .nil
  | cons a _ ih => exact .cons a ih
theorem cut1 (x : V) (xs : List V) : cutV (x :: xs) (some 1) none = xs := by
  unfold cutV HT.sIx
  simp
  try omega
theorem cut1_ne (x : V) (xs : List V) : ¬ (HT.sIx (x :: xs).length 0 (some 1) = 0 ∧ HT.sIx (x :: xs).length (x :: xs).length none = (x :: xs).length) := by
  unfold HT.sIx
  simp
  try omega
theorem rep_snoc {α : Type} (n : Nat) (a : α) : List.replicate n a ++ [a] = List.replicate (n + 1) a := by
  rw [List.replicate_succ']
theorem rep_map (n : Nat) : (List.replicate n true).map V.bl = List.replicate n (V.bl true) := List.map_replicate
theorem rep_all (n : Nat) : (List.replicate n true).all id = true := by simp
theorem upd_same2 {H : Hp} {a : Addr} {o u : HO} : upd (upd H a o) a u = upd H a u := by
  funext b
  unfold upd
  split <;> rfl
/-- Same on, past a new object that is written over -/
theorem same_over {H H' : Hp} {p : Addr} (h : H p = none) (s : Same H H') (o : HO) : Same H (upd H' p o) := fun b u q => by rw [upd_ne (ne_of_none q h)]; exact s b u q
theorem same_up {H H' : Hp} {p : Addr} {o : HO} (h : H p = none) (s : Same (upd H p o) H') : Same H H' := fun b u q => s b u (by rw [upd_ne (ne_of_none q h)]; exact q)
theorem lg {i : Int} (h : i.natAbs < 2 ^ 1000) : i.natAbs.log2 < 1920 := by
  by_cases z : i.natAbs = 0
  · rw [z]; decide
  · exact (Nat.log2_lt z).mpr (Nat.lt_trans h (Nat.pow_lt_pow_right (by decide) (by decide)))
theorem lgn {n : Nat} (h : n ≤ 100) : ((n : Nat) : Int).natAbs.log2 < 1920 := lg (Nat.lt_of_le_of_lt (by simpa using h) (by decide +kernel : (100 : Nat) < 2 ^ 1000))
theorem flat_take {ss : List Sn} {i : Nat} {s : Sn} (h : ss[i]? = some s) : ((ss.take (i + 1)).map Sn.words).flatten = ((ss.take i).map Sn.words).flatten ++ s.words := by
  rw [List.take_add_one, h]
  simp
theorem flat_le {ss : List Sn} {i : Nat} : ((ss.take i).map Sn.words).flatten.length ≤ (ss.map Sn.words).flatten.length := by
  conv => rhs; rw [← List.take_append_drop i ss]
  simp only [List.map_append, List.flatten_append, List.length_append]
  omega
theorem find_any {α : Type} (p : α → Bool) : ∀ l : List α, (l.find? p).isSome = l.any p
  | [] => rfl
  | x :: l => by
    rw [List.find?_cons, List.any_cons]
    cases h : p x with
    | true => rfl
    | false => rw [Bool.false_or]; exact find_any p l
theorem inV_num (n : Nat) (x : Str) : inV (.str x) (((List.range n).map num).map .str) = (dig? n x).isSome := by
  unfold inV dig?
  rw [List.map_map, List.any_map, find_any]
  congr 1
end K14
/-! D1: the package's defs: numbers, sentences, their words. -/
namespace K14
open PySem PySem.Spec PyProof.Rows L2 LamX Cov
def topS (i : Nat) : Stmt := PySem.Challenge.pw_coverbut_k14_texts_of_sentences.main.body.getD i (.Pass ⟨0, 0, 0, 0⟩)
abbrev sis_number : Stmt := topS 7
abbrev sis_between : Stmt := topS 8
abbrev ssentence_right : Stmt := topS 13
abbrev sneed_sentence : Stmt := topS 14
abbrev sneed_place_count : Stmt := topS 15
abbrev swords_of : Stmt := topS 16
abbrev ssentence_text : Stmt := topS 17
abbrev sread_part : Stmt := topS 18
abbrev sneed_digit : Stmt := topS 19
abbrev sread_sentence : Stmt := topS 20
abbrev s_law_begun : Stmt := topS 22
abbrev s_law_blended : Stmt := topS 23
abbrev s_law_draw : Stmt := topS 24
abbrev s_law_pick : Stmt := topS 25
abbrev s_law_caught : Stmt := topS 26
abbrev s_law_is_whole : Stmt := topS 27
abbrev s_law_said : Stmt := topS 28
abbrev s_law_deep : Stmt := topS 29
abbrev s_law_words : Stmt := topS 30
abbrev s_law_part : Stmt := topS 31
abbrev s_law_read : Stmt := topS 32
abbrev s_law_read_right : Stmt := topS 33
abbrev s_law_bent : Stmt := topS 34
abbrev slaw : Stmt := topS 35
/-- one step of a reading -/
local macro_rules | `(tactic| walk_at "s") => `(tactic| first | refine ⟨_, rfl, ?_⟩ | refine ⟨_, _, rfl, rfl, ?_⟩ | refine ⟨rfl, ?_⟩)
local macro_rules | `(tactic| walk_at "ss") => `(tactic| repeat walk_at "s")
abbrev FnP (K : PySem.W.Frag) (x : Str) (st : Stmt) (f : Addr) (fd : FuncData) : Prop := FunD K x x (defArgs st) (defBody st) (defScope st) [] [] f fd
section
variable {P : Program} {w : World} {K : PySem.W.Frag} {mg : Str → Option Value} {base : Heap}
theorem isi_int {H : Hp} (i : Int) : TyX K H (.int i) (.type "int") := .base (.int i)
theorem isi_bl {H : Hp} (i : Bool) : TyX K H (.bl i) (.type "bool") := .base (.bl i)
theorem isi_non {H : Hp} : TyX K H .non (.type "NoneType") := .base .non
theorem isi_str {H : Hp} (x : Str) : TyX K H (.str x) (.type "str") := .base (.str x)
theorem isi_tup {H : Hp} {a : Addr} {xs : List V} (e : H a = some (.tup xs)) : TyX K H (.ref a) (.type "tuple") := .base (.tup e)
theorem isi_lst {H : Hp} {a : Addr} {xs : List V} (e : H a = some (.lst xs)) : TyX K H (.ref a) (.type "list") := .base (.lst e)
theorem scis_number : FnScope ["thing"] ["thing"] (defScope sis_number) := ⟨rfl, rfl, rfl, by decide +kernel, rfl, by decide +kernel, by decide +kernel⟩
/-- is_number(thing) -/
def spNum : Sp := fun vs H Q _ => ∃ x, vs = [x] ∧ ((∃ i, x = .int i ∧ Q (.bl true) H) ∨ ((∃ b, x = .bl b) ∧ Q (.bl false) H) ∨ (x = .non ∧ Q (.bl false) H))
theorem ok_is_number {f : Addr} {fd : FuncData} (F : FnP K "is_number" sis_number f fd) (Z : Zs mg) : FnOk P w K mg base (L2.CX P w) 1 f fd ["thing"] spNum := by
  refine F.ok scis_number (fun vs H Q E h => ?_) (fun cdv A outer s H vs Q E hr h => ?_)
  · obtain ⟨x, rfl, _⟩ := h
    rfl
  obtain ⟨x, rfl, h⟩ := h
  refine ⟨_, (pss_one (ps_ret (pe_and (pe_callB call_isi (by rfl) Z.isinstance_ (by decide +kernel) (pa_cons (pv 0) (pa_cons (pe_bltn (v := .ty "int") (by rfl) Z.int_ (by decide +kernel) rfl) pa_nil))) (pe_one (pe_not (pe_callB call_isi (by rfl) Z.isinstance_ (by decide +kernel) (pa_cons (pv 0) (pa_cons (pe_bltn (v := .ty "bool") (by rfl) Z.bool_ (by decide +kernel) rfl) pa_nil)))))))), ?_⟩
  rcases h with ⟨i, rfl, h⟩ | ⟨⟨b, rfl⟩, h⟩ | ⟨rfl, h⟩
  · walk_at "ss"
    refine ⟨_, _, _, _, true, rfl, .ty _, isi_int i, kit_ty (by decide +kernel), ?_⟩
    walk_at "ss"
    refine ⟨_, _, _, _, false, rfl, .ty _, isi_int i, kit_ty (by decide +kernel), ?_⟩
    walk_at "ss"
    exact h
  · walk_at "ss"
    refine ⟨_, _, _, _, true, rfl, .ty _, isi_bl b, kit_ty (by decide +kernel), ?_⟩
    walk_at "ss"
    refine ⟨_, _, _, _, true, rfl, .ty _, isi_bl b, kit_ty (by decide +kernel), ?_⟩
    walk_at "ss"
    exact h
  · walk_at "ss"
    refine ⟨_, _, _, _, false, rfl, .ty _, isi_non, kit_ty (by decide +kernel), ?_⟩
    walk_at "ss"
    exact h
theorem scis_between : FnScope ["thing", "low", "high"] ["thing", "low", "high"] (defScope sis_between) := ⟨rfl, rfl, rfl, by decide +kernel, rfl, by decide +kernel, by decide +kernel⟩
/-- is_between(thing, low, high) -/
def spBet : Sp := fun vs H Q _ => ∃ x lo hi, vs = [x, .int lo, .int hi] ∧ ((∃ i, x = .int i ∧ Q (.bl (decide (lo ≤ i) && decide (i ≤ hi))) H) ∨ ((∃ b, x = .bl b) ∧ Q (.bl false) H) ∨ (x = .non ∧ Q (.bl false) H))
theorem ok_is_between {f fis_number : Addr} {fd fdn : FuncData} (F : FnP K "is_between" sis_between f fd) (Gis_number : FnOk P w K mg base (L2.CX P w) 1 fis_number fdn ["thing"] spNum) (Mis_number : Dat K mg "is_number" fis_number fdn ["thing"]) : FnOk P w K mg base (L2.CX P w) 2 f fd ["thing", "low", "high"] spBet := by
  refine F.ok scis_between (fun vs H Q E h => ?_) (fun cdv A outer s H vs Q E hr h => ?_)
  · obtain ⟨x, lo, hi, rfl, _⟩ := h
    rfl
  obtain ⟨x, lo, hi, rfl, h⟩ := h
  refine ⟨_, (pss_one (ps_ret (pe_and (pe_fn Gis_number Mis_number (hr.mono (by omega)) (pa_cons (pv 0) pa_nil)) (pe_one (pe_chain op_le op_le (pv 1) (pv 0) (pv 2)))))), ?_⟩
  rcases h with ⟨i, rfl, h⟩ | ⟨⟨b, rfl⟩, h⟩ | ⟨rfl, h⟩
  · refine ⟨_, rfl, _, rfl, .inl ⟨i, rfl, ?_⟩⟩
    walk_at "ss"
    refine ite2 (fun c => ?_) (fun c => ?_)
    · walk_at "ss"
      rw [c, Bool.true_and] at h
      exact h
    · rw [Bool.eq_false_iff.mpr c, Bool.false_and] at h
      exact h
  · refine ⟨_, rfl, _, rfl, .inr (.inl ⟨⟨b, rfl⟩, ?_⟩)⟩
    walk_at "ss"
    exact h
  · refine ⟨_, rfl, _, rfl, .inr (.inr ⟨rfl, ?_⟩)⟩
    walk_at "ss"
    exact h
theorem scsentence_right : FnScope ["places", "thing", "depth", "part"] ["places", "thing", "depth"] (defScope ssentence_right) := ⟨rfl, rfl, rfl, by decide +kernel, rfl, by decide +kernel, by decide +kernel⟩
theorem if_t {c : Bool} {A B : Prop} (h : c = true) (a : A) : if c = true then A else B := by rw [if_pos h]; exact a
theorem if_f {c : Bool} {A B : Prop} (h : c = false) (b : B) : if c = true then A else B := by rw [h, if_neg Bool.false_ne_true]; exact b
theorem nw {H : Hp} {p q : Addr} {o u : HO} (hp : H p = none) (e : H q = some u) : upd H p o q = some u := same_new hp o q u e
/-- sentence_right(places, thing, depth), of sentences -/
def spSR (n : Nat) : Sp := fun vs H Q _ => ∃ (Pl d : Nat) (v : V) (s : Sn), vs = [.int Pl, v, .int d] ∧ RpS H v s ∧ s.ok Pl d ∧ d ≤ n ∧ n ≤ 9 ∧ Pl ≤ 6 ∧ ∀ H', Same H H' → Q (.bl true) H'
structure PartsD (K : PySem.W.Frag) (w : World) (mg : Str → Option Value) (dA : Addr) (es : Array DictEntry) (n : Nat) : Prop where
  g : mg "PARTS" = some (.ref dA)
  D : KDict K w dA es n
  v : ∀ x m, kinds x = some m → ∃ u, PySem.W.nsIn K dA x = some (some u) ∧ RelV (.int (m : Nat)) u
  z : ∀ x, kinds x = none → PySem.W.nsIn K dA x = some none
theorem ok_sentence_right {f fis_between : Addr} {fd fdb : FuncData} {dA : Addr} {es : Array DictEntry} {dn : Nat} (F : FnP K "sentence_right" ssentence_right f fd) (Z : Zs mg) (PD : PartsD K w mg dA es dn)
    (Gis_between : FnOk P w K mg base (L2.CX P w) 2 fis_between fdb ["thing", "low", "high"] spBet) (Mis_between : Dat K mg "is_between" fis_between fdb ["thing", "low", "high"]) (Msentence_right : Dat K mg "sentence_right" f fd ["places", "thing", "depth"]) :
    ∀ n, FnOk P w K mg base (L2.CX P w) (n + 3) f fd ["places", "thing", "depth"] (spSR n) := by
  intro n
  induction n with
  | zero =>
    have no : ∀ vs H Q E, ¬ spSR 0 vs H Q E := fun vs H Q E h => by
      obtain ⟨Pl, d, v, s, _, _, h1, h2, _⟩ := h
      obtain rfl : d = 0 := by omega
      exact h1
    exact ⟨fun vs H Q E h => absurd h (no vs H Q E), fun A outer s H args us vs Q E _ _ _ _ h => absurd h (no vs H Q E)⟩
  | succ n Gsentence_right =>
    refine F.ok scsentence_right (fun vs H Q E h => ?_) (fun cdv A outer s H vs Q E hr h => ?_)
    · obtain ⟨Pl, d, v, s, rfl, _⟩ := h
      rfl
    obtain ⟨Pl, d, v, sn, rfl, hs, hok, hd, hn, hP, h⟩ := h
    have g_PARTS := PD.g
    have KD_PARTS := PD.D
    obtain ⟨d, rfl⟩ : ∃ d', d = d' + 1 := by
      cases d with
      | zero => exact hok.elim
      | succ d => exact ⟨d, rfl⟩
    have hsh : SeqAt.shaped sn.data = true := data_shaped hok (by omega)
    refine ⟨_, (pss_cons (ps_if (PW.pt (pw_or (pt_not (pt_val (pe_callB call_isi (by rfl) Z.isinstance_ (by decide +kernel) (pa_cons (pv 1) (pa_cons (pe_bltn (v := .ty "tuple") (by rfl) Z.tuple_ (by decide +kernel) rfl) pa_nil))))) (pw_or (pt_cmpR (op_eqD hr.units) (pv 1) (pe_tup pa_nil) (nomark _)) (pw_or (pt_not (pt_val (pe_callB call_isi (by rfl) Z.isinstance_ (by decide +kernel) (pa_cons (pe_ix ix_tup (pv 1) pe_int (fun _ _ => rfl)) (pa_cons (pe_bltn (v := .ty "str") (by rfl) Z.str_ (by decide +kernel) rfl) pa_nil))))) (pw_or1 (pt_cmpR op_eq (pv 2) pe_int (nomark _))))))) (pss_one (ps_ret pe_bl)) pss_nil)
    (pss_cons (ps_if (pt_cmpR op_eq (pe_ix ix_tup (pv 1) pe_int (fun _ _ => rfl)) pe_str (nomark _)) (pss_one (ps_ret (pe_and (pe_cmpR op_eq (pe_callB call_len_seq (by rfl) Z.len_ (by decide +kernel) (pa_cons (pv 1) pa_nil)) pe_int (nomark _)) (pe_and (pe_fn Gis_between Mis_between (hr.mono (by omega)) (pa_cons (pe_ix ix_tup (pv 1) pe_int (fun _ _ => rfl)) (pa_cons pe_int (pa_cons (pe_op op_sub (pv 0) pe_int) pa_nil)))) (pe_one (pe_fn Gis_between Mis_between (hr.mono (by omega)) (pa_cons (pe_ix ix_tup (pv 1) pe_int (fun _ _ => rfl)) (pa_cons pe_int (pa_cons pe_int pa_nil))))))))) pss_nil)
    (pss_cons (ps_if (PW.pt (pw_or (pt_cmpR (op_notIn_kd KD_PARTS) (pe_ix ix_tup (pv 1) pe_int (fun _ _ => rfl)) (pe_globR g_PARTS) (by rfl)) (pw_or1 (pt_cmpR op_ne (pe_callB call_len_seq (by rfl) Z.len_ (by decide +kernel) (pa_cons (pv 1) pa_nil)) (pe_op op_add pe_int (pe_ix ix_kdict (pe_globR g_PARTS) (pe_ix ix_tup (pv 1) pe_int (fun _ _ => rfl)) (fun _ _ => rfl))) (nomark _))))) (pss_one (ps_ret pe_bl)) pss_nil)
    (pss_one (ps_ret (pe_callB (cr_all rfl) (by rfl) Z.all_ (by decide +kernel) (pa_cons (pe_lc (own := [("part", 3)]) (g := gName 3) (tt := tYes) rfl scsentence_right.nd (pi_tup (pe_slice sl_tup (pv 1) (po_some pe_int) po_none)) (blkOk_by (own := [("part", 3)]) (N := ["places", "thing", "depth", "part"]) (sc := defScope ssentence_right) (by decide +kernel)) (fun _ _ _ _ _ => pg_name (i := 3) scsentence_right.nd rfl (Or.inl rfl)) (fun _ _ _ _ _ => pts_nil) (fun _ _ _ _ _ => (pe_fn Gsentence_right Msentence_right (hr.mono (by omega)) (pa_cons (pv 0) (pa_cons (pv 3) (pa_cons (pe_op op_sub (pv 2) pe_int) pa_nil)))))) pa_nil))))))), ?_⟩
    have hdp := hs.dp (K := K)
    rcases hs.view with ⟨x, p, a, rfl, rfl, e⟩ | ⟨x, wd, vs, ss, pt, rfl, e, rp⟩
    · -- is
      walk_at "ss"
      refine ⟨_, _, _, _, true, rfl, .ty _, isi_tup e, kit_ty (by decide +kernel), ?_⟩
      walk_at "ss"
      refine ⟨small (by decide), fun p0 hp0 => ?_⟩
      have e1 := nw (o := .tup []) hp0 e
      refine ⟨_, _, (hs.same (same_new hp0 _)).dp, .tup (SqT.of upd_same) .nil, hsh, by decide +kernel, ?_⟩
      walk_at "ss"
      refine ⟨_, _, _, _, rfl, rfl, SqT.of e1, rfl, ?_⟩
      walk_at "ss"
      refine ⟨_, _, _, _, true, rfl, .ty _, isi_str _, kit_ty (by decide +kernel), ?_⟩
      walk_at "ss"
      refine ⟨_, _, _, _, rfl, rfl, SqT.of e1, rfl, ?_⟩
      walk_at "ss"
      refine ⟨_, _, rfl, .inr (SqT.of e1), ?_⟩
      walk_at "ss"
      refine ⟨_, _, _, _, rfl, rfl, SqT.of e1, rfl, ?_⟩
      walk_at "ss"
      refine ⟨_, _, _, rfl, .inl ⟨_, rfl, ?_⟩⟩
      walk_at "ss"
      obtain ⟨hp1, hp2⟩ := hok
      rw [decide_eq_true (show (0 : Int) ≤ (p : Int) by omega), decide_eq_true (show (p : Int) ≤ (Pl : Int) - 1 by omega)]
      walk_at "ss"
      refine ⟨_, _, _, _, rfl, rfl, SqT.of e1, rfl, ?_⟩
      walk_at "ss"
      refine ⟨_, _, _, rfl, .inl ⟨_, rfl, ?_⟩⟩
      rw [decide_eq_true (show (0 : Int) ≤ (a : Int) by omega), decide_eq_true (show (a : Int) ≤ 1 by omega)]
      exact h _ (same_new hp0 _)
    · -- parts
      walk_at "ss"
      refine ⟨_, _, _, _, true, rfl, .ty _, isi_tup e, kit_ty (by decide +kernel), ?_⟩
      walk_at "ss"
      refine ⟨small (by decide), fun p0 hp0 => ?_⟩
      have e1 := nw (o := .tup []) hp0 e
      refine ⟨_, _, (hs.same (same_new hp0 _)).dp, .tup (SqT.of upd_same) .nil, hsh, by decide +kernel, ?_⟩
      rw [data_ne_nil]
      walk_at "ss"
      refine ⟨_, _, _, _, rfl, rfl, SqT.of e1, atI_nat (j := 0) rfl, ?_⟩
      walk_at "ss"
      refine ⟨_, _, _, _, true, rfl, .ty _, isi_str _, kit_ty (by decide +kernel), ?_⟩
      walk_at "ss"
      refine ⟨_, _, _, _, rfl, rfl, SqT.of e1, atI_nat (j := 0) rfl, ?_⟩
      walk_at "ss"
      have hk := pt.kind
      refine ite2 (fun c => ?_) (fun _ => ?_)
      · exact absurd (V.str.inj (of_decide_eq_true c)) hk.2.1
      walk_at "ss"
      refine ⟨_, _, _, _, rfl, rfl, SqT.of e1, atI_nat (j := 0) rfl, ?_⟩
      walk_at "ss"
      obtain ⟨u, hu, ru⟩ := PD.v _ _ hk.1
      refine ⟨_, _, rfl, rfl, hu, ?_⟩
      walk_at "ss"
      refine ⟨_, _, rfl, .inr (SqT.of e1), ?_⟩
      walk_at "ss"
      refine ⟨_, _, _, _, rfl, rfl, SqT.of e1, atI_nat (j := 0) rfl, ?_⟩
      walk_at "ss"
      refine ⟨_, _, _, rfl, rfl, ⟨_, _, _, PD.D.at_, PD.D.lit, hu, ru⟩, ?_⟩
      walk_at "ss"
      refine ite2 (fun c => ?_) (fun _ => ?_)
      · exfalso
        have hl := rp.len
        have hn : ((Str.ofString "x" :: []).length : Int) = 1 := rfl
        revert c
        simp [hl]
        omega
      walk_at "ss"
      refine ⟨_, _, rfl, SqT.of e1, cut1_ne _ _, fun p1 hp1 => ?_⟩
      rw [cut1]
      refine ⟨_, rfl, ⟨_, SqT.of upd_same⟩, fun D hD => ?_⟩
      have s1 : Same H (upd (upd H p0 (.tup [])) p1 (.tup vs)) := (same_new hp0 _).trans (same_new hp1 _)
      refine lc_tup (xs := vs) (fun i H' => Same (upd (upd H p0 (.tup [])) p1 (.tup vs)) H' ∧ H' D = some (.lst (List.replicate i (.bl true)))) ⟨same_new hD _, upd_same⟩ (fun i H' _ hv => SqT.of (hv.1 _ _ upd_same)) (fun i x H' hx hv => ?_) (fun H' hv => ?_)
      · obtain ⟨t, ht, rt⟩ := rp.get hx
        have okt := pt.ok hok t (List.mem_of_getElem? ht)
        walk_at "ss"
        have hi : i < vs.length := get_lt hx
        have hm : vs.length ≤ 2 := by rw [rp.len]; exact hk.2.2.2
        refine ⟨Pl, d, _, t, by simp, rt.same (s1.trans hv.1), okt, by omega, by omega, hP, fun H4 s4 => ?_⟩
        refine ⟨_, s4 _ _ hv.2, smallt (by simp; omega), same_over hD (hv.1.trans s4) _, ?_⟩
        rw [rep_snoc]
        exact upd_same
      · walk_at "ss"
        refine ⟨_, List.replicate vs.length true, rfl, ?_, ?_⟩
        · rw [rep_map]
          exact SqL.of hv.2
        · rw [rep_all]
          exact h _ (s1.trans hv.1)
end
end K14
/-! D2: the package's defs: what is needed; words of sentences. -/
namespace K14
open PySem PySem.Spec PyProof.Rows L2 LamX Cov
/-- one step of a reading -/
local macro_rules | `(tactic| walk_at "s") => `(tactic| first | refine ⟨_, rfl, ?_⟩ | refine ⟨_, _, rfl, rfl, ?_⟩ | refine ⟨rfl, ?_⟩)
local macro_rules | `(tactic| walk_at "ss") => `(tactic| repeat walk_at "s")
section
variable {P : Program} {w : World} {K : PySem.W.Frag} {mg : Str → Option Value} {base : Heap}
theorem scneed_sentence : FnScope ["places", "sentence"] ["places", "sentence"] (defScope sneed_sentence) := ⟨rfl, rfl, rfl, by decide +kernel, rfl, by decide +kernel, by decide +kernel⟩
def spNS : Sp := fun vs H Q _ => ∃ (Pl : Nat) (v : V) (s : Sn), vs = [.int Pl, v] ∧ RpS H v s ∧ s.ok Pl 8 ∧ Pl ≤ 6 ∧ ∀ H', Same H H' → Q .non H'
theorem ok_need_sentence {f fsentence_right : Addr} {fd fdr : FuncData} {CS : Addr} (F : FnP K "need_sentence" sneed_sentence f fd) (g_MOST_DEEP : mg "MOST_DEEP" = some (.int 8 t0))
    (Gsentence_right : FnOk P w K mg base (L2.CX P w) 11 fsentence_right fdr ["places", "thing", "depth"] (spSR 8)) (Msentence_right : Dat K mg "sentence_right" fsentence_right fdr ["places", "thing", "depth"]) (XBadSentence : ExT K mg "BadSentence" CS) :
    FnOk P w K mg base (L2.CX P w) 12 f fd ["places", "sentence"] spNS := by
  refine F.ok scneed_sentence (fun vs H Q E h => ?_) (fun cdv A outer s H vs Q E hr h => ?_)
  · obtain ⟨Pl, v, s, rfl, _⟩ := h
    rfl
  obtain ⟨Pl, v, sn, rfl, hs, hok, hP, h⟩ := h
  refine ⟨_, (pss_one (ps_if (pt_not (pt_val (pe_fn Gsentence_right Msentence_right (hr.mono (by omega)) (pa_cons (pv 0) (pa_cons (pv 1) (pa_cons (pe_globI g_MOST_DEEP) pa_nil)))))) (pss_one (ps_raise rfl (takes_of rfl rfl rfl rfl) (pmk_x XBadSentence))) pss_nil)), ?_⟩
  walk_at "ss"
  refine ⟨Pl, 8, v, sn, rfl, hs, hok, by omega, by omega, hP, fun H' s1 => ?_⟩
  walk_at "ss"
  exact h _ s1
theorem scneed_place_count : FnScope ["places"] ["places"] (defScope sneed_place_count) := ⟨rfl, rfl, rfl, by decide +kernel, rfl, by decide +kernel, by decide +kernel⟩
def spNP (CP : Addr) : Sp := fun vs H Q E => ∃ x, vs = [x] ∧ ((∃ i, x = .int i ∧ (1 ≤ i → i ≤ 6 → Q .non H) ∧ (¬ (1 ≤ i ∧ i ≤ 6) → E (.ref CP) none H)) ∨ ((∃ b, x = .bl b) ∧ E (.ref CP) none H) ∨ (x = .non ∧ E (.ref CP) none H))
theorem ok_need_place_count {f fis_between : Addr} {fd fdb : FuncData} {CP : Addr} (F : FnP K "need_place_count" sneed_place_count f fd) (g_MOST_PLACES : mg "MOST_PLACES" = some (.int 6 t0))
    (Gis_between : FnOk P w K mg base (L2.CX P w) 2 fis_between fdb ["thing", "low", "high"] spBet) (Mis_between : Dat K mg "is_between" fis_between fdb ["thing", "low", "high"]) (XBadPlaces : ExT K mg "BadPlaces" CP) :
    FnOk P w K mg base (L2.CX P w) 3 f fd ["places"] (spNP CP) := by
  refine F.ok scneed_place_count (fun vs H Q E h => ?_) (fun cdv A outer s H vs Q E hr h => ?_)
  · obtain ⟨x, rfl, _⟩ := h
    rfl
  obtain ⟨x, rfl, h⟩ := h
  refine ⟨_, (pss_one (ps_if (pt_not (pt_val (pe_fn Gis_between Mis_between (hr.mono (by omega)) (pa_cons (pv 0) (pa_cons pe_int (pa_cons (pe_globI g_MOST_PLACES) pa_nil)))))) (pss_one (ps_raise rfl (takes_of rfl rfl rfl rfl) (pmk_x XBadPlaces))) pss_nil)), ?_⟩
  rcases h with ⟨i, rfl, h1, h2⟩ | ⟨⟨b, rfl⟩, h⟩ | ⟨rfl, h⟩
  · walk_at "ss"
    refine ⟨_, _, _, rfl, .inl ⟨_, rfl, ?_⟩⟩
    walk_at "ss"
    refine ite2 (fun c => ?_) (fun c => ?_)
    · refine h2 fun z => ?_
      rw [decide_eq_true z.1, decide_eq_true z.2] at c
      cases c
    · have c2 : (decide (1 ≤ i) && decide (i ≤ 6)) = true := by simpa using c
      obtain ⟨c3, c4⟩ := (Bool.and_eq_true _ _).mp c2
      exact h1 (of_decide_eq_true c3) (of_decide_eq_true c4)
  · walk_at "ss"
    refine ⟨_, _, _, rfl, .inr (.inl ⟨⟨b, rfl⟩, ?_⟩)⟩
    walk_at "ss"
    exact h
  · walk_at "ss"
    refine ⟨_, _, _, rfl, .inr (.inr ⟨rfl, ?_⟩)⟩
    walk_at "ss"
    exact h
theorem scwords_of : FnScope ["sentence", "found", "part"] ["sentence"] (defScope swords_of) := ⟨rfl, rfl, rfl, by decide +kernel, rfl, by decide +kernel, by decide +kernel⟩
def spWO (n : Nat) : Sp := fun vs H Q _ => ∃ (Pl d : Nat) (v : V) (s : Sn), vs = [v] ∧ RpS H v s ∧ s.ok Pl d ∧ d ≤ n ∧ n ≤ 9 ∧ Pl ≤ 6 ∧ ∀ H' p, Same H H' → H p = none → H' p = some (.lst (s.words.map .str)) → Q (.ref p) H'
theorem ok_words_of {f : Addr} {fd : FuncData} (F : FnP K "words_of" swords_of f fd) (Z : Zs mg) (Mwords_of : Dat K mg "words_of" f fd ["sentence"]) :
    ∀ n, FnOk P w K mg base (L2.CX P w) (n + 3) f fd ["sentence"] (spWO n) := by
  intro n
  induction n with
  | zero =>
    have no : ∀ vs H Q E, ¬ spWO 0 vs H Q E := fun vs H Q E h => by
      obtain ⟨Pl, d, v, s, _, _, h1, h2, _⟩ := h
      obtain rfl : d = 0 := by omega
      exact h1
    exact ⟨fun vs H Q E h => absurd h (no vs H Q E), fun A outer s H args us vs Q E _ _ _ _ h => absurd h (no vs H Q E)⟩
  | succ n Gwords_of =>
    refine F.ok scwords_of (fun vs H Q E h => ?_) (fun cdv A outer s H vs Q E hr h => ?_)
    · obtain ⟨Pl, d, v, s, rfl, _⟩ := h
      rfl
    obtain ⟨Pl, d, v, sn, rfl, hs, hok, hd, hn, hP, h⟩ := h
    obtain ⟨d, rfl⟩ : ∃ d', d = d' + 1 := by
      cases d with
      | zero => exact hok.elim
      | succ d => exact ⟨d, rfl⟩
    refine ⟨_, (pss_cons (ps_if (pt_cmpR op_eq (pe_ix ix_tup (pv 0) pe_int (fun _ _ => rfl)) pe_str (nomark _)) (pss_one (ps_ret (pe_lst (pa_cons pe_str (pa_cons (pe_callTy call_str_int (by rfl) Z.str_ (by decide +kernel) (pa_cons (pe_ix ix_tup (pv 0) pe_int (fun _ _ => rfl)) pa_nil)) (pa_cons (pe_callTy call_str_int (by rfl) Z.str_ (by decide +kernel) (pa_cons (pe_ix ix_tup (pv 0) pe_int (fun _ _ => rfl)) pa_nil)) pa_nil)))))) pss_nil)
    (pss_cons (ps_set (i := 1) scwords_of.nd rfl (Or.inl rfl) (pe_lst (pa_cons (pe_ix ix_tup (pv 0) pe_int (fun _ _ => rfl)) pa_nil)))
    (pss_cons (ps_for (passes_of rfl) rfl (pi_tup (pe_slice sl_tup (pv 0) (po_some pe_int) po_none)) (pg_name (i := 2) scwords_of.nd rfl (Or.inl rfl)) (pss_one (ps_expr (pe_bm PySem.F.plainAttrs_list PySem.F.slot_list_extend PySem.F.type_list_extend mt_extend (pv 1) (pa_cons (pe_fn Gwords_of Mwords_of (hr.mono (by omega)) (pa_cons (pv 2) pa_nil)) pa_nil)))))
    (pss_one (ps_ret (pv 1)))))), ?_⟩
    have hwl := words_len _ _ _ hok
    rcases hs.view with ⟨xx, p, a, rfl, rfl, e⟩ | ⟨xx, wd, vs, ss, pt, rfl, e, rp⟩
    · walk_at "ss"
      refine ⟨_, _, _, _, rfl, rfl, SqT.of e, rfl, ?_⟩
      obtain ⟨hp1, hp2⟩ := hok
      walk_at "ss"
      refine ⟨_, _, _, _, rfl, rfl, SqT.of e, rfl, ?_⟩
      walk_at "ss"
      refine ⟨lgn (by omega), ?_⟩
      walk_at "ss"
      refine ⟨_, _, _, _, rfl, rfl, SqT.of e, rfl, ?_⟩
      walk_at "ss"
      refine ⟨lgn (by omega), ?_⟩
      walk_at "ss"
      refine ⟨small (by simp), fun p0 hp0 => ?_⟩
      exact h _ _ (same_new hp0 _) hp0 upd_same
    · walk_at "ss"
      refine ⟨_, _, _, _, rfl, rfl, SqT.of e, atI_nat (j := 0) rfl, ?_⟩
      walk_at "ss"
      have hk := pt.kind
      refine ite2 (fun c => ?_) (fun _ => ?_)
      · exact absurd (V.str.inj (of_decide_eq_true c)) hk.2.1
      walk_at "ss"
      refine ⟨_, _, _, _, rfl, rfl, SqT.of e, atI_nat (j := 0) rfl, ?_⟩
      walk_at "ss"
      refine ⟨small (by simp), fun p0 hp0 => ?_⟩
      walk_at "ss"
      have s1 := same_new hp0 (.lst [.str wd])
      refine ⟨_, _, rfl, SqT.of (s1 _ _ e), cut1_ne _ _, fun p1 hp1 => ?_⟩
      rw [cut1]
      have n1 : p0 ≠ p1 := fun z => by rw [z, upd_same] at hp1; cases hp1
      refine ⟨_, rfl, ⟨_, SqT.of upd_same⟩, ?_⟩
      rw [pt.words] at hwl
      refine for_tup (xs := vs) (fun i σ H' => (∃ y, σ = [some (.ref xx), some (.ref p0), y]) ∧ Same H H' ∧ H' p1 = some (.tup vs) ∧ H' p0 = some (.lst ((wd :: ((ss.take i).map Sn.words).flatten).map .str))) ⟨⟨_, rfl⟩, s1.trans (same_new hp1 _), upd_same, ?_⟩ (fun i σ H' _ hv => SqT.of hv.2.2.1) (fun i x σ H' hx hv => ?_) (fun σ H' hv => ?_)
      · exact (nw hp1 upd_same : upd (upd H p0 (.lst [.str wd])) p1 (.tup vs) p0 = _)
      · obtain ⟨⟨y, rfl⟩, hv1, hv2, hv3⟩ := hv
        obtain ⟨t, ht, rt⟩ := rp.get hx
        have okt := pt.ok hok t (List.mem_of_getElem? ht)
        have hlen : ((ss.take (i + 1)).map Sn.words).flatten.length ≤ (ss.map Sn.words).flatten.length := flat_le
        rw [flat_take ht, List.length_append] at hlen
        have hpw : 2 * 2 ^ (d + 1) ≤ 2 * 2 ^ 9 := Nat.mul_le_mul_left 2 (Nat.pow_le_pow_right (by decide) (by omega))
        walk_at "ss"
        refine ⟨.inl ⟨rfl, _, SqL.of hv3⟩, ?_⟩
        walk_at "ss"
        refine ⟨Pl, d, _, t, rfl, rt.same hv1, okt, by omega, by omega, hP, fun H1 p2 s2 hp2 e2 => ?_⟩
        walk_at "ss"
        refine ⟨_, _, _, _, rfl, rfl, s2 _ _ hv3, e2, small ?_, ⟨_, rfl⟩, same_over hp0 (hv1.trans s2) _, ?_, ?_⟩
        · have f1 := @flat_le ss i
          rw [List.length_cons] at hwl
          rw [List.length_map, List.length_map, List.length_cons]
          omega
        · rw [upd_ne (Ne.symm n1)]
          exact s2 _ _ hv2
        · rw [upd_same, flat_take ht]
          simp
      · obtain ⟨⟨y, rfl⟩, hv1, hv2, hv3⟩ := hv
        walk_at "ss"
        rw [rp.len, List.take_length] at hv3
        rw [pt.words] at h
        exact h _ _ hv1 hp0 hv3
end
end K14
/-! D3: the package's defs: sentence_text, need_digit. -/
namespace K14
open PySem PySem.Spec PyProof.Rows L2 LamX Cov
/-- one step of a reading -/
local macro_rules | `(tactic| walk_at "s") => `(tactic| first | refine ⟨_, rfl, ?_⟩ | refine ⟨_, _, rfl, rfl, ?_⟩ | refine ⟨rfl, ?_⟩ | refine ⟨⟨_, rfl⟩, ?_⟩)
local macro_rules | `(tactic| walk_at "ss") => `(tactic| repeat walk_at "s")
section
variable {P : Program} {w : World} {K : PySem.W.Frag} {mg : Str → Option Value} {base : Heap}
theorem scsentence_text : FnScope ["places", "sentence"] ["places", "sentence"] (defScope ssentence_text) := ⟨rfl, rfl, rfl, by decide +kernel, rfl, by decide +kernel, by decide +kernel⟩
def spST : Sp := fun vs H Q _ => ∃ (Pl : Nat) (v : V) (s : Sn), vs = [.int Pl, v] ∧ RpS H v s ∧ s.ok Pl 8 ∧ 1 ≤ Pl ∧ Pl ≤ 6 ∧ ∀ H', Same H H' → Q (.str (Txt.join sp s.words)) H'
theorem ok_sentence_text {f fneed_place_count fneed_sentence fwords_of : Addr} {fd fd1 fd2 fd3 : FuncData} {CP : Addr} (F : FnP K "sentence_text" ssentence_text f fd)
    (Gneed_place_count : FnOk P w K mg base (L2.CX P w) 3 fneed_place_count fd1 ["places"] (spNP CP)) (Mneed_place_count : Dat K mg "need_place_count" fneed_place_count fd1 ["places"])
    (Gneed_sentence : FnOk P w K mg base (L2.CX P w) 12 fneed_sentence fd2 ["places", "sentence"] spNS) (Mneed_sentence : Dat K mg "need_sentence" fneed_sentence fd2 ["places", "sentence"])
    (Gwords_of : FnOk P w K mg base (L2.CX P w) 11 fwords_of fd3 ["sentence"] (spWO 8)) (Mwords_of : Dat K mg "words_of" fwords_of fd3 ["sentence"]) :
    FnOk P w K mg base (L2.CX P w) 13 f fd ["places", "sentence"] spST := by
  refine F.ok scsentence_text (fun vs H Q E h => ?_) (fun cdv A outer s H vs Q E hr h => ?_)
  · obtain ⟨Pl, v, s, rfl, _⟩ := h
    rfl
  obtain ⟨Pl, v, sn, rfl, hs, hok, hP1, hP, h⟩ := h
  refine ⟨_, (pss_cons (ps_expr (pe_fx Gneed_place_count Mneed_place_count (hr.mono (by omega)) (takes_of rfl rfl rfl rfl) (pa_cons (pv 0) pa_nil)))
    (pss_cons (ps_expr (pe_fn Gneed_sentence Mneed_sentence (hr.mono (by omega)) (pa_cons (pv 0) (pa_cons (pv 1) pa_nil))))
    (pss_one (ps_ret (pe_join pe_str (pe_fn Gwords_of Mwords_of (hr.mono (by omega)) (pa_cons (pv 1) pa_nil))))))), ?_⟩
  walk_at "ss"
  refine .inl ⟨_, rfl, fun _ _ => ?_, fun c => absurd ⟨by omega, by omega⟩ c⟩
  walk_at "ss"
  refine ⟨Pl, v, sn, rfl, hs, hok, hP, fun H1 s1 => ?_⟩
  walk_at "ss"
  refine ⟨Pl, 8, v, sn, rfl, hs.same s1, hok, by omega, by omega, hP, fun H2 p s2 hp e2 => ?_⟩
  walk_at "ss"
  refine ⟨_, _, _, rfl, rfl, .inl (SqL.of e2), ?_, h _ (s1.trans s2)⟩
  have hl := words_len _ _ _ hok
  exact join_fits (n := 600) ⟨by omega, (fun z => by have := words_pos sn; rw [z] at this; cases this), wk_words hP _ _ hok⟩ (by omega)
theorem scneed_digit : FnScope ["words", "spot", "most", "number"] ["words", "spot", "most"] (defScope sneed_digit) := ⟨rfl, rfl, rfl, by decide +kernel, rfl, by decide +kernel, by decide +kernel⟩
/-- BadText(i) -/
def bad (E : XK) (CT : Addr) (H : Hp) (v : V) : Prop := ∀ H' d, Same H H' → H' d = none → E (.ref CT) (some d) (upd H' d (.xd [("index", v)]))
theorem bad.same {E : XK} {CT : Addr} {H H1 : Hp} {v : V} (h : bad E CT H v) (s : Same H H1) : bad E CT H1 v := fun H' d s2 e => h H' d (s.trans s2) e
def spND (CT : Addr) : Sp := fun vs H Q E => ∃ (wl : Addr) (ws : List Str) (i n : Nat) (j : Int), vs = [.ref wl, .int i, .int j] ∧ j + 1 = (n : Nat) ∧ n ≤ 6 ∧ H wl = some (.lst (ws.map .str)) ∧
  match (ws[i]?).bind (dig? n) with
  | some k => ∀ H', Same H H' → Q (.int (k : Nat)) H'
  | none => bad E CT H (.int (i : Nat))
theorem ok_need_digit {f CT D fI : Addr} {fd : FuncData} (F : FnP K "need_digit" sneed_digit f fd) (Z : Zs mg) (XBadText : PySem.SupX.SupTxt P K mg "BadText" CT D fI "index") :
    FnOk P w K mg base (L2.CX P w) 4 f fd ["words", "spot", "most"] (spND CT) := by
  refine F.ok scneed_digit (fun vs H Q E h => ?_) (fun cdv A outer s H vs Q E hr h => ?_)
  · obtain ⟨_, _, _, _, _, rfl, _⟩ := h
    rfl
  obtain ⟨wl, ws, i, n, j, rfl, hj, hn, hw, h⟩ := h
  refine ⟨_, (pss_cons (ps_if (PW.pt (pw_or (pt_cmpR op_ge (pv 1) (pe_callB call_len_seq (by rfl) Z.len_ (by decide +kernel) (pa_cons (pv 0) pa_nil)) (nomark _)) (pw_or1 (pt_cmpR op_notIn_seq (pe_ix ix_list (pv 0) (pv 1) (fun _ _ => rfl)) (pe_lc (own := [("number", 3)]) (g := gName 3) (tt := tYes) rfl scneed_digit.nd (pi_range1 (by rfl) Z.range_ (pa_cons (pe_op op_add (pv 2) pe_int) pa_nil)) (blkOk_by (own := [("number", 3)]) (N := ["words", "spot", "most", "number"]) (sc := defScope sneed_digit) (by decide +kernel)) (fun _ _ _ _ _ => pg_name (i := 3) scneed_digit.nd rfl (Or.inl rfl)) (fun _ _ _ _ _ => pts_nil) (fun _ _ _ _ _ => (pe_callTy call_str_int (by rfl) Z.str_ (by decide +kernel) (pa_cons (pv 3) pa_nil)))) (by rfl))))) (pss_one (ps_raiseSup rfl XBadText (hr.mono (show 0 + 1 ≤ _ by omega)) (takes_of rfl rfl rfl rfl) (pa_cons (pv 1) pa_nil) rfl)) pss_nil)
    (pss_one (ps_ret (pe_callTy call_int_str (by rfl) Z.int_ (by decide +kernel) (pa_cons (pe_ix ix_list (pv 0) (pv 1) (fun _ _ => rfl)) pa_nil))))), ?_⟩
  walk_at "ss"
  refine ⟨_, _, rfl, .inl (SqL.of hw), ?_⟩
  walk_at "ss"
  rw [List.length_map]
  refine ite2 (fun c => ?_) (fun c => ?_)
  · have hi : ws[i]? = none := List.getElem?_eq_none (by have := of_decide_eq_true c; omega)
    rw [hi] at h
    walk_at "ss"
    exact fun d hd => h H d (Same.refl H) hd
  · have hi : i < ws.length := by
      have c2 : ¬ (((ws.length : Nat) : Int) ≤ (i : Int)) := fun z => c (decide_eq_true z)
      omega
    have hx : (ws.map V.str)[i]? = some (.str ws[i]) := by simp [hi]
    rw [List.getElem?_eq_getElem hi, Option.bind_some] at h
    walk_at "ss"
    refine ⟨_, _, _, _, rfl, rfl, SqL.of hw, atI_nat hx, ?_⟩
    walk_at "ss"
    refine ⟨by omega, by omega, ?_⟩
    rw [hj, Int.toNat_natCast]
    intro D hD
    refine lc_range (n := n) (fun i H' => Same H H' ∧ H' D = some (.lst (((List.range i).map num).map .str))) ⟨same_new hD _, upd_same⟩ (fun i H' hi hv => ?_) (fun H' hv => ?_)
    · walk_at "ss"
      refine ⟨by simpa using lgn (n := i) (by omega), ?_⟩
      refine ⟨_, hv.2, smallt (by simp; omega), same_over hD hv.1 _, ?_⟩
      rw [upd_same, List.range_succ]
      simp [num]
    · walk_at "ss"
      refine ⟨_, _, rfl, .inl (SqL.of hv.2), rfl, by simp [flatV], ?_⟩
      walk_at "ss"
      rw [inV_num]
      cases hd : dig? n ws[i] with
      | none =>
        rw [hd] at h
        walk_at "ss"
        exact fun d hd => h H' d hv.1 hd
      | some k =>
        rw [hd] at h
        walk_at "ss"
        have hk := dig_some hd
        refine ⟨_, _, _, _, rfl, rfl, SqL.of (hv.1 _ _ hw), atI_nat hx, ?_⟩
        walk_at "ss"
        rw [← hk.2]
        exact ⟨_, _, rfl, int_num k (by omega), num_len k (by omega), h _ hv.1⟩
end
end K14
/-! D4: the package's defs: read_part. -/
namespace K14
open PySem PySem.Spec PyProof.Rows L2 LamX Cov
/-- one step of a reading -/
local macro_rules | `(tactic| walk_at "s") => `(tactic| first | refine ⟨_, rfl, ?_⟩ | refine ⟨_, _, rfl, rfl, ?_⟩ | refine ⟨rfl, ?_⟩ | refine ⟨⟨_, rfl⟩, ?_⟩)
local macro_rules | `(tactic| walk_at "ss") => `(tactic| repeat walk_at "s")
section
variable {P : Program} {w : World} {K : PySem.W.Frag} {mg : Str → Option Value} {base : Heap}
theorem scread_part : FnScope ["words", "spot", "places", "depth", "word", "numbers", "found", "here", "turn", "part"] ["words", "spot", "places", "depth"] (defScope sread_part) := ⟨rfl, rfl, rfl, by decide +kernel, rfl, by decide +kernel, by decide +kernel⟩
theorem tup_upd {H : Hp} {p b : Addr} {ys xs : List V} {o : HO} (h : H p = some (.lst ys)) (e : H b = some (.tup xs)) : upd H p o b = some (.tup xs) := by
  rw [upd_ne (fun z => by rw [z, h] at e; cases e)]
  exact e
theorem RpA.tups {H H' : Hp} (e : ∀ b xs, H b = some (.tup xs) → H' b = some (.tup xs)) {vs : List V} {ss : List Sn} (h : RpA H vs ss) : RpA H' vs ss := Paired.mapP h fun _ _ q => q.tups e
theorem rdN_err {P : Nat} {ws : List Str} {d i e : Nat} : ∀ {m j : Nat}, j ≤ m → rdN P ws d j i = .error e → rdN P ws d m i = .error e := by
  intro m
  induction m with
  | zero =>
    intro j hj h
    obtain rfl : j = 0 := by omega
    exact h
  | succ m ih =>
    intro j hj h
    by_cases e1 : j = m + 1
    · rw [← e1]; exact h
    · unfold rdN
      rw [ih (by omega) h]
def spRP (CT : Addr) (n : Nat) : Sp := fun vs H Q E => ∃ (wl : Addr) (ws : List Str) (i Pl d : Nat), vs = [.ref wl, .int i, .int Pl, .int d] ∧ 1 ≤ d ∧ d ≤ n ∧ n ≤ 9 ∧ 1 ≤ Pl ∧ Pl ≤ 6 ∧ i ≤ ws.length ∧ H wl = some (.lst (ws.map .str)) ∧
  match rd Pl ws d i with
  | .ok (s, k) => ∀ H' x v, Same H H' → H' x = some (.tup [v, .int (k : Nat)]) → RpS H' v s → Q (.ref x) H'
  | .error e => bad E CT H (.int (e : Nat))
theorem ok_read_part {f fneed_digit CT D fI : Addr} {fd fdn : FuncData} {dA : Addr} {es : Array DictEntry} {dn : Nat} (F : FnP K "read_part" sread_part f fd) (Z : Zs mg) (PD : PartsD K w mg dA es dn) (XBadText : PySem.SupX.SupTxt P K mg "BadText" CT D fI "index")
    (Gneed_digit : FnOk P w K mg base (L2.CX P w) 4 fneed_digit fdn ["words", "spot", "most"] (spND CT)) (Mneed_digit : Dat K mg "need_digit" fneed_digit fdn ["words", "spot", "most"]) (Mread_part : Dat K mg "read_part" f fd ["words", "spot", "places", "depth"]) :
    ∀ n, FnOk P w K mg base (L2.CX P w) (n + 5) f fd ["words", "spot", "places", "depth"] (spRP CT n) := by
  intro n
  induction n with
  | zero =>
    have no : ∀ vs H Q E, ¬ spRP CT 0 vs H Q E := fun vs H Q E h => by
      obtain ⟨_, _, _, _, d, _, h1, h2, _⟩ := h
      omega
    exact ⟨fun vs H Q E h => absurd h (no vs H Q E), fun A outer s H args us vs Q E _ _ _ _ h => absurd h (no vs H Q E)⟩
  | succ n Gread_part =>
    refine F.ok scread_part (fun vs H Q E h => ?_) (fun cdv A outer s H vs Q E hr h => ?_)
    · obtain ⟨_, _, _, _, _, rfl, _⟩ := h
      rfl
    obtain ⟨wl, ws, i, Pl, d, rfl, hd1, hd, hn, hP1, hP, hi, hw, h⟩ := h
    have g_PARTS := PD.g
    have KD_PARTS := PD.D
    obtain ⟨d, rfl⟩ : ∃ d', d = d' + 1 := ⟨d - 1, by omega⟩
    refine ⟨_, (pss_cons (ps_if (PW.pt (pw_or (pt_cmpR op_ge (pv 1) (pe_callB call_len_seq (by rfl) Z.len_ (by decide +kernel) (pa_cons (pv 0) pa_nil)) (nomark _)) (pw_or1 (pt_cmpR op_eq (pv 3) pe_int (nomark _))))) (pss_one (ps_raiseSup rfl XBadText (hr.mono (show 0 + 1 ≤ _ by omega)) (takes_of rfl rfl rfl rfl) (pa_cons (pv 1) pa_nil) rfl)) pss_nil)
    (pss_cons (ps_set (i := 4) scread_part.nd rfl (Or.inl rfl) (pe_ix ix_list (pv 0) (pv 1) (fun _ _ => rfl)))
    (pss_cons (ps_if (pt_cmpR op_eq (pv 4) pe_str (nomark _)) (pss_cons (ps_set (i := 5) scread_part.nd rfl (Or.inl rfl) (pe_lst (pa_cons (pe_fx Gneed_digit Mneed_digit (hr.mono (by omega)) (takes_of rfl rfl rfl rfl) (pa_cons (pv 0) (pa_cons (pe_op op_add (pv 1) pe_int) (pa_cons (pe_op op_sub (pv 2) pe_int) pa_nil)))) (pa_cons (pe_fx Gneed_digit Mneed_digit (hr.mono (by omega)) (takes_of rfl rfl rfl rfl) (pa_cons (pv 0) (pa_cons (pe_op op_add (pv 1) pe_int) (pa_cons pe_int pa_nil)))) pa_nil))))
    (pss_one (ps_ret (pe_tup (pa_cons (pe_tup (pa_cons pe_str (pa_cons (pe_ix ix_list (pv 5) pe_int (fun _ _ => rfl)) (pa_cons (pe_ix ix_list (pv 5) pe_int (fun _ _ => rfl)) pa_nil)))) (pa_cons (pe_op op_add (pv 1) pe_int) pa_nil)))))) pss_nil)
    (pss_cons (ps_if (PW.pt (pw_or (pt_cmpR (op_notIn_kd KD_PARTS) (pv 4) (pe_globR g_PARTS) (by rfl)) (pw_or1 (pt_cmpR op_eq (pv 3) pe_int (nomark _))))) (pss_one (ps_raiseSup rfl XBadText (hr.mono (show 0 + 1 ≤ _ by omega)) (takes_of rfl rfl rfl rfl) (pa_cons (pv 1) pa_nil) rfl)) pss_nil)
    (pss_cons (ps_par (i := 6) (j := 7) (by rfl) scread_part.nd rfl rfl (by decide) rfl rfl (pa_cons (pe_lst (pa_cons (pv 4) pa_nil)) (pa_cons (pe_op op_add (pv 1) pe_int) pa_nil)) (by rfl))
    (pss_cons (ps_for (passes_of rfl) rfl (pi_range1 (by rfl) Z.range_ (pa_cons (pe_ix ix_kdict (pe_globR g_PARTS) (pv 4) (fun _ _ => rfl)) pa_nil)) (pg_name (i := 8) scread_part.nd rfl (Or.inl rfl)) (pss_cons (ps_asg (pe_fx Gread_part Mread_part (hr.mono (by omega)) (takes_of rfl rfl rfl rfl) (pa_cons (pv 0) (pa_cons (pv 7) (pa_cons (pv 2) (pa_cons (pe_op op_sub (pv 3) pe_int) pa_nil))))) (pg_tup rfl (pgs_cons (pg_name (i := 9) scread_part.nd rfl (Or.inl rfl)) (pgs_cons (pg_name (i := 7) scread_part.nd rfl (Or.inl rfl)) pgs_nil))))
    (pss_one (ps_expr (pe_bm PySem.F.plainAttrs_list PySem.F.slot_list_append PySem.F.type_list_append mt_append (pv 6) (pa_cons (pv 9) pa_nil))))))
    (pss_one (ps_ret (pe_tup (pa_cons (pe_callTy call_tuple_of (by rfl) Z.tuple_ (by decide +kernel) (pa_cons (pv 6) pa_nil)) (pa_cons (pv 7) pa_nil))))))))))), ?_⟩
    walk_at "ss"
    refine ⟨_, _, rfl, .inl (SqL.of hw), ?_⟩
    walk_at "ss"
    rw [List.length_map]
    refine ite2 (fun c => ?_) (fun c => ?_)
    · have hi2 : ws[i]? = none := List.getElem?_eq_none (by have := of_decide_eq_true c; omega)
      rw [rd_end (.inl hi2)] at h
      walk_at "ss"
      exact fun d hd => h H d (Same.refl H) hd
    have hlt : i < ws.length := by
      have c2 : ¬ (((ws.length : Nat) : Int) ≤ (i : Int)) := fun z => c (decide_eq_true z)
      omega
    obtain ⟨x, hx⟩ : ∃ x, ws[i]? = some x := ⟨ws[i], List.getElem?_eq_getElem hlt⟩
    have hxv : (ws.map V.str)[i]? = some (.str x) := by simp [hx]
    walk_at "ss"
    refine ⟨_, _, _, _, rfl, rfl, SqL.of hw, atI_nat hxv, ?_⟩
    walk_at "ss"
    refine ite2 (fun c => ?_) (fun c => ?_)
    · obtain rfl : x = wIs := V.str.inj (of_decide_eq_true c)
      rw [rd_is hx] at h
      walk_at "ss"
      refine ⟨wl, ws, i + 1, Pl, (Pl : Int) - 1, by simp, by omega, hP, hw, ?_⟩
      cases e1 : (ws[i+1]?).bind (dig? Pl) with
      | none =>
        rw [e1] at h
        exact h
      | some p =>
        rw [e1] at h
        dsimp only at h ⊢
        intro H1 s1
        walk_at "ss"
        refine ⟨wl, ws, i + 2, 2, 1, by simp, by omega, by omega, s1 _ _ hw, ?_⟩
        cases e2 : (ws[i+2]?).bind (dig? 2) with
        | none =>
          rw [e2] at h
          exact h.same s1
        | some a =>
          rw [e2] at h
          dsimp only at h ⊢
          intro H2 s2
          walk_at "ss"
          refine ⟨small (by simp), fun p0 hp0 => ?_⟩
          walk_at "ss"
          refine ⟨_, _, _, _, rfl, rfl, SqL.of upd_same, rfl, ?_⟩
          walk_at "ss"
          refine ⟨_, _, _, _, rfl, rfl, SqL.of upd_same, rfl, ?_⟩
          walk_at "ss"
          refine ⟨small (by simp), fun p1 hp1 => ?_⟩
          walk_at "ss"
          refine ⟨small (by simp), fun p2 hp2 => ?_⟩
          walk_at "ss"
          exact h _ _ _ (((s1.trans s2).trans (same_new hp0 _)).trans ((same_new hp1 _).trans (same_new hp2 _))) upd_same (.is (nw hp2 upd_same))
    · have hne : x ≠ wIs := fun z => c (by rw [z]; rfl)
      walk_at "ss"
      cases hk : kinds x with
      | none =>
        rw [rd_bad hx hne (.inl hk)] at h
        refine ⟨_, _, rfl, rfl, PD.z _ hk, ?_⟩
        walk_at "ss"
        exact fun d hd => h H d (Same.refl H) hd
      | some m =>
        obtain ⟨u, hu, ru⟩ := PD.v _ _ hk
        refine ⟨_, _, rfl, rfl, hu, ?_⟩
        walk_at "ss"
        refine ite2 (fun c1 => ?_) (fun c1 => ?_)
        · have h0 : d = 0 := by
            have := V.int.inj (of_decide_eq_true c1)
            omega
          rw [rd_bad hx hne (.inr h0)] at h
          walk_at "ss"
          exact fun d hd => h H d (Same.refl H) hd
        have h0 : d ≠ 0 := fun z => c1 (by rw [z]; rfl)
        have hr2 := rd_parts (P := Pl) hx hne h0 hk
        walk_at "ss"
        refine ⟨small (by simp), fun p0 hp0 => ?_⟩
        walk_at "ss"
        refine ⟨_, _, rfl, ?_⟩
        walk_at "ss"
        refine ⟨_, _, _, rfl, rfl, ⟨_, _, _, PD.D.at_, PD.D.lit, hu, ru⟩, ?_⟩
        have hm : m ≤ 2 := by
          unfold kinds at hk
          split at hk <;> first | (cases hk; decide) | skip
          split at hk <;> first | (cases hk; decide) | skip
          split at hk <;> cases hk
          decide
        refine ⟨_, rfl, by omega, by omega, ?_⟩
        rw [Int.toNat_natCast]
        refine for_range (n := m) (fun j σ H' => ∃ ss k vs y1 y2, rdN Pl ws d j (i + 1) = .ok (ss, k) ∧ σ = [some (.ref wl), some (.int i), some (.int Pl), some (.int ((d + 1 : Nat) : Int)), some (.str x), none, some (.ref p0), some (.int (k : Nat)), y1, y2] ∧ Same H H' ∧ H' p0 = some (.lst (.str x :: vs)) ∧ RpA H' vs ss)
          ⟨[], i + 1, [], none, none, rfl, by simp [L2.start], same_new hp0 _, upd_same, .nil⟩ (fun j σ H' hj hv => ?_) (fun σ H' hv => ?_)
        · obtain ⟨ss, k, vs, y1, y2, hrd, rfl, s1, hl, ra⟩ := hv
          walk_at "ss"
          have hkk := rdN_facts (P := Pl) (ws := ws) (d := d) j (i + 1) (by omega)
          rw [hrd] at hkk
          refine ⟨wl, ws, k, Pl, d, by simp, by omega, by omega, by omega, hP1, hP, hkk.1, s1 _ _ hw, ?_⟩
          cases hr : rd Pl ws d k with
          | error e =>
            have q : rdN Pl ws d (j + 1) (i + 1) = .error e := by unfold rdN; rw [hrd]; dsimp only; rw [hr]
            rw [rdN_err (m := m) (by omega) q] at hr2
            rw [hr2] at h
            exact h.same s1
          | ok q =>
            obtain ⟨t, k2⟩ := q
            dsimp only
            intro H2 x2 v2 s2 e2 r2
            refine ⟨_, _, rfl, SqT.of e2, rfl, _, _, rfl, _, _, rfl, rfl, ?_⟩
            walk_at "ss"
            refine ⟨.inl ⟨rfl, _, SqL.of (s2 _ _ hl)⟩, ?_⟩
            walk_at "ss"
            have hl2 := s2 _ _ hl
            have tu := fun b xs (z : H2 b = some (.tup xs)) => tup_upd (o := .lst ((V.str x :: vs) ++ [v2])) hl2 z
            have q : rdN Pl ws d (j + 1) (i + 1) = .ok (ss ++ [t], k2) := by unfold rdN; rw [hrd]; dsimp only; rw [hr]
            refine ⟨_, _, _, rfl, rfl, s2 _ _ hl, smallt (by rw [List.length_cons, ra.len, hkk.2.1]; omega), ss ++ [t], k2, vs ++ [v2], _, _, q, rfl, same_over hp0 (s1.trans s2) _, upd_same, ?_⟩
            exact ((ra.same s2).snoc r2).tups tu
        · obtain ⟨ss, k, vs, y1, y2, hrd, rfl, s1, hl, ra⟩ := hv
          rw [hrd] at hr2
          obtain ⟨s, pt, hr3⟩ := hr2
          rw [hr3] at h
          walk_at "ss"
          refine ⟨_, _, rfl, .inl ⟨SqL.of hl, fun p1 hp1 => ?_⟩⟩
          walk_at "ss"
          refine ⟨small (by simp), fun p2 hp2 => ?_⟩
          walk_at "ss"
          exact h _ _ _ (s1.trans ((same_new hp1 _).trans (same_new hp2 _))) upd_same (.of pt (nw hp2 upd_same) (ra.same ((same_new hp1 _).trans (same_new hp2 _))))
end
end K14
/-! D5: the package's defs: read_sentence. -/
namespace K14
open PySem PySem.Spec PyProof.Rows L2 LamX Cov
/-- one step of a reading -/
local macro_rules | `(tactic| walk_at "s") => `(tactic| first | refine ⟨_, rfl, ?_⟩ | refine ⟨_, _, rfl, rfl, ?_⟩ | refine ⟨rfl, ?_⟩ | refine ⟨⟨_, rfl⟩, ?_⟩)
local macro_rules | `(tactic| walk_at "ss") => `(tactic| repeat walk_at "s")
section
variable {P : Program} {w : World} {K : PySem.W.Frag} {mg : Str → Option Value} {base : Heap}
theorem scread_sentence : FnScope ["places", "text", "words", "found", "here"] ["places", "text"] (defScope sread_sentence) := ⟨rfl, rfl, rfl, by decide +kernel, rfl, by decide +kernel, by decide +kernel⟩
/-- a value that is no text -/
inductive NoStr (H : Hp) : V → Prop
  | non : NoStr H .non
  | int (i : Int) : NoStr H (.int i)
  | lst {a : Addr} {xs : List V} (e : H a = some (.lst xs)) : NoStr H (.ref a)
  | tup {a : Addr} {xs : List V} (e : H a = some (.tup xs)) : NoStr H (.ref a)
def spRS (CT CP : Addr) : Sp := fun vs H Q E => (∃ (Pl n : Nat) (ws : List Str), vs = [.int Pl, .str (Txt.join sp ws)] ∧ 1 ≤ Pl ∧ Pl ≤ 6 ∧ Wl n ws ∧ n ≤ 100000 ∧
    match readAll Pl ws with
    | .ok s => ∀ H' v, Same H H' → RpS H' v s → Q v H'
    | .error e => bad E CT H (.int (e : Nat))) ∨
  (∃ x y, vs = [x, y] ∧ ((∃ i, x = .int i ∧ ¬ (1 ≤ i ∧ i ≤ 6)) ∨ (∃ b, x = .bl b) ∨ x = .non) ∧ E (.ref CP) none H) ∨
  (∃ y, vs = [.int 2, y] ∧ NoStr H y ∧ bad E CT H .non)
theorem ok_read_sentence {f fneed_place_count fread_part CT CP D fI : Addr} {fd fd1 fd2 : FuncData} (F : FnP K "read_sentence" sread_sentence f fd) (Z : Zs mg) (XBadText : PySem.SupX.SupTxt P K mg "BadText" CT D fI "index") (g_MOST_DEEP : mg "MOST_DEEP" = some (.int 8 t0))
    (Gneed_place_count : FnOk P w K mg base (L2.CX P w) 3 fneed_place_count fd1 ["places"] (spNP CP)) (Mneed_place_count : Dat K mg "need_place_count" fneed_place_count fd1 ["places"])
    (Gread_part : FnOk P w K mg base (L2.CX P w) 13 fread_part fd2 ["words", "spot", "places", "depth"] (spRP CT 8)) (Mread_part : Dat K mg "read_part" fread_part fd2 ["words", "spot", "places", "depth"]) :
    FnOk P w K mg base (L2.CX P w) 14 f fd ["places", "text"] (spRS CT CP) := by
  refine F.ok scread_sentence (fun vs H Q E h => ?_) (fun cdv A outer s H vs Q E hr h => ?_)
  · rcases h with ⟨_, _, _, rfl, _⟩ | ⟨_, _, rfl, _⟩ | ⟨_, rfl, _⟩ <;> rfl
  rcases h with ⟨Pl, n, ws, rfl, hP1, hP, hW, hn, h⟩ | ⟨x, y, rfl, hx, h⟩ | ⟨y, rfl, hy, h⟩
  · refine ⟨_, (pss_cons (ps_expr (pe_fx Gneed_place_count Mneed_place_count (hr.mono (by omega)) (takes_of rfl rfl rfl rfl) (pa_cons (pv 0) pa_nil)))
    (pss_cons (ps_if (pt_not (pt_val (pe_callB call_isi (by rfl) Z.isinstance_ (by decide +kernel) (pa_cons (pv 1) (pa_cons (pe_bltn (v := .ty "str") (by rfl) Z.str_ (by decide +kernel) rfl) pa_nil))))) (pss_one (ps_raiseSup rfl XBadText (hr.mono (show 0 + 1 ≤ _ by omega)) (takes_of rfl rfl rfl rfl) (pa_cons pe_non pa_nil) rfl)) pss_nil)
    (pss_cons (ps_set (i := 2) scread_sentence.nd rfl (Or.inl rfl) (pe_split (pv 1) pe_str))
    (pss_cons (ps_asg (pe_fx Gread_part Mread_part (hr.mono (by omega)) (takes_of rfl rfl rfl rfl) (pa_cons (pv 2) (pa_cons pe_int (pa_cons (pv 0) (pa_cons (pe_globI g_MOST_DEEP) pa_nil))))) (pg_tup rfl (pgs_cons (pg_name (i := 3) scread_sentence.nd rfl (Or.inl rfl)) (pgs_cons (pg_name (i := 4) scread_sentence.nd rfl (Or.inl rfl)) pgs_nil))))
    (pss_cons (ps_if (pt_cmpR op_lt (pv 4) (pe_callB call_len_seq (by rfl) Z.len_ (by decide +kernel) (pa_cons (pv 2) pa_nil)) (nomark _)) (pss_one (ps_raiseSup rfl XBadText (hr.mono (show 0 + 1 ≤ _ by omega)) (takes_of rfl rfl rfl rfl) (pa_cons (pv 4) pa_nil) rfl)) pss_nil)
    (pss_one (ps_ret (pv 3)))))))), ?_⟩
    walk_at "ss"
    refine .inl ⟨_, rfl, fun _ _ => ?_, fun c => absurd ⟨by omega, by omega⟩ c⟩
    walk_at "ss"
    refine ⟨_, _, _, _, true, rfl, .ty _, isi_str _, kit_ty (by decide +kernel), ?_⟩
    walk_at "ss"
    have hj := join_len hW hn
    refine ⟨hj, ?_⟩
    rw [show Str.ofString " " = sp from rfl, split_joined hW]
    intro p0 hp0
    walk_at "ss"
    refine ⟨p0, ws, 0, Pl, 8, rfl, by omega, by omega, by omega, hP1, hP, Nat.zero_le _, upd_same, ?_⟩
    have s0 := same_new hp0 (.lst (ws.map .str))
    unfold readAll at h
    cases hr : rd Pl ws 8 0 with
    | error e =>
      rw [hr] at h
      exact h.same s0
    | ok q =>
      obtain ⟨s, k⟩ := q
      rw [hr] at h
      dsimp only at h ⊢
      intro H1 x v s1 e1 r1
      refine ⟨_, _, rfl, SqT.of e1, rfl, _, _, rfl, _, _, rfl, rfl, ?_⟩
      walk_at "ss"
      refine ⟨_, _, rfl, .inl (SqL.of (s1 _ _ upd_same)), ?_⟩
      walk_at "ss"
      rw [List.length_map]
      refine ite2 (fun c => ?_) (fun c => ?_)
      · have hlt : k < ws.length := by
          have := of_decide_eq_true c
          omega
        rw [if_pos hlt] at h
        walk_at "ss"
        exact fun d hd => h H1 d (s0.trans s1) hd
      · have hlt : ¬ k < ws.length := fun z => c (decide_eq_true (by omega))
        rw [if_neg hlt] at h
        walk_at "ss"
        exact h H1 v (s0.trans s1) r1
  · refine ⟨_, (pss_cons (ps_expr (pe_fx Gneed_place_count Mneed_place_count (hr.mono (by omega)) (takes_of rfl rfl rfl rfl) (pa_cons (pv 0) pa_nil)))
    (pss_cons (ps_if (pt_not (pt_val (pe_callB call_isi (by rfl) Z.isinstance_ (by decide +kernel) (pa_cons (pv 1) (pa_cons (pe_bltn (v := .ty "str") (by rfl) Z.str_ (by decide +kernel) rfl) pa_nil))))) (pss_one (ps_raiseSup rfl XBadText (hr.mono (show 0 + 1 ≤ _ by omega)) (takes_of rfl rfl rfl rfl) (pa_cons pe_non pa_nil) rfl)) pss_nil)
    (pss_cons (ps_set (i := 2) scread_sentence.nd rfl (Or.inl rfl) (pe_split (pv 1) pe_str))
    (pss_cons (ps_asg (pe_fx Gread_part Mread_part (hr.mono (by omega)) (takes_of rfl rfl rfl rfl) (pa_cons (pv 2) (pa_cons pe_int (pa_cons (pv 0) (pa_cons (pe_globI g_MOST_DEEP) pa_nil))))) (pg_tup rfl (pgs_cons (pg_name (i := 3) scread_sentence.nd rfl (Or.inl rfl)) (pgs_cons (pg_name (i := 4) scread_sentence.nd rfl (Or.inl rfl)) pgs_nil))))
    (pss_cons (ps_if (pt_cmpR op_lt (pv 4) (pe_callB call_len_seq (by rfl) Z.len_ (by decide +kernel) (pa_cons (pv 2) pa_nil)) (nomark _)) (pss_one (ps_raiseSup rfl XBadText (hr.mono (show 0 + 1 ≤ _ by omega)) (takes_of rfl rfl rfl rfl) (pa_cons (pv 4) pa_nil) rfl)) pss_nil)
    (pss_one (ps_ret (pv 3)))))))), ?_⟩
    walk_at "ss"
    rcases hx with ⟨i, rfl, hi⟩ | ⟨b, rfl⟩ | rfl
    · exact .inl ⟨_, rfl, fun a b => absurd ⟨a, b⟩ hi, fun _ => h⟩
    · exact .inr (.inl ⟨⟨b, rfl⟩, h⟩)
    · exact .inr (.inr ⟨rfl, h⟩)
  · have hb : ∃ z, TyX K H y z ∧ PySem.W.kitOne K z (.type "str") = some false := by
      cases hy with
      | non => exact ⟨_, isi_non, kit_ty (by decide +kernel)⟩
      | int i => exact ⟨_, isi_int i, kit_ty (by decide +kernel)⟩
      | lst e => exact ⟨_, isi_lst e, kit_ty (by decide +kernel)⟩
      | tup e => exact ⟨_, isi_tup e, kit_ty (by decide +kernel)⟩
    obtain ⟨z, hz, hk⟩ := hb
    refine ⟨_, (pss_cons (ps_expr (pe_fx Gneed_place_count Mneed_place_count (hr.mono (by omega)) (takes_of rfl rfl rfl rfl) (pa_cons (pv 0) pa_nil)))
    (pss_cons (ps_if (pt_not (pt_val (pe_callB call_isi (by rfl) Z.isinstance_ (by decide +kernel) (pa_cons (pv 1) (pa_cons (pe_bltn (v := .ty "str") (by rfl) Z.str_ (by decide +kernel) rfl) pa_nil))))) (pss_one (ps_raiseSup rfl XBadText (hr.mono (show 0 + 1 ≤ _ by omega)) (takes_of rfl rfl rfl rfl) (pa_cons pe_non pa_nil) rfl)) pss_nil)
    (pss_cons (ps_set (i := 2) scread_sentence.nd rfl (Or.inl rfl) (pe_split (pv 1) pe_str))
    (pss_cons (ps_asg (pe_fx Gread_part Mread_part (hr.mono (by omega)) (takes_of rfl rfl rfl rfl) (pa_cons (pv 2) (pa_cons pe_int (pa_cons (pv 0) (pa_cons (pe_globI g_MOST_DEEP) pa_nil))))) (pg_tup rfl (pgs_cons (pg_name (i := 3) scread_sentence.nd rfl (Or.inl rfl)) (pgs_cons (pg_name (i := 4) scread_sentence.nd rfl (Or.inl rfl)) pgs_nil))))
    (pss_cons (ps_if (pt_cmpR op_lt (pv 4) (pe_callB call_len_seq (by rfl) Z.len_ (by decide +kernel) (pa_cons (pv 2) pa_nil)) (nomark _)) (pss_one (ps_raiseSup rfl XBadText (hr.mono (show 0 + 1 ≤ _ by omega)) (takes_of rfl rfl rfl rfl) (pa_cons (pv 4) pa_nil) rfl)) pss_nil)
    (pss_one (ps_ret (pv 3)))))))), ?_⟩
    walk_at "ss"
    refine .inl ⟨_, rfl, fun _ _ => ?_, fun c => absurd ⟨by omega, by omega⟩ c⟩
    walk_at "ss"
    refine ⟨_, _, _, _, false, rfl, .ty _, hz, hk, ?_⟩
    walk_at "ss"
    exact fun d hd => h H d (Same.refl H) hd
end
end K14
/-! L1: the law's defs: the state and its draws. -/
namespace K14
open PySem PySem.Spec PyProof.Rows L2 LamX Cov
/-- one step of a reading -/
local macro_rules | `(tactic| walk_at "s") => `(tactic| first | refine ⟨_, rfl, ?_⟩ | refine ⟨_, _, rfl, rfl, ?_⟩ | refine ⟨rfl, ?_⟩ | refine ⟨⟨_, rfl⟩, ?_⟩)
local macro_rules | `(tactic| walk_at "ss") => `(tactic| repeat walk_at "s")
section
variable {P : Program} {w : World} {K : PySem.W.Frag} {mg : Str → Option Value} {base : Heap} {T : List (Addr × Str)}
def stD (g c : Addr) (l t : Int) : HO := .dK [(.inr "great", .ref g), (.inr "cells", .ref c), (.inr "left", .int l), (.inr "turn", .int t)]
/-- the state of the draws -/
structure Stt (st g c : Addr) (B : Nat) (H : Hp) : Prop where
  cg : c ≠ g
  d : ∃ l t : Int, t.natAbs ≤ B ∧ H st = some (stD g c l t)
  gl : ∃ gs : List Int, H g = some (.lst (gs.map .int))
  cl : ∃ cs : List Int, H c = some (.lst (cs.map .int))
abbrev Fs (st g : Addr) : Addr → Prop := fun b => b = st ∨ b = g
theorem Stt.ext {st g c : Addr} {B : Nat} {F : Addr → Prop} {H H' : Hp} (h : Stt st g c B H) (e : Ext T F H H') (n1 : ¬ F st) (n2 : ¬ F g) (n3 : ¬ F c) : Stt st g c B H' := by
  obtain ⟨cg, ⟨l, t, ht, hd⟩, ⟨gs, hg⟩, ⟨cs, hc⟩⟩ := h
  exact ⟨cg, ⟨l, t, ht, e.keep _ _ hd n1 (fun _ z => by cases z)⟩, ⟨gs, e.keep _ _ hg n2 (fun _ z => by cases z)⟩, ⟨cs, e.keep _ _ hc n3 (fun _ z => by cases z)⟩⟩
theorem Stt.same {st g c : Addr} {B : Nat} {H H' : Hp} (h : Stt st g c B H) (e : Same H H') : Stt st g c B H' := by
  obtain ⟨cg, ⟨l, t, ht, hd⟩, ⟨gs, hg⟩, ⟨cs, hc⟩⟩ := h
  exact ⟨cg, ⟨l, t, ht, e _ _ hd⟩, ⟨gs, e _ _ hg⟩, ⟨cs, e _ _ hc⟩⟩
theorem Stt.mono {st g c : Addr} {B B' : Nat} {H : Hp} (h : Stt st g c B H) (e : B ≤ B') : Stt st g c B' H := by
  obtain ⟨cg, ⟨l, t, ht, hd⟩, hg, hc⟩ := h
  exact ⟨cg, ⟨l, t, by omega, hd⟩, hg, hc⟩
theorem get_great {H : Hp} {st g c : Addr} {l t : Int} (e : H st = some (stD g c l t)) : DGet H st (.str "great") (some (.ref g)) := .inl ⟨_, .inr "great", .inl e, rfl, rfl⟩
theorem get_cells {H : Hp} {st g c : Addr} {l t : Int} (e : H st = some (stD g c l t)) : DGet H st (.str "cells") (some (.ref c)) := .inl ⟨_, .inr "cells", .inl e, rfl, rfl⟩
theorem get_left {H : Hp} {st g c : Addr} {l t : Int} (e : H st = some (stD g c l t)) : DGet H st (.str "left") (some (.int l)) := .inl ⟨_, .inr "left", .inl e, rfl, rfl⟩
theorem get_turn {H : Hp} {st g c : Addr} {l t : Int} (e : H st = some (stD g c l t)) : DGet H st (.str "turn") (some (.int t)) := .inl ⟨_, .inr "turn", .inl e, rfl, rfl⟩
theorem put_left {H : Hp} {st g c : Addr} {l t : Int} (e : H st = some (stD g c l t)) (i : Int) : DPut H st (.str "left") (.int i) (upd H st (stD g c i t)) := .inl ⟨_, .inr "left", e, rfl, smallt (show 4 ≤ _ by decide), rfl⟩
theorem put_turn {H : Hp} {st g c : Addr} {l t : Int} (e : H st = some (stD g c l t)) (i : Int) : DPut H st (.str "turn") (.int i) (upd H st (stD g c l i)) := .inl ⟨_, .inr "turn", e, rfl, smallt (show 4 ≤ _ by decide), rfl⟩
/-- the state's dict is written -/
theorem Stt.put {st g c : Addr} {B B' : Nat} {H : Hp} {l t l' t' : Int} (h : Stt st g c B H) (e : H st = some (stD g c l t)) (ht : t'.natAbs ≤ B') : Stt st g c B' (upd H st (stD g c l' t')) := by
  obtain ⟨cg, _, ⟨gs, hg⟩, ⟨cs, hc⟩⟩ := h
  refine ⟨cg, ⟨l', t', ht, upd_same⟩, ⟨gs, ?_⟩, ⟨cs, ?_⟩⟩
  · rw [upd_ne (fun z => by rw [z, e] at hg; cases hg)]; exact hg
  · rw [upd_ne (fun z => by rw [z, e] at hc; cases hc)]; exact hc
theorem Stt.put_ext {st g c : Addr} {H : Hp} {l t : Int} (e : H st = some (stD g c l t)) (o : HO) : Ext T (Fs st g) H (upd H st o) := Ext.upd (.inl rfl) e mut_dK
theorem sc_law_blended : FnScope ["state", "turn", "found", "prime", "blend", "cell"] ["state"] (defScope s_law_blended) := ⟨rfl, rfl, rfl, by decide +kernel, rfl, by decide +kernel, by decide +kernel⟩
def spBl (T : List (Addr × Str)) : Sp := fun vs H Q _ => ∃ (st g c : Addr) (B : Nat), vs = [.ref st] ∧ Stt st g c B H ∧ B + 1 ≤ 2 ^ 40 ∧ ∀ H' i, Ext T (Fs st g) H H' → Stt st g c (B + 1) H' → Q (.int i) H'
theorem ok_blended {f : Addr} {fd : FuncData} (F : FnP K "_law_blended" s_law_blended f fd) (Z : Zs mg) : FnOk P w K mg base (L2.CX P w) 1 f fd ["state"] (spBl T) := by
  refine F.ok sc_law_blended (fun vs H Q E h => ?_) (fun cdv A outer s H vs Q E hr h => ?_)
  · obtain ⟨_, _, _, _, rfl, _⟩ := h
    rfl
  obtain ⟨st, g, c, B, rfl, hS, hB, h⟩ := h
  refine ⟨_, (pss_cons (ps_par (i := 1) (j := 2) (by rfl) sc_law_blended.nd rfl rfl (by decide) rfl rfl (pa_cons (pe_op op_add (pe_dget (hu_of hr) (pv 0) pe_str (fun _ _ => rfl)) pe_int) (pa_cons pe_int pa_nil)) (by rfl))
    (pss_cons (ps_dput (hu_of hr) (pv 0) pe_str (pv 1) rfl)
    (pss_cons (ps_for (passes_of rfl) rfl (pi_list (pe_lst (pa_cons pe_int (pa_cons pe_int (pa_cons pe_int pa_nil))))) (pg_name (i := 3) sc_law_blended.nd rfl (Or.inl rfl)) (pss_cons (ps_set (i := 4) sc_law_blended.nd rfl (Or.inl rfl) (pe_op op_add (pe_op op_mul pe_int (pv 1)) (pe_op op_fdiv (pv 3) pe_int)))
    (pss_cons (ps_for (passes_of rfl) rfl (pi_list (pe_dget (hu_of hr) (pv 0) pe_str (fun _ _ => rfl))) (pg_name (i := 5) sc_law_blended.nd rfl (Or.inl rfl)) (pss_one (ps_set (i := 4) sc_law_blended.nd rfl (Or.inl rfl) (pe_op op_mod (pe_callTy call_int1 (by rfl) Z.int_ (by decide +kernel) (pa_cons (pe_op op_add (pe_op op_add (pe_op op_mul (pv 4) pe_int) (pv 5)) (pv 1)) pa_nil)) (pv 3)))))
    (pss_one (ps_set (i := 2) sc_law_blended.nd rfl (Or.inl rfl) (pe_op op_add (pe_op op_mul (pv 2) pe_int) (pe_op op_mod (pe_callTy call_int1 (by rfl) Z.int_ (by decide +kernel) (pa_cons (pe_op op_pow (pv 4) pe_int) pa_nil)) (pv 3))))))))
    (pss_one (ps_ret (pv 2)))))), ?_⟩
  have hS0 := hS
  obtain ⟨cg, ⟨l, tn, ht, hd⟩, ⟨gs, hg⟩, ⟨cs, hc⟩⟩ := hS
  walk_at "ss"
  refine ⟨_, _, rfl, get_turn hd, ?_⟩
  walk_at "ss"
  refine ⟨_, _, rfl, ?_⟩
  walk_at "ss"
  refine ⟨_, _, rfl, put_turn hd _, ?_⟩
  have x1 : Ext T (Fs st g) H (upd H st (stD g c l (tn + 1))) := Stt.put_ext hd _
  have S1 : Stt st g c (B + 1) (upd H st (stD g c l (tn + 1))) := hS0.put hd (by omega)
  have hc1 : upd H st (stD g c l (tn + 1)) c = some (.lst (cs.map .int)) := by rw [upd_ne (fun z => by rw [z, hd] at hc; cases hc)]; exact hc
  have hd1 : upd H st (stD g c l (tn + 1)) st = some (stD g c l (tn + 1)) := upd_same
  generalize upd H st (stD g c l (tn + 1)) = H1 at x1 S1 hc1 hd1 ⊢
  walk_at "ss"
  refine ⟨small (by simp), fun p0 hp0 => ?_⟩
  have hc2 := same_new hp0 (.lst [.int 2147482063, .int 2147482021, .int 2147481997]) _ _ hc1
  have hd2 := same_new hp0 (.lst [.int 2147482063, .int 2147482021, .int 2147481997]) _ _ hd1
  have x2 : Ext T (Fs st g) H (upd H1 p0 (.lst [.int 2147482063, .int 2147482021, .int 2147481997])) := x1.trans (.same (same_new hp0 _))
  have S2 := S1.same (same_new hp0 (.lst [.int 2147482063, .int 2147482021, .int 2147481997]))
  have hl2 : upd H1 p0 (.lst [.int 2147482063, .int 2147482021, .int 2147481997]) p0 = _ := upd_same
  generalize upd H1 p0 (.lst [.int 2147482063, .int 2147482021, .int 2147481997]) = H2 at x2 S2 hc2 hd2 hl2 ⊢
  refine ⟨_, rfl, ⟨_, SqL.of hl2⟩, ?_⟩
  refine for_list (xs := [.int 2147482063, .int 2147482021, .int 2147481997]) (fun i σ H' => (∃ fo y1 y2 y3, σ = [some (.ref st), some (.int (tn + 1)), some (.int fo), y1, y2, y3]) ∧ H' = H2) ⟨⟨0, none, none, none, rfl⟩, rfl⟩ (fun i σ H' _ hv => by rw [hv.2]; exact SqL.of hl2) (fun i x σ H' hx hv => ?_) (fun σ H' hv => ?_)
  · obtain ⟨⟨fo, y1, y2, y3, rfl⟩, rfl⟩ := hv
    have hx2 : ∃ pr : Int, x = .int pr ∧ 0 < pr ∧ pr < 2 ^ 32 := by
      have := List.mem_of_getElem? hx
      simp only [List.mem_cons, List.not_mem_nil, or_false] at this
      rcases this with rfl | rfl | rfl <;> exact ⟨_, rfl, by decide, by decide⟩
    obtain ⟨pr, rfl, hp1, hp2⟩ := hx2
    walk_at "ss"
    refine ⟨.inl ⟨by decide, by decide⟩, ?_⟩
    walk_at "ss"
    refine ⟨⟨by decide, by decide⟩, ?_⟩
    walk_at "ss"
    refine ⟨_, _, rfl, get_cells hd2, ?_⟩
    refine ⟨_, rfl, ⟨_, SqL.of hc2⟩, ?_⟩
    have hb0 : (40127 * (tn + 1) + pr / 71).natAbs < 2 ^ 64 := by omega
    refine for_list (xs := cs.map .int) (fun i σ H3 => (∃ b : Int, ∃ y3, σ = [some (.ref st), some (.int (tn + 1)), some (.int fo), some (.int pr), some (.int b), y3] ∧ b.natAbs < 2 ^ 64) ∧ H3 = H') ⟨⟨_, _, rfl, hb0⟩, rfl⟩ (fun i σ H' _ hv => by rw [hv.2]; exact SqL.of hc2) (fun i x σ H3 hx hv => ?_) (fun σ H3 hv => ?_)
    · obtain ⟨⟨b, y4, rfl, hb⟩, rfl⟩ := hv
      have hx2 : ∃ ce : Int, x = .int ce := by
        obtain ⟨ce, _, rfl⟩ := List.mem_map.mp (List.mem_of_getElem? hx)
        exact ⟨ce, rfl⟩
      obtain ⟨ce, rfl⟩ := hx2
      walk_at "ss"
      refine ⟨.inr ⟨by decide, by decide⟩, ?_⟩
      walk_at "ss"
      refine .inl ⟨_, rfl, ?_⟩
      walk_at "ss"
      refine ⟨hp1, ?_⟩
      refine ⟨⟨_, _, rfl, ?_⟩, rfl⟩
      have h1 := Int.emod_nonneg (b * 69621 + ce + (tn + 1)) (show pr ≠ 0 by omega)
      have h2 := Int.emod_lt_of_pos (b * 69621 + ce + (tn + 1)) hp1
      show ((b * 69621 + ce + (tn + 1)) % pr).natAbs < 2 ^ 64
      omega
    · obtain ⟨⟨b, y4, rfl, hb⟩, rfl⟩ := hv
      walk_at "ss"
      refine ⟨.inr ⟨by decide, by decide⟩, ?_⟩
      walk_at "ss"
      refine ⟨⟨by decide, by decide, hb⟩, ?_⟩
      walk_at "ss"
      refine .inl ⟨_, rfl, ?_⟩
      walk_at "ss"
      refine ⟨hp1, ?_⟩
      walk_at "ss"
      exact ⟨⟨_, _, _, _, rfl⟩, rfl⟩
  · obtain ⟨⟨fo, y1, y2, y3, rfl⟩, rfl⟩ := hv
    walk_at "ss"
    exact h _ _ x2 S2
theorem seq_by {a b : TS} {D : Ends} {σ : L2.St} {H : Hp} (Mid : L2.St → Hp → Prop) (ha : ∀ N, (∀ σ' H', Mid σ' H' → N σ' H') → a { D with nx := N } σ H) (hb : ∀ σ' H', Mid σ' H' → b D σ' H') : tSeq a b D σ H := ha (b D) hb
theorem ints_all {K : PySem.W.Frag} {H : Hp} : ∀ gs : List Int, DpAll K H (gs.map .int) (gs.map PyData.int)
  | [] => .nil
  | g :: gs => .cons (.int g) (ints_all gs)
theorem ints_lay : ∀ gs : List Int, PyData.canLayAll0 (gs.map PyData.int) = true ∧ PyData.depthAll (gs.map PyData.int) ≤ 1
  | [] => ⟨rfl, by simp [PyData.depthAll]⟩
  | g :: gs => by
    obtain ⟨h1, h2⟩ := ints_lay gs
    constructor
    · simp [PyData.canLayAll0, PyData.canLay0, h1]
    · simp [PyData.depthAll, PyData.depth]
      omega
theorem ints_shaped (gs : List Int) : SeqAt.shaped (.list (gs.map PyData.int)) = true := by
  obtain ⟨h1, h2⟩ := ints_lay gs
  unfold SeqAt.shaped
  simp [PyData.canLay0, h1, PyData.depth]
  omega
theorem ints_nil (gs : List Int) : PyData.eqv (.list (gs.map PyData.int)) (.list []) = gs.isEmpty := by
  cases gs <;> simp [PyData.eqv, PyData.eqvAll]
theorem sc_law_draw : FnScope ["state", "size", "found"] ["state", "size"] (defScope s_law_draw) := ⟨rfl, rfl, rfl, by decide +kernel, rfl, by decide +kernel, by decide +kernel⟩
def spDr (T : List (Addr × Str)) : Sp := fun vs H Q _ => ∃ (st g c : Addr) (B n : Nat), vs = [.ref st, .int n] ∧ 0 < n ∧ n ≤ 1000000 ∧ Stt st g c B H ∧ B + 1 ≤ 2 ^ 40 ∧ ∀ H' k, k < n → Ext T (Fs st g) H H' → Stt st g c (B + 1) H' → Q (.int (k : Nat)) H'
theorem ok_draw {f f_law_blended : Addr} {fd fdb : FuncData} (F : FnP K "_law_draw" s_law_draw f fd) (Z : Zs mg) (G_law_blended : FnOk P w K mg base (L2.CX P w) 1 f_law_blended fdb ["state"] (spBl T)) (M_law_blended : Dat K mg "_law_blended" f_law_blended fdb ["state"]) :
    FnOk P w K mg base (L2.CX P w) 2 f fd ["state", "size"] (spDr T) := by
  refine F.ok sc_law_draw (fun vs H Q E h => ?_) (fun cdv A outer s H vs Q E hr h => ?_)
  · obtain ⟨_, _, _, _, _, rfl, _⟩ := h
    rfl
  obtain ⟨st, g, c, B, n, rfl, hn, hn2, hS, hB, h⟩ := h
  refine ⟨_, (pss_cons (ps_if (pt_cmpR op_eq (pe_dget (hu_of hr) (pv 0) pe_str (fun _ _ => rfl)) pe_int (nomark _)) (pss_one (ps_dput (hu_of hr) (pv 0) pe_str (pe_ifExp (pt_cmpR (op_neD hr.units) (pe_dget (hu_of hr) (pv 0) pe_str (fun _ _ => rfl)) (pe_lst pa_nil) (nomark _)) (pe_bm PySem.F.plainAttrs_list PySem.F.slot_list_pop PySem.F.type_list_pop mt_popAt (pe_dget (hu_of hr) (pv 0) pe_str (fun _ _ => rfl)) (pa_cons pe_int pa_nil)) (pe_fn G_law_blended M_law_blended (hr.mono (by omega)) (pa_cons (pv 0) pa_nil))) rfl)) pss_nil)
    (pss_cons (ps_set (i := 2) sc_law_draw.nd rfl (Or.inl rfl) (pe_op op_mod (pe_callTy call_int1 (by rfl) Z.int_ (by decide +kernel) (pa_cons (pe_dget (hu_of hr) (pv 0) pe_str (fun _ _ => rfl)) pa_nil)) (pv 1)))
    (pss_cons (ps_dput (hu_of hr) (pv 0) pe_str (pe_op op_fdiv (pe_callTy call_int1 (by rfl) Z.int_ (by decide +kernel) (pa_cons (pe_dget (hu_of hr) (pv 0) pe_str (fun _ _ => rfl)) pa_nil)) (pv 1)) rfl)
    (pss_one (ps_ret (pv 2)))))), ?_⟩
  have hS0 := hS
  obtain ⟨cg, ⟨l, tn, ht, hd⟩, ⟨gs, hg⟩, ⟨cs, hc⟩⟩ := hS
  refine seq_by (fun σ' H' => σ' = [some (.ref st), some (.int n), none] ∧ Ext T (Fs st g) H H' ∧ Stt st g c (B + 1) H') (fun N hN => ?_) (fun σ' H1 hm => ?_)
  · walk_at "ss"
    refine ⟨_, _, rfl, get_left hd, ?_⟩
    walk_at "ss"
    refine ite2 (fun c1 => ?_) (fun c1 => ?_)
    · walk_at "ss"
      refine ⟨_, _, rfl, get_great hd, ?_⟩
      walk_at "ss"
      refine ⟨small (by simp), fun p0 hp0 => ?_⟩
      refine ⟨_, _, .lst (SqL.of (nw hp0 hg)) (ints_all gs), .lst (SqL.of upd_same) .nil, ints_shaped gs, by decide +kernel, ?_⟩
      rw [ints_nil]
      have s1 := same_new hp0 (.lst [])
      cases gs with
      | nil =>
        walk_at "ss"
        refine ⟨st, g, c, B, rfl, hS0.same s1, hB, fun H2 i x2 S2 => ?_⟩
        walk_at "ss"
        obtain ⟨_, ⟨l1, tn1, ht1, hd1⟩, _, _⟩ := id S2
        refine ⟨_, _, rfl, put_left hd1 _, hN _ _ ⟨rfl, ((Ext.same s1).trans x2).trans (Stt.put_ext hd1 _), S2.put hd1 ht1⟩⟩
      | cons g0 gs =>
        walk_at "ss"
        refine ⟨_, _, rfl, get_great (nw hp0 hd), ?_⟩
        walk_at "ss"
        refine ⟨.inl ⟨rfl, _, SqL.of (nw hp0 hg)⟩, ?_⟩
        walk_at "ss"
        refine ⟨_, _, _, 0, _, rfl, rfl, nw hp0 hg, by decide, by decide, ?_, rfl, ?_⟩
        · unfold seqIndex?
          simp
        walk_at "ss"
        have hgs : g ≠ st := fun z => by rw [z, hd] at hg; cases hg
        have hd1 : upd (upd H p0 (.lst [])) g (.lst (gs.map .int)) st = some (stD g c l tn) := by
          rw [upd_ne (Ne.symm hgs)]
          exact nw hp0 hd
        have S1 : Stt st g c B (upd (upd H p0 (.lst [])) g (.lst (gs.map .int))) := ⟨cg, ⟨l, tn, ht, hd1⟩, ⟨gs, upd_same⟩, ⟨cs, by rw [upd_ne cg]; exact nw hp0 hc⟩⟩
        have x1 : Ext T (Fs st g) H (upd (upd H p0 (.lst [])) g (.lst (gs.map .int))) := (Ext.same s1).trans (Ext.upd (.inr rfl) (nw hp0 hg) mut_lst)
        refine ⟨_, _, rfl, put_left hd1 _, hN _ _ ⟨rfl, x1.trans (Stt.put_ext hd1 _), S1.put hd1 (by omega)⟩⟩
    · exact hN _ _ ⟨rfl, .refl, hS0.mono (by omega)⟩
  · obtain ⟨rfl, x1, S1⟩ := hm
    have S10 := S1
    obtain ⟨_, ⟨l1, tn1, ht1, hd1⟩, _, _⟩ := S1
    walk_at "ss"
    refine ⟨_, _, rfl, get_left hd1, ?_⟩
    walk_at "ss"
    refine .inl ⟨_, rfl, ?_⟩
    walk_at "ss"
    refine ⟨by omega, ?_⟩
    walk_at "ss"
    refine ⟨_, _, rfl, get_left hd1, ?_⟩
    walk_at "ss"
    refine .inl ⟨_, rfl, ?_⟩
    walk_at "ss"
    refine ⟨⟨by omega, by omega⟩, ?_⟩
    walk_at "ss"
    refine ⟨_, _, rfl, put_left hd1 _, ?_⟩
    walk_at "ss"
    have h1 := Int.emod_nonneg l1 (show (n : Int) ≠ 0 by omega)
    have h2 := Int.emod_lt_of_pos l1 (show (0 : Int) < n by omega)
    have h3 := h (upd H1 st (stD g c (l1 / n) tn1)) (l1 % n).toNat (by omega) (x1.trans (Stt.put_ext hd1 _)) (S10.put hd1 ht1)
    rw [Int.toNat_of_nonneg h1] at h3
    exact h3
end
end K14
/-! L2: picks and the first state -/
namespace K14
open PySem PySem.Spec PyProof.Rows L2 LamX Cov
/-- one step of a reading -/
local macro_rules | `(tactic| walk_at "s") => `(tactic| first | refine ⟨_, rfl, ?_⟩ | refine ⟨_, _, rfl, rfl, ?_⟩ | refine ⟨rfl, ?_⟩ | refine ⟨⟨_, rfl⟩, ?_⟩)
local macro_rules | `(tactic| walk_at "ss") => `(tactic| repeat walk_at "s")
section
variable {P : Program} {w : World} {K : PySem.W.Frag} {mg : Str → Option Value} {base : Heap} {T : List (Addr × Str)}
theorem sc_law_pick : FnScope ["state", "several"] ["state", "several"] (defScope s_law_pick) := ⟨rfl, rfl, rfl, by decide +kernel, rfl, by decide +kernel, by decide +kernel⟩
def spPi (T : List (Addr × Str)) : Sp := fun vs H Q _ => ∃ (st g c sl : Addr) (B : Nat) (xs : List V), vs = [.ref st, .ref sl] ∧ Stt st g c B H ∧ B + 1 ≤ 2 ^ 40 ∧ Li (Fs st g) H sl xs ∧ 0 < xs.length ∧ xs.length ≤ 1000000 ∧
  ∀ (H' : Hp) (k : Nat) (x : V), xs[k]? = some x → Ext T (Fs st g) H H' → Stt st g c (B + 1) H' → Q x H'
theorem ok_pick {f f_law_draw : Addr} {fd fdb : FuncData} (F : FnP K "_law_pick" s_law_pick f fd) (Z : Zs mg) (G_law_draw : FnOk P w K mg base (L2.CX P w) 2 f_law_draw fdb ["state", "size"] (spDr T)) (M_law_draw : Dat K mg "_law_draw" f_law_draw fdb ["state", "size"]) :
    FnOk P w K mg base (L2.CX P w) 3 f fd ["state", "several"] (spPi T) := by
  refine F.ok sc_law_pick (fun vs H Q E h => ?_) (fun cdv A outer s H vs Q E hr h => ?_)
  · obtain ⟨_, _, _, _, _, _, rfl, _⟩ := h
    rfl
  obtain ⟨st, g, c, sl, B, xs, rfl, hS, hB, hl, h0, h1, h⟩ := h
  refine ⟨_, (pss_one (ps_ret (pe_ix ix_list (pv 1) (pe_fn G_law_draw M_law_draw (hr.mono (by omega)) (pa_cons (pv 0) (pa_cons (pe_callB call_len_seq (by rfl) Z.len_ (by decide +kernel) (pa_cons (pv 1) pa_nil)) pa_nil))) (fun _ _ => rfl)))), ?_⟩
  walk_at "ss"
  refine ⟨_, _, rfl, .inl (SqL.of hl.1), ?_⟩
  walk_at "ss"
  refine ⟨st, g, c, B, xs.length, rfl, h0, h1, hS, hB, fun H1 k hk x1 S1 => ?_⟩
  walk_at "ss"
  have hk2 : xs[k]? = some xs[k] := List.getElem?_eq_getElem hk
  refine ⟨_, _, _, _, rfl, rfl, (hl.ext x1).sq, atI_nat hk2, ?_⟩
  exact h _ k _ hk2 x1 S1
theorem sc_law_begun : FnScope ["script", "great", "cell"] ["script"] (defScope s_law_begun) := ⟨rfl, rfl, rfl, by decide +kernel, rfl, by decide +kernel, by decide +kernel⟩
def spBe : Sp := fun vs H Q _ => ∃ (sc : Addr) (ns : List Int), vs = [.ref sc] ∧ SqL K H sc (ns.map .int) ∧ ns.length ≤ 100000 ∧ ∀ H' st g c, Same H H' → H st = none → H g = none → H c = none → Stt st g c 0 H' → Q (.ref st) H'
theorem sameL {K : PySem.W.Frag} {H H' : Hp} {a : Addr} {xs : List V} (s : Same H H') (h : SqL K H a xs) : SqL K H' a xs := by
  rcases h with (h | ⟨o, h⟩) | h
  · exact .inl (.inl (s _ _ h))
  · exact .inl (.inr ⟨o, s _ _ h⟩)
  · exact .inr h
theorem ok_begun {f : Addr} {fd : FuncData} (F : FnP K "_law_begun" s_law_begun f fd) (Z : Zs mg) : FnOk P w K mg base (L2.CX P w) 1 f fd ["script"] (spBe (K := K)) := by
  refine F.ok sc_law_begun (fun vs H Q E h => ?_) (fun cdv A outer s H vs Q E hr h => ?_)
  · obtain ⟨_, _, rfl, _⟩ := h
    rfl
  obtain ⟨sc, ns, rfl, hs, hn, h⟩ := h
  refine ⟨_, (pss_cons (ps_setLc (i := 1) (own := [("cell", 2)]) (g := gName 2) rfl sc_law_begun.nd rfl rfl (sw_true rfl rfl rfl (by decide +kernel)) (pi_list (pv 0)) (blkOk_by (own := [("cell", 2)]) (N := ["script", "great", "cell"]) (sc := defScope s_law_begun) (by decide +kernel)) (fun _ _ _ _ _ => pg_name (i := 2) sc_law_begun.nd rfl (Or.inl rfl)) (fun _ _ _ _ _ => (pts_one (pt_cmpR op_ge (pe_callB call_abs (by rfl) Z.abs_ (by decide +kernel) (pa_cons (pv 2) pa_nil)) (pe_op op_pow pe_int pe_int) (nomark _)))) (fun _ _ _ _ _ => (pe_op op_sub (pe_callB call_abs (by rfl) Z.abs_ (by decide +kernel) (pa_cons (pv 2) pa_nil)) (pe_op op_pow pe_int pe_int))))
    (pss_one (ps_ret (pe_disp (pps_cons pe_str (pv 1) (pps_cons pe_str (pe_lc (own := [("cell", 2)]) (g := gName 2) (tt := tYes) rfl sc_law_begun.nd (pi_list (pv 0)) (blkOk_by (own := [("cell", 2)]) (N := ["script", "great", "cell"]) (sc := defScope s_law_begun) (by decide +kernel)) (fun _ _ _ _ _ => pg_name (i := 2) sc_law_begun.nd rfl (Or.inl rfl)) (fun _ _ _ _ _ => pts_nil) (fun _ _ _ _ _ => (pe_callB call_abs (by rfl) Z.abs_ (by decide +kernel) (pa_cons (pv 2) pa_nil)))) (pps_cons pe_str pe_int (pps_cons pe_str pe_int pps_nil)))) (by rfl) (by rfl) (fun z => by cases z) (by decide))))), ?_⟩
  walk_at "ss"
  refine ⟨⟨_, hs⟩, fun D hD => ?_⟩
  refine lc_list (xs := ns.map .int) (fun i H' => Same H H' ∧ ∃ gs : List Int, gs.length ≤ i ∧ H' D = some (.lst (gs.map .int))) ⟨same_new hD _, [], Nat.le_refl 0, upd_same⟩ (fun i H' _ hv => sameL hv.1 hs) (fun i x H' hx hv => ?_) (fun H' hv => ?_)
  · obtain ⟨s1, gs, hg, hl⟩ := hv
    have hi : i < (ns.map V.int).length := get_lt hx
    rw [List.length_map] at hi
    obtain ⟨ce, _, rfl⟩ := List.mem_map.mp (List.mem_of_getElem? hx)
    walk_at "ss"
    refine ⟨⟨by decide, by decide, by decide⟩, ?_⟩
    walk_at "ss"
    refine ite2 (fun c1 => ?_) (fun c1 => ?_)
    · walk_at "ss"
      refine ⟨⟨by decide, by decide, by decide⟩, ?_⟩
      walk_at "ss"
      refine ⟨_, hl, smallt (by rw [List.length_map]; omega), same_over hD s1 _, gs ++ [(if ce < 0 then -ce else ce) - 10 ^ Int.toNat 18], by rw [List.length_append, List.length_singleton]; omega, ?_⟩
      rw [upd_same, List.map_append]
      rfl
    · exact ⟨s1, gs, by omega, hl⟩
  · obtain ⟨s1, gs, hg, hl⟩ := hv
    walk_at "ss"
    intro p hp
    walk_at "ss"
    have s2 := same_new hp (.dK [])
    refine ⟨⟨_, sameL (s1.trans s2) hs⟩, fun D2 hD2 => ?_⟩
    refine lc_list (xs := ns.map .int) (fun i H3 => Same (upd H' p (.dK [])) H3 ∧ ∃ cs : List Int, cs.length ≤ i ∧ H3 D2 = some (.lst (cs.map .int))) ⟨same_new hD2 _, [], Nat.le_refl 0, upd_same⟩ (fun i H3 _ hv => sameL ((s1.trans s2).trans hv.1) hs) (fun i x H3 hx hv => ?_) (fun H3 hv => ?_)
    · obtain ⟨s3, cs, hc, hl3⟩ := hv
      have hi : i < (ns.map V.int).length := get_lt hx
      rw [List.length_map] at hi
      obtain ⟨ce, _, rfl⟩ := List.mem_map.mp (List.mem_of_getElem? hx)
      walk_at "ss"
      refine ⟨_, hl3, smallt (by rw [List.length_map]; omega), same_over hD2 s3 _, cs ++ [if ce < 0 then -ce else ce], by rw [List.length_append, List.length_singleton]; omega, ?_⟩
      rw [upd_same, List.map_append]
      rfl
    · obtain ⟨s3, cs, hc, hl3⟩ := hv
      walk_at "ss"
      refine ⟨s3 _ _ upd_same, [(.inr "great", .ref D), (.inr "cells", .ref D2), (.inr "left", .int 0), (.inr "turn", .int 0)], rfl, (show 4 ≤ 15 by decide), ?_⟩
      have nD : H' p ≠ H' D := by rw [hp, hl]; exact fun z => by cases z
      have hpD : D ≠ p := fun z => by rw [z, hp] at hl; cases hl
      have hDD : D ≠ D2 := fun z => by
        have := (s2 _ _ hl)
        rw [z, hD2] at this
        cases this
      have hpD2 : D2 ≠ p := fun z => by rw [z, upd_same] at hD2; cases hD2
      have hS : Stt p D D2 0 (upd H3 p (.dK (mergeK [] [(.inr "great", .ref D), (.inr "cells", .ref D2), (.inr "left", .int 0), (.inr "turn", .int 0)]))) := by
        refine ⟨Ne.symm hDD, ⟨0, 0, Nat.le_refl 0, upd_same⟩, ⟨gs, ?_⟩, ⟨cs, ?_⟩⟩
        · rw [upd_ne hpD]; exact s3 _ _ (s2 _ _ hl)
        · rw [upd_ne hpD2]; exact hl3
      have hnone : ∀ b, H' b = none → H b = none := fun b z => by
        cases e : H b with
        | none => rfl
        | some o => rw [s1 _ _ e] at z; cases z
      refine h _ p D D2 ?_ (hnone _ hp) hD ?_ hS
      · exact same_over (hnone _ hp) ((s1.trans s2).trans s3) _
      · have : H' D2 = none := by
          cases e : H' D2 with
          | none => rfl
          | some o => rw [s2 _ _ e] at hD2; cases hD2
        exact hnone _ this

end
end K14
/-! L3: sentences at random -/
namespace K14
open PySem PySem.Spec PyProof.Rows L2 LamX Cov
/-- one step of a reading -/
local macro_rules | `(tactic| walk_at "s") => `(tactic| first | refine ⟨_, rfl, ?_⟩ | refine ⟨_, _, rfl, rfl, ?_⟩ | refine ⟨rfl, ?_⟩ | refine ⟨⟨_, rfl⟩, ?_⟩)
local macro_rules | `(tactic| walk_at "ss") => `(tactic| repeat walk_at "s")
section
variable {P : Program} {w : World} {K : PySem.W.Frag} {mg : Str → Option Value} {base : Heap} {T : List (Addr × Str)}
theorem sc_law_is_whole : FnScope ["thing"] ["thing"] (defScope s_law_is_whole) := ⟨rfl, rfl, rfl, by decide +kernel, rfl, by decide +kernel, by decide +kernel⟩
/-- _law_is_whole(thing), of a number or a tuple -/
def spWh : Sp := fun vs H Q _ => ∃ x, vs = [x] ∧ ((∃ i, x = .int i ∧ Q (.bl true) H) ∨ (∃ a xs, x = .ref a ∧ H a = some (.tup xs) ∧ Q (.bl false) H))
theorem ok_is_whole {f : Addr} {fd : FuncData} (F : FnP K "_law_is_whole" s_law_is_whole f fd) (Z : Zs mg) : FnOk P w K mg base (L2.CX P w) 1 f fd ["thing"] spWh := by
  refine F.ok sc_law_is_whole (fun vs H Q E h => ?_) (fun cdv A outer s H vs Q E hr h => ?_)
  · obtain ⟨x, rfl, _⟩ := h
    rfl
  obtain ⟨x, rfl, h⟩ := h
  refine ⟨_, (pss_one (ps_ret (pe_and (pe_callB call_isi (by rfl) Z.isinstance_ (by decide +kernel) (pa_cons (pv 0) (pa_cons (pe_bltn (v := .ty "int") (by rfl) Z.int_ (by decide +kernel) rfl) pa_nil))) (pe_one (pe_not (pe_callB call_isi (by rfl) Z.isinstance_ (by decide +kernel) (pa_cons (pv 0) (pa_cons (pe_bltn (v := .ty "bool") (by rfl) Z.bool_ (by decide +kernel) rfl) pa_nil)))))))), ?_⟩
  rcases h with ⟨i, rfl, h⟩ | ⟨a, xs, rfl, e, h⟩
  · walk_at "ss"
    refine ⟨_, _, _, _, true, rfl, .ty _, isi_int i, kit_ty (by decide +kernel), ?_⟩
    walk_at "ss"
    refine ⟨_, _, _, _, false, rfl, .ty _, isi_int i, kit_ty (by decide +kernel), ?_⟩
    walk_at "ss"
    exact h
  · walk_at "ss"
    refine ⟨_, _, _, _, false, rfl, .ty _, isi_tup e, kit_ty (by decide +kernel), ?_⟩
    walk_at "ss"
    exact h
theorem sc_law_said : FnScope ["state", "places", "deep", "way"] ["state", "places", "deep"] (defScope s_law_said) := ⟨rfl, rfl, rfl, by decide +kernel, rfl, by decide +kernel, by decide +kernel⟩
def spSa (T : List (Addr × Str)) (n : Nat) : Sp := fun vs H Q _ => ∃ (st g c : Addr) (B Pl d : Nat), vs = [.ref st, .int Pl, .int d] ∧ Stt st g c B H ∧ B + 4 ^ d ≤ 2 ^ 40 ∧ 1 ≤ Pl ∧ Pl ≤ 6 ∧ 1 ≤ d ∧ d ≤ n ∧
  ∀ H' v s, Ext T (Fs st g) H H' → Stt st g c (B + 4 ^ d) H' → RpS H' v s → s.ok Pl d → Q v H'
theorem ok_said {f f_law_draw : Addr} {fd fdb : FuncData} (F : FnP K "_law_said" s_law_said f fd) (Z : Zs mg) (G_law_draw : FnOk P w K mg base (L2.CX P w) 2 f_law_draw fdb ["state", "size"] (spDr T)) (M_law_draw : Dat K mg "_law_draw" f_law_draw fdb ["state", "size"]) (M_law_said : Dat K mg "_law_said" f fd ["state", "places", "deep"]) :
    ∀ n, FnOk P w K mg base (L2.CX P w) (n + 3) f fd ["state", "places", "deep"] (spSa T n) := by
  intro n
  induction n with
  | zero =>
    have no : ∀ vs H Q E, ¬ spSa T 0 vs H Q E := fun vs H Q E h => by
      obtain ⟨_, _, _, _, _, d, _, _, _, _, _, h1, h2, _⟩ := h
      omega
    exact ⟨fun vs H Q E h => absurd h (no vs H Q E), fun A outer s H args us vs Q E _ _ _ _ h => absurd h (no vs H Q E)⟩
  | succ n G_law_said =>
    refine F.ok sc_law_said (fun vs H Q E h => ?_) (fun cdv A outer s H vs Q E hr h => ?_)
    · obtain ⟨_, _, _, _, _, _, rfl, _⟩ := h
      rfl
    obtain ⟨st, g, c, B, Pl, d, rfl, hS, hB, hP1, hP, hd1, hd, h⟩ := h
    obtain ⟨d, rfl⟩ : ∃ d', d = d' + 1 := ⟨d - 1, by omega⟩
    have h4 : 4 ^ (d + 1) = 4 * 4 ^ d := by rw [Nat.pow_succ, Nat.mul_comm]
    have h5 : 1 ≤ 4 ^ d := Nat.one_le_pow _ _ (by decide)
    rw [h4] at hB h
    obtain ⟨q, hq⟩ : ∃ q, q = 4 ^ d := ⟨_, rfl⟩
    rw [← hq] at hB h h5
    refine ⟨_, (pss_cons (ps_set (i := 3) sc_law_said.nd rfl (Or.inl rfl) (pe_fn G_law_draw M_law_draw (hr.mono (by omega)) (pa_cons (pv 0) (pa_cons pe_int pa_nil))))
    (pss_cons (ps_if (PW.pt (pw_or (pt_cmpR op_eq (pv 2) pe_int (nomark _)) (pw_or1 (pt_cmpR op_lt (pv 3) pe_int (nomark _))))) (pss_one (ps_ret (pe_tup (pa_cons pe_str (pa_cons (pe_fn G_law_draw M_law_draw (hr.mono (by omega)) (pa_cons (pv 0) (pa_cons (pv 1) pa_nil))) (pa_cons (pe_fn G_law_draw M_law_draw (hr.mono (by omega)) (pa_cons (pv 0) (pa_cons pe_int pa_nil))) pa_nil)))))) pss_nil)
    (pss_cons (ps_if (pt_cmpR op_eq (pv 3) pe_int (nomark _)) (pss_one (ps_ret (pe_tup (pa_cons pe_str (pa_cons (pe_fn G_law_said M_law_said (hr.mono (by omega)) (pa_cons (pv 0) (pa_cons (pv 1) (pa_cons (pe_op op_sub (pv 2) pe_int) pa_nil)))) pa_nil))))) pss_nil)
    (pss_one (ps_ret (pe_tup (pa_cons (pe_ifExp (pt_cmpR op_lt (pv 3) pe_int (nomark _)) pe_str pe_str) (pa_cons (pe_fn G_law_said M_law_said (hr.mono (by omega)) (pa_cons (pv 0) (pa_cons (pv 1) (pa_cons (pe_op op_sub (pv 2) pe_int) pa_nil)))) (pa_cons (pe_fn G_law_said M_law_said (hr.mono (by omega)) (pa_cons (pv 0) (pa_cons (pv 1) (pa_cons (pe_op op_sub (pv 2) pe_int) pa_nil)))) pa_nil))))))))), ?_⟩
    walk_at "ss"
    refine ⟨st, g, c, B, 7, rfl, by decide, by decide, hS, by omega, fun H1 way hw x1 S1 => ?_⟩
    walk_at "ss"
    refine ite2 (fun c1 => ?_) (fun c1 => ?_)
    · skip
      walk_at "ss"
      refine ⟨st, g, c, _, Pl, rfl, by omega, by omega, S1, by omega, fun H2 p hp x2 S2 => ?_⟩
      walk_at "ss"
      refine ⟨st, g, c, _, 2, rfl, by omega, by omega, S2, by omega, fun H3 a ha x3 S3 => ?_⟩
      walk_at "ss"
      refine ⟨small (by simp), fun p0 hp0 => ?_⟩
      exact h _ _ _ ((x1.trans (x2.trans x3)).trans (.same (same_new hp0 _))) ((S3.same (same_new hp0 _)).mono (by omega)) (.is upd_same) ⟨hp, ha⟩
    have hd0 : d ≠ 0 := fun z => c1 (decide_eq_true (by subst z; rfl))
    walk_at "ss"
    refine ite2 (fun c2 => ?_) (fun c2 => ?_)
    · skip
      walk_at "ss"
      refine ⟨st, g, c, _, Pl, rfl, by omega, by omega, S1, by omega, fun H2 p hp x2 S2 => ?_⟩
      walk_at "ss"
      refine ⟨st, g, c, _, 2, rfl, by omega, by omega, S2, by omega, fun H3 a ha x3 S3 => ?_⟩
      walk_at "ss"
      refine ⟨small (by simp), fun p0 hp0 => ?_⟩
      exact h _ _ _ ((x1.trans (x2.trans x3)).trans (.same (same_new hp0 _))) ((S3.same (same_new hp0 _)).mono (by omega)) (.is upd_same) ⟨hp, ha⟩
    walk_at "ss"
    refine ite2 (fun c3 => ?_) (fun c3 => ?_)
    · walk_at "ss"
      refine ⟨st, g, c, _, Pl, d, by simp, S1, by rw [← hq]; omega, hP1, hP, by omega, by omega, fun H2 v s x2 S2 r2 o2 => ?_⟩
      walk_at "ss"
      refine ⟨small (by simp), fun p0 hp0 => ?_⟩
      exact h _ _ _ ((x1.trans x2).trans (.same (same_new hp0 _))) ((S2.same (same_new hp0 _)).mono (by rw [← hq]; omega)) (.no upd_same (r2.same (same_new hp0 _))) o2
    walk_at "ss"
    refine ite2 (fun c4 => ?_) (fun c4 => ?_)
    · skip
      walk_at "ss"
      refine ⟨st, g, c, _, Pl, d, by simp, S1, by rw [← hq]; omega, hP1, hP, by omega, by omega, fun H2 v s x2 S2 r2 o2 => ?_⟩
      walk_at "ss"
      refine ⟨st, g, c, _, Pl, d, by simp, S2, by rw [← hq]; omega, hP1, hP, by omega, by omega, fun H3 v3 s3 x3 S3 r3 o3 => ?_⟩
      walk_at "ss"
      refine ⟨small (by simp), fun p0 hp0 => ?_⟩
      have sp0 := same_new hp0
      exact h _ _ _ ((x1.trans (x2.trans x3)).trans (.same (sp0 _))) ((S3.same (sp0 _)).mono (by rw [← hq]; omega)) (.both upd_same ((r2.ext x3).same (sp0 _)) (r3.same (sp0 _))) ⟨o2, o3⟩
    · skip
      walk_at "ss"
      refine ⟨st, g, c, _, Pl, d, by simp, S1, by rw [← hq]; omega, hP1, hP, by omega, by omega, fun H2 v s x2 S2 r2 o2 => ?_⟩
      walk_at "ss"
      refine ⟨st, g, c, _, Pl, d, by simp, S2, by rw [← hq]; omega, hP1, hP, by omega, by omega, fun H3 v3 s3 x3 S3 r3 o3 => ?_⟩
      walk_at "ss"
      refine ⟨small (by simp), fun p0 hp0 => ?_⟩
      have sp0 := same_new hp0
      exact h _ _ _ ((x1.trans (x2.trans x3)).trans (.same (sp0 _))) ((S3.same (sp0 _)).mono (by rw [← hq]; omega)) (.either upd_same ((r2.ext x3).same (sp0 _)) (r3.same (sp0 _))) ⟨o2, o3⟩

end
end K14
/-! L4: deep sentences -/
namespace K14
open PySem PySem.Spec PyProof.Rows L2 LamX Cov
/-- one step of a reading -/
local macro_rules | `(tactic| walk_at "s") => `(tactic| first | refine ⟨_, rfl, ?_⟩ | refine ⟨_, _, rfl, rfl, ?_⟩ | refine ⟨rfl, ?_⟩ | refine ⟨⟨_, rfl⟩, ?_⟩)
local macro_rules | `(tactic| walk_at "ss") => `(tactic| repeat walk_at "s")
section
variable {P : Program} {w : World} {K : PySem.W.Frag} {mg : Str → Option Value} {base : Heap} {T : List (Addr × Str)}
theorem sc_law_deep : FnScope ["state", "places", "deep", "inner", "way", "other"] ["state", "places", "deep"] (defScope s_law_deep) := ⟨rfl, rfl, rfl, by decide +kernel, rfl, by decide +kernel, by decide +kernel⟩
def spDe (T : List (Addr × Str)) (n : Nat) : Sp := fun vs H Q _ => ∃ (st g c : Addr) (B Pl d : Nat), vs = [.ref st, .int Pl, .int d] ∧ Stt st g c B H ∧ B + 6 * d ≤ 2 ^ 40 ∧ 1 ≤ Pl ∧ Pl ≤ 6 ∧ 1 ≤ d ∧ d ≤ n ∧
  ∀ H' v s, Ext T (Fs st g) H H' → Stt st g c (B + 6 * d) H' → RpS H' v s → s.ok Pl d → Q v H'
theorem ok_is {P d p a : Nat} (h1 : p < P) (h2 : a < 2) (h : 1 ≤ d) : (Sn.is p a).ok P d := by
  obtain ⟨e, rfl⟩ : ∃ e, d = e + 1 := ⟨d - 1, by omega⟩
  exact ⟨h1, h2⟩
theorem ok_deep {f f_law_draw : Addr} {fd fdb : FuncData} (F : FnP K "_law_deep" s_law_deep f fd) (Z : Zs mg) (G_law_draw : FnOk P w K mg base (L2.CX P w) 2 f_law_draw fdb ["state", "size"] (spDr T)) (M_law_draw : Dat K mg "_law_draw" f_law_draw fdb ["state", "size"]) (M_law_deep : Dat K mg "_law_deep" f fd ["state", "places", "deep"]) :
    ∀ n, FnOk P w K mg base (L2.CX P w) (n + 3) f fd ["state", "places", "deep"] (spDe T n) := by
  intro n
  induction n with
  | zero =>
    have no : ∀ vs H Q E, ¬ spDe T 0 vs H Q E := fun vs H Q E h => by
      obtain ⟨_, _, _, _, _, d, _, _, _, _, _, h1, h2, _⟩ := h
      omega
    exact ⟨fun vs H Q E h => absurd h (no vs H Q E), fun A outer s H args us vs Q E _ _ _ _ h => absurd h (no vs H Q E)⟩
  | succ n G_law_deep =>
    refine F.ok sc_law_deep (fun vs H Q E h => ?_) (fun cdv A outer s H vs Q E hr h => ?_)
    · obtain ⟨_, _, _, _, _, _, rfl, _⟩ := h
      rfl
    obtain ⟨st, g, c, B, Pl, d, rfl, hS, hB, hP1, hP, hd1, hd, h⟩ := h
    obtain ⟨d, rfl⟩ : ∃ d', d = d' + 1 := ⟨d - 1, by omega⟩
    refine ⟨_, (pss_cons (ps_if (pt_cmpR op_eq (pv 2) pe_int (nomark _)) (pss_one (ps_ret (pe_tup (pa_cons pe_str (pa_cons (pe_fn G_law_draw M_law_draw (hr.mono (by omega)) (pa_cons (pv 0) (pa_cons (pv 1) pa_nil))) (pa_cons (pe_fn G_law_draw M_law_draw (hr.mono (by omega)) (pa_cons (pv 0) (pa_cons pe_int pa_nil))) pa_nil)))))) pss_nil)
    (pss_cons (ps_par (i := 3) (j := 4) (by rfl) sc_law_deep.nd rfl rfl (by decide) rfl rfl (pa_cons (pe_fn G_law_deep M_law_deep (hr.mono (by omega)) (pa_cons (pv 0) (pa_cons (pv 1) (pa_cons (pe_op op_sub (pv 2) pe_int) pa_nil)))) (pa_cons (pe_fn G_law_draw M_law_draw (hr.mono (by omega)) (pa_cons (pv 0) (pa_cons pe_int pa_nil))) pa_nil)) (by rfl))
    (pss_cons (ps_if (pt_cmpR op_lt (pv 4) pe_int (nomark _)) (pss_one (ps_ret (pe_tup (pa_cons pe_str (pa_cons (pv 3) pa_nil))))) pss_nil)
    (pss_cons (ps_set (i := 5) sc_law_deep.nd rfl (Or.inl rfl) (pe_tup (pa_cons pe_str (pa_cons (pe_fn G_law_draw M_law_draw (hr.mono (by omega)) (pa_cons (pv 0) (pa_cons (pv 1) pa_nil))) (pa_cons (pe_fn G_law_draw M_law_draw (hr.mono (by omega)) (pa_cons (pv 0) (pa_cons pe_int pa_nil))) pa_nil)))))
    (pss_one (ps_ret (pe_ifExp (pt_cmpR op_eq (pe_fn G_law_draw M_law_draw (hr.mono (by omega)) (pa_cons (pv 0) (pa_cons pe_int pa_nil))) pe_int (nomark _)) (pe_tup (pa_cons (pe_ifExp (pt_cmpR op_eq (pv 4) pe_int (nomark _)) pe_str pe_str) (pa_cons (pv 3) (pa_cons (pv 5) pa_nil)))) (pe_tup (pa_cons (pe_ifExp (pt_cmpR op_eq (pv 4) pe_int (nomark _)) pe_str pe_str) (pa_cons (pv 5) (pa_cons (pv 3) pa_nil))))))))))), ?_⟩
    walk_at "ss"
    refine ite2 (fun c1 => ?_) (fun c1 => ?_)
    · walk_at "ss"
      refine ⟨st, g, c, _, Pl, rfl, by omega, by omega, hS, by omega, fun H2 p hp x2 S2 => ?_⟩
      walk_at "ss"
      refine ⟨st, g, c, _, 2, rfl, by omega, by omega, S2, by omega, fun H3 a ha x3 S3 => ?_⟩
      walk_at "ss"
      refine ⟨small (by simp), fun p0 hp0 => ?_⟩
      exact h _ _ _ ((x2.trans x3).trans (.same (same_new hp0 _))) ((S3.same (same_new hp0 _)).mono (by omega)) (.is upd_same) ⟨hp, ha⟩
    have hd0 : d ≠ 0 := fun z => c1 (decide_eq_true (by subst z; rfl))
    walk_at "ss"
    refine ⟨st, g, c, _, Pl, d, by simp, hS, by omega, hP1, hP, by omega, by omega, fun H1 v s x1 S1 r1 o1 => ?_⟩
    walk_at "ss"
    refine ⟨st, g, c, _, 5, rfl, by omega, by omega, S1, by omega, fun H2 way hw x2 S2 => ?_⟩
    walk_at "ss"
    refine ⟨_, _, rfl, ?_⟩
    walk_at "ss"
    refine ite2 (fun c2 => ?_) (fun c2 => ?_)
    · walk_at "ss"
      refine ⟨small (by simp), fun p0 hp0 => ?_⟩
      exact h _ _ _ ((x1.trans x2).trans (.same (same_new hp0 _))) ((S2.same (same_new hp0 _)).mono (by omega)) (.no upd_same ((r1.ext x2).same (same_new hp0 _))) o1
    walk_at "ss"
    refine ⟨st, g, c, _, Pl, rfl, by omega, by omega, S2, by omega, fun H3 p hp x3 S3 => ?_⟩
    walk_at "ss"
    refine ⟨st, g, c, _, 2, rfl, by omega, by omega, S3, by omega, fun H4 a ha x4 S4 => ?_⟩
    walk_at "ss"
    refine ⟨small (by simp), fun p0 hp0 => ?_⟩
    have s4 := same_new hp0 (.tup [.str wIs, .int (p : Nat), .int (a : Nat)])
    have S5 := S4.same s4
    have x5 : Ext T (Fs st g) H (upd H4 p0 (.tup [.str wIs, .int (p : Nat), .int (a : Nat)])) := (x1.trans (x2.trans (x3.trans x4))).trans (.same s4)
    have r5 := ((r1.ext (x2.trans (x3.trans x4))).same s4)
    have ro : RpS (upd H4 p0 (.tup [.str wIs, .int (p : Nat), .int (a : Nat)])) (.ref p0) (.is p a) := .is upd_same
    have oo : (Sn.is p a).ok Pl d := ok_is hp ha (by omega)
    walk_at "ss"
    refine ⟨st, g, c, _, 2, rfl, by omega, by omega, S5, by omega, fun H6 lr hlr x6 S6 => ?_⟩
    have r6 := r5.ext x6
    have ro6 := ro.ext x6
    walk_at "ss"
    refine ite2 (fun c3 => ?_) (fun c3 => ?_)
    · walk_at "ss"
      refine ite2 (fun c4 => ?_) (fun c4 => ?_)
      · walk_at "ss"
        refine ⟨small (by simp), fun p1 hp1 => ?_⟩
        have s7 := same_new hp1
        exact h _ _ _ ((x5.trans x6).trans (.same (s7 _))) ((S6.same (s7 _)).mono (by omega)) (.both upd_same (r6.same (s7 _)) (ro6.same (s7 _))) ⟨o1, oo⟩
      · walk_at "ss"
        refine ⟨small (by simp), fun p1 hp1 => ?_⟩
        have s7 := same_new hp1
        exact h _ _ _ ((x5.trans x6).trans (.same (s7 _))) ((S6.same (s7 _)).mono (by omega)) (.either upd_same (r6.same (s7 _)) (ro6.same (s7 _))) ⟨o1, oo⟩
    · walk_at "ss"
      refine ite2 (fun c4 => ?_) (fun c4 => ?_)
      · walk_at "ss"
        refine ⟨small (by simp), fun p1 hp1 => ?_⟩
        have s7 := same_new hp1
        exact h _ _ _ ((x5.trans x6).trans (.same (s7 _))) ((S6.same (s7 _)).mono (by omega)) (.both upd_same (ro6.same (s7 _)) (r6.same (s7 _))) ⟨oo, o1⟩
      · walk_at "ss"
        refine ⟨small (by simp), fun p1 hp1 => ?_⟩
        have s7 := same_new hp1
        exact h _ _ _ ((x5.trans x6).trans (.same (s7 _))) ((S6.same (s7 _)).mono (by omega)) (.either upd_same (ro6.same (s7 _)) (r6.same (s7 _))) ⟨oo, o1⟩

end
end K14
/-! L5: words of the law -/
namespace K14
open PySem PySem.Spec PyProof.Rows L2 LamX Cov
/-- one step of a reading -/
local macro_rules | `(tactic| walk_at "s") => `(tactic| first | refine ⟨_, rfl, ?_⟩ | refine ⟨_, _, rfl, rfl, ?_⟩ | refine ⟨rfl, ?_⟩ | refine ⟨⟨_, rfl⟩, ?_⟩)
local macro_rules | `(tactic| walk_at "ss") => `(tactic| repeat walk_at "s")
section
variable {P : Program} {w : World} {K : PySem.W.Frag} {mg : Str → Option Value} {base : Heap} {T : List (Addr × Str)}
theorem sc_law_words : FnScope ["said", "found", "part"] ["said"] (defScope s_law_words) := ⟨rfl, rfl, rfl, by decide +kernel, rfl, by decide +kernel, by decide +kernel⟩
def spLW (n : Nat) : Sp := fun vs H Q _ => ∃ (Pl d : Nat) (v : V) (s : Sn), vs = [v] ∧ RpS H v s ∧ s.ok Pl d ∧ d ≤ n ∧ n ≤ 9 ∧ Pl ≤ 6 ∧ ∀ H' p, Same H H' → H p = none → H' p = some (.lst (s.words.map .str)) → Q (.ref p) H'
theorem ok_lwords {f : Addr} {fd : FuncData} (F : FnP K "_law_words" s_law_words f fd) (Z : Zs mg) (M_law_words : Dat K mg "_law_words" f fd ["said"]) :
    ∀ n, FnOk P w K mg base (L2.CX P w) (n + 3) f fd ["said"] (spLW n) := by
  intro n
  induction n with
  | zero =>
    have no : ∀ vs H Q E, ¬ spLW 0 vs H Q E := fun vs H Q E h => by
      obtain ⟨Pl, d, v, s, _, _, h1, h2, _⟩ := h
      obtain rfl : d = 0 := by omega
      exact h1
    exact ⟨fun vs H Q E h => absurd h (no vs H Q E), fun A outer s H args us vs Q E _ _ _ _ h => absurd h (no vs H Q E)⟩
  | succ n G_law_words =>
    refine F.ok sc_law_words (fun vs H Q E h => ?_) (fun cdv A outer s H vs Q E hr h => ?_)
    · obtain ⟨Pl, d, v, s, rfl, _⟩ := h
      rfl
    obtain ⟨Pl, d, v, sn, rfl, hs, hok, hd, hn, hP, h⟩ := h
    obtain ⟨d, rfl⟩ : ∃ d', d = d' + 1 := by
      cases d with
      | zero => exact hok.elim
      | succ d => exact ⟨d, rfl⟩
    refine ⟨_, (pss_cons (ps_if (pt_cmpR op_eq (pe_ix ix_tup (pv 0) pe_int (fun _ _ => rfl)) pe_str (nomark _)) (pss_one (ps_ret (pe_lst (pa_cons pe_str (pa_cons (pe_callTy call_str_int (by rfl) Z.str_ (by decide +kernel) (pa_cons (pe_ix ix_tup (pv 0) pe_int (fun _ _ => rfl)) pa_nil)) (pa_cons (pe_callTy call_str_int (by rfl) Z.str_ (by decide +kernel) (pa_cons (pe_ix ix_tup (pv 0) pe_int (fun _ _ => rfl)) pa_nil)) pa_nil)))))) pss_nil)
    (pss_cons (ps_set (i := 1) sc_law_words.nd rfl (Or.inl rfl) (pe_lst (pa_cons (pe_ix ix_tup (pv 0) pe_int (fun _ _ => rfl)) pa_nil)))
    (pss_cons (ps_for (passes_of rfl) rfl (pi_tup (pe_slice sl_tup (pv 0) (po_some pe_int) po_none)) (pg_name (i := 2) sc_law_words.nd rfl (Or.inl rfl)) (pss_one (ps_set (i := 1) sc_law_words.nd rfl (Or.inl rfl) (pe_op op_cat (pv 1) (pe_fn G_law_words M_law_words (hr.mono (by omega)) (pa_cons (pv 2) pa_nil))))))
    (pss_one (ps_ret (pv 1)))))), ?_⟩
    have hwl := words_len _ _ _ hok
    rcases hs.view with ⟨xx, p, a, rfl, rfl, e⟩ | ⟨xx, wd, vs, ss, pt, rfl, e, rp⟩
    · obtain ⟨hp1, hp2⟩ := hok
      walk_at "ss"
      refine ⟨_, _, _, _, rfl, rfl, SqT.of e, rfl, ?_⟩
      walk_at "ss"
      refine ⟨_, _, _, _, rfl, rfl, SqT.of e, rfl, ?_⟩
      walk_at "ss"
      refine ⟨lgn (by omega), ?_⟩
      walk_at "ss"
      refine ⟨_, _, _, _, rfl, rfl, SqT.of e, rfl, ?_⟩
      walk_at "ss"
      refine ⟨lgn (by omega), ?_⟩
      walk_at "ss"
      refine ⟨small (by simp), fun p0 hp0 => ?_⟩
      exact h _ _ (same_new hp0 _) hp0 upd_same
    · walk_at "ss"
      refine ⟨_, _, _, _, rfl, rfl, SqT.of e, atI_nat (j := 0) rfl, ?_⟩
      walk_at "ss"
      have hk := pt.kind
      refine ite2 (fun c => ?_) (fun _ => ?_)
      · exact absurd (V.str.inj (of_decide_eq_true c)) hk.2.1
      walk_at "ss"
      refine ⟨_, _, _, _, rfl, rfl, SqT.of e, atI_nat (j := 0) rfl, ?_⟩
      walk_at "ss"
      refine ⟨small (by simp), fun p0 hp0 => ?_⟩
      walk_at "ss"
      have s1 := same_new hp0 (.lst [.str wd])
      refine ⟨_, _, rfl, SqT.of (s1 _ _ e), cut1_ne _ _, fun p1 hp1 => ?_⟩
      rw [cut1]
      refine ⟨_, rfl, ⟨_, SqT.of upd_same⟩, ?_⟩
      rw [pt.words] at hwl
      refine for_tup (xs := vs) (fun i σ H' => ∃ q y, σ = [some (.ref xx), some (.ref q), y] ∧ Same H H' ∧ H' p1 = some (.tup vs) ∧ H q = none ∧ H' q = some (.lst ((wd :: ((ss.take i).map Sn.words).flatten).map .str))) ⟨p0, none, rfl, s1.trans (same_new hp1 _), upd_same, hp0, nw hp1 upd_same⟩ (fun i σ H' _ hv => by obtain ⟨_, _, _, _, z, _⟩ := hv; exact SqT.of z) (fun i x σ H' hx hv => ?_) (fun σ H' hv => ?_)
      · obtain ⟨q, y, rfl, hv1, hv2, hq, hv3⟩ := hv
        obtain ⟨t, ht, rt⟩ := rp.get hx
        have okt := pt.ok hok t (List.mem_of_getElem? ht)
        have hlen : ((ss.take (i + 1)).map Sn.words).flatten.length ≤ (ss.map Sn.words).flatten.length := flat_le
        rw [flat_take ht, List.length_append] at hlen
        have hpw : 2 * 2 ^ (d + 1) ≤ 2 * 2 ^ 9 := Nat.mul_le_mul_left 2 (Nat.pow_le_pow_right (by decide) (by omega))
        walk_at "ss"
        refine ⟨Pl, d, _, t, rfl, rt.same hv1, okt, by omega, by omega, hP, fun H1 p2 s2 hp2 e2 => ?_⟩
        walk_at "ss"
        refine ⟨_, _, _, _, rfl, rfl, s2 _ _ hv3, e2, small ?_, fun p3 hp3 => ?_⟩
        · have f1 := @flat_le ss i
          rw [List.length_cons] at hwl
          rw [List.length_map, List.length_map, List.length_cons]
          omega
        · have s3 := hv1.trans s2
          have hq3 : H p3 = none := by
            cases z : H p3 with
            | none => rfl
            | some o => rw [s3 _ _ z] at hp3; cases hp3
          refine ⟨p3, _, rfl, s3.trans (same_new hp3 _), nw hp3 (s2 _ _ hv2), hq3, ?_⟩
          rw [upd_same, flat_take ht]
          simp
      · obtain ⟨q, y, rfl, hv1, hv2, hq, hv3⟩ := hv
        walk_at "ss"
        rw [rp.len, List.take_length] at hv3
        rw [pt.words] at h
        exact h _ _ hv1 hq hv3

end
end K14
/-! L6: reading by the law -/
namespace K14
open PySem PySem.Spec PyProof.Rows L2 LamX Cov
/-- one step of a reading -/
local macro_rules | `(tactic| walk_at "s") => `(tactic| first | refine ⟨_, rfl, ?_⟩ | refine ⟨_, _, rfl, rfl, ?_⟩ | refine ⟨rfl, ?_⟩ | refine ⟨⟨_, rfl⟩, ?_⟩)
local macro_rules | `(tactic| walk_at "ss") => `(tactic| repeat walk_at "s")
section
variable {P : Program} {w : World} {K : PySem.W.Frag} {mg : Str → Option Value} {base : Heap} {T : List (Addr × Str)}
theorem sc_law_part : FnScope ["words", "spot", "places", "deep", "index", "most", "found", "here", "turn", "told", "number"] ["words", "spot", "places", "deep"] (defScope s_law_part) := ⟨rfl, rfl, rfl, by decide +kernel, rfl, by decide +kernel, by decide +kernel⟩
def spLP (n : Nat) : Sp := fun vs H Q _ => ∃ (wl : Addr) (ws : List Str) (i Pl d : Nat), vs = [.ref wl, .int i, .int Pl, .int d] ∧ 1 ≤ d ∧ d ≤ n ∧ n ≤ 9 ∧ 1 ≤ Pl ∧ Pl ≤ 6 ∧ i ≤ ws.length ∧ H wl = some (.lst (ws.map .str)) ∧
  match rd Pl ws d i with
  | .ok (s, k) => ∀ H' x v, Same H H' → H' x = some (.tup [v, .int (k : Nat)]) → RpS H' v s → Q (.ref x) H'
  | .error e => ∀ H', Same H H' → Q (.int (e : Nat)) H'
theorem inV4 (x : Str) : inV (.str x) [.str "is", .str "no", .str "both", .str "either"] = (decide (x = wIs) || (kinds x).isSome) := by
  unfold inV kinds
  show ((wIs == x) || ((wNo == x) || ((wBoth == x) || ((wEither == x) || false)))) = _
  by_cases h1 : x = wIs
  · simp [h1]
  · by_cases h2 : x = wNo
    · simp [h2, ne_no]
    · by_cases h3 : x = wBoth
      · simp [h3, ne_both, ne_both2]
      · by_cases h4 : x = wEither
        · simp [h4, ne_either, ne_either2, ne_either3]
        · simp [h1, h2, h3, h4, Ne.symm h1, Ne.symm h2, Ne.symm h3, Ne.symm h4]
theorem ok_lpart {f f_law_is_whole : Addr} {fd fdw : FuncData} (F : FnP K "_law_part" s_law_part f fd) (Z : Zs mg) (G_law_is_whole : FnOk P w K mg base (L2.CX P w) 1 f_law_is_whole fdw ["thing"] spWh) (M_law_is_whole : Dat K mg "_law_is_whole" f_law_is_whole fdw ["thing"]) (M_law_part : Dat K mg "_law_part" f fd ["words", "spot", "places", "deep"]) :
    ∀ n, FnOk P w K mg base (L2.CX P w) (n + 2) f fd ["words", "spot", "places", "deep"] (spLP n) := by
  intro n
  induction n with
  | zero =>
    have no : ∀ vs H Q E, ¬ spLP 0 vs H Q E := fun vs H Q E h => by
      obtain ⟨_, _, _, _, d, _, h1, h2, _⟩ := h
      omega
    exact ⟨fun vs H Q E h => absurd h (no vs H Q E), fun A outer s H args us vs Q E _ _ _ _ h => absurd h (no vs H Q E)⟩
  | succ n G_law_part =>
    refine F.ok sc_law_part (fun vs H Q E h => ?_) (fun cdv A outer s H vs Q E hr h => ?_)
    · obtain ⟨_, _, _, _, _, rfl, _⟩ := h
      rfl
    obtain ⟨wl, ws, i, Pl, d, rfl, hd1, hd, hn, hP1, hP, hi, hw, h⟩ := h
    obtain ⟨d, rfl⟩ : ∃ d', d = d' + 1 := ⟨d - 1, by omega⟩
    refine ⟨_, (pss_cons (ps_if (PW.pt (pw_or (pt_cmpR op_ge (pv 1) (pe_callB call_len_seq (by rfl) Z.len_ (by decide +kernel) (pa_cons (pv 0) pa_nil)) (nomark _)) (pw_or (pt_cmpR op_eq (pv 3) pe_int (nomark _)) (pw_or (pt_cmpR op_notIn_seq (pe_ix ix_list (pv 0) (pv 1) (fun _ _ => rfl)) (pe_lst (pa_cons pe_str (pa_cons pe_str (pa_cons pe_str (pa_cons pe_str pa_nil))))) (by rfl)) (pw_or1 (PW.pt (pw_and (pt_cmpR op_eq (pv 3) pe_int (nomark _)) (pw_and1 (pt_cmpR op_ne (pe_ix ix_list (pv 0) (pv 1) (fun _ _ => rfl)) pe_str (nomark _)))))))))) (pss_one (ps_ret (pe_callB (call_min2 rfl) (by rfl) Z.min_ (by decide +kernel) (pa_cons (pv 1) (pa_cons (pe_callB call_len_seq (by rfl) Z.len_ (by decide +kernel) (pa_cons (pv 0) pa_nil)) pa_nil))))) pss_nil)
    (pss_cons (ps_if (pt_cmpR op_eq (pe_ix ix_list (pv 0) (pv 1) (fun _ _ => rfl)) pe_str (nomark _)) (pss_cons (ps_for (passes_of rfl) rfl (pi_list (pe_lst (pa_cons (pe_tup (pa_cons (pe_op op_add (pv 1) pe_int) (pa_cons (pv 2) pa_nil))) (pa_cons (pe_tup (pa_cons (pe_op op_add (pv 1) pe_int) (pa_cons pe_int pa_nil))) pa_nil)))) (pg_tup rfl (pgs_cons (pg_name (i := 4) sc_law_part.nd rfl (Or.inl rfl)) (pgs_cons (pg_name (i := 5) sc_law_part.nd rfl (Or.inl rfl)) pgs_nil))) (pss_one (ps_if (PW.pt (pw_or (pt_cmpR op_ge (pv 4) (pe_callB call_len_seq (by rfl) Z.len_ (by decide +kernel) (pa_cons (pv 0) pa_nil)) (nomark _)) (pw_or1 (pt_cmpR op_notIn_seq (pe_ix ix_list (pv 0) (pv 4) (fun _ _ => rfl)) (pe_lc (own := [("number", 10)]) (g := gName 10) (tt := tYes) rfl sc_law_part.nd (pi_range1 (by rfl) Z.range_ (pa_cons (pv 5) pa_nil)) (blkOk_by (own := [("number", 10)]) (N := ["words", "spot", "places", "deep", "index", "most", "found", "here", "turn", "told", "number"]) (sc := defScope s_law_part) (by decide +kernel)) (fun _ _ _ _ _ => pg_name (i := 10) sc_law_part.nd rfl (Or.inl rfl)) (fun _ _ _ _ _ => pts_nil) (fun _ _ _ _ _ => (pe_callTy call_str_int (by rfl) Z.str_ (by decide +kernel) (pa_cons (pv 10) pa_nil)))) (by rfl))))) (pss_one (ps_ret (pe_callB (call_min2 rfl) (by rfl) Z.min_ (by decide +kernel) (pa_cons (pv 4) (pa_cons (pe_callB call_len_seq (by rfl) Z.len_ (by decide +kernel) (pa_cons (pv 0) pa_nil)) pa_nil))))) pss_nil)))
    (pss_one (ps_ret (pe_tup (pa_cons (pe_tup (pa_cons pe_str (pa_cons (pe_callTy call_int_str (by rfl) Z.int_ (by decide +kernel) (pa_cons (pe_ix ix_list (pv 0) (pe_op op_add (pv 1) pe_int) (fun _ _ => rfl)) pa_nil)) (pa_cons (pe_callTy call_int_str (by rfl) Z.int_ (by decide +kernel) (pa_cons (pe_ix ix_list (pv 0) (pe_op op_add (pv 1) pe_int) (fun _ _ => rfl)) pa_nil)) pa_nil)))) (pa_cons (pe_op op_add (pv 1) pe_int) pa_nil)))))) pss_nil)
    (pss_cons (ps_par (i := 6) (j := 7) (by rfl) sc_law_part.nd rfl rfl (by decide) rfl rfl (pa_cons (pe_tup (pa_cons (pe_ix ix_list (pv 0) (pv 1) (fun _ _ => rfl)) pa_nil)) (pa_cons (pe_op op_add (pv 1) pe_int) pa_nil)) (by rfl))
    (pss_cons (ps_for (passes_of rfl) rfl (pi_range1 (by rfl) Z.range_ (pa_cons (pe_ifExp (pt_cmpR op_eq (pe_ix ix_list (pv 0) (pv 1) (fun _ _ => rfl)) pe_str (nomark _)) pe_int pe_int) pa_nil)) (pg_name (i := 8) sc_law_part.nd rfl (Or.inl rfl)) (pss_cons (ps_set (i := 9) sc_law_part.nd rfl (Or.inl rfl) (pe_fn G_law_part M_law_part (hr.mono (by omega)) (pa_cons (pv 0) (pa_cons (pv 7) (pa_cons (pv 2) (pa_cons (pe_op op_sub (pv 3) pe_int) pa_nil))))))
    (pss_cons (ps_if (pt_val (pe_fn G_law_is_whole M_law_is_whole (hr.mono (by omega)) (pa_cons (pv 9) pa_nil))) (pss_one (ps_ret (pv 9))) pss_nil)
    (pss_one (ps_par (i := 6) (j := 7) (by rfl) sc_law_part.nd rfl rfl (by decide) rfl rfl (pa_cons (pe_op op_catA (pv 6) (pe_tup (pa_cons (pe_ix ix_tup (pv 9) pe_int (fun _ _ => rfl)) pa_nil))) (pa_cons (pe_ix ix_tup (pv 9) pe_int (fun _ _ => rfl)) pa_nil)) (by rfl))))))
    (pss_one (ps_ret (pe_tup (pa_cons (pv 6) (pa_cons (pv 7) pa_nil))))))))), ?_⟩
    have s0 := Same.refl H
    refine seq_by (fun σ' H' => σ' = [some (.ref wl), some (.int i), some (.int Pl), some (.int ((d + 1 : Nat) : Int)), none, none, none, none, none, none, none] ∧ Same H H' ∧ ∃ x, ws[i]? = some x ∧ (x = wIs ∨ ∃ m, kinds x = some m ∧ d ≠ 0 ∧ x ≠ wIs)) (fun N hN => ?_) (fun σ' H1 hm => ?_)
    · walk_at "ss"
      refine ⟨_, _, rfl, .inl (SqL.of hw), ?_⟩
      walk_at "ss"
      rw [List.length_map]
      refine ite2 (fun c => ?_) (fun c => ?_)
      · have hi2 : ws[i]? = none := List.getElem?_eq_none (by have := of_decide_eq_true c; omega)
        rw [rd_end (.inl hi2)] at h
        walk_at "ss"
        refine ⟨_, _, rfl, .inl (SqL.of (s0 _ _ hw)), ?_⟩
        walk_at "ss"
        refine ⟨_, _, rfl, ?_⟩
        rw [List.length_map, if_neg (by omega)]
        exact h _ s0
      have hlt : i < ws.length := by
        have c2 : ¬ (((ws.length : Nat) : Int) ≤ (i : Int)) := fun z => c (decide_eq_true z)
        omega
      obtain ⟨x, hx⟩ : ∃ x, ws[i]? = some x := ⟨ws[i], List.getElem?_eq_getElem hlt⟩
      have hxv : (ws.map V.str)[i]? = some (.str x) := by simp [hx]
      walk_at "ss"
      refine ⟨_, _, _, _, rfl, rfl, SqL.of hw, atI_nat hxv, ?_⟩
      walk_at "ss"
      refine ⟨small (by simp), fun p0 hp0 => ?_⟩
      have s1 := same_new hp0 (.lst [.str "is", .str "no", .str "both", .str "either"])
      refine ⟨_, _, rfl, .inl (SqL.of upd_same), rfl, rfl, ?_⟩
      walk_at "ss"
      rw [inV4]
      refine ite2 (fun c1 => ?_) (fun c1 => ?_)
      · have c2 : (decide (x = wIs) || (kinds x).isSome) = false := by simpa using c1
        obtain ⟨c3, c4⟩ := (Bool.or_eq_false_iff).mp c2
        have hk : kinds x = none := by
          cases q : kinds x with
          | none => rfl
          | some m => rw [q] at c4; cases c4
        rw [rd_bad hx (of_decide_eq_false c3) (.inl hk)] at h
        walk_at "ss"
        refine ⟨_, _, rfl, .inl (SqL.of (s1 _ _ hw)), ?_⟩
        walk_at "ss"
        refine ⟨_, _, rfl, ?_⟩
        rw [List.length_map, if_neg (by omega)]
        exact h _ s1
      have c2 : (decide (x = wIs) || (kinds x).isSome) = true := by
        cases q : (decide (x = wIs) || (kinds x).isSome) with
        | true => rfl
        | false => exact absurd (by rw [q]; rfl) c1
      walk_at "ss"
      refine ite2 (fun c5 => ?_) (fun c5 => ?_)
      · have h0 : d = 0 := by
          have := V.int.inj (of_decide_eq_true c5)
          omega
        walk_at "ss"
        refine ⟨_, _, _, _, rfl, rfl, SqL.of (s1 _ _ hw), atI_nat hxv, ?_⟩
        walk_at "ss"
        refine ite2 (fun c6 => ?_) (fun c6 => ?_)
        · have hne : x ≠ wIs := fun z => by
            rw [z] at c6
            cases c6
          rw [rd_bad hx hne (.inr h0)] at h
          walk_at "ss"
          refine ⟨_, _, rfl, .inl (SqL.of (s1 _ _ hw)), ?_⟩
          walk_at "ss"
          refine ⟨_, _, rfl, ?_⟩
          rw [List.length_map, if_neg (by omega)]
          exact h _ s1
        · have hx2 : x = wIs := by
            by_cases z : x = wIs
            · exact z
            · exact absurd (by show (!decide (V.str x = V.str wIs)) = true; rw [decide_eq_false (fun y => z (V.str.inj y))]; rfl) c6
          exact hN _ _ ⟨rfl, s1, x, hx, .inl hx2⟩
      · have h0 : d ≠ 0 := fun z => c5 (decide_eq_true (by rw [z]; rfl))
        refine hN _ _ ⟨rfl, s1, x, hx, ?_⟩
        by_cases z : x = wIs
        · exact .inl z
        · rw [decide_eq_false z, Bool.false_or] at c2
          cases q : kinds x with
          | none => rw [q] at c2; cases c2
          | some m => exact .inr ⟨m, rfl, h0, z⟩
    · obtain ⟨rfl, s1, x, hx, hxx⟩ := hm
      have hlt := get_lt hx
      have hxv : (ws.map V.str)[i]? = some (.str x) := by simp [hx]
      walk_at "ss"
      refine ⟨_, _, _, _, rfl, rfl, SqL.of (s1 _ _ hw), atI_nat hxv, ?_⟩
      rcases hxx with rfl | ⟨m, hk, h0, hne⟩
      · walk_at "ss"
        refine ⟨small (by simp), fun p0 hp0 => ?_⟩
        walk_at "ss"
        refine ⟨small (by simp), fun p1 hp1 => ?_⟩
        walk_at "ss"
        refine ⟨small (by simp), fun p2 hp2 => ?_⟩
        have e0 := nw (o := .lst [.ref p0, .ref p1]) hp2 (nw (o := .tup [.int ((i : Int) + 2), .int 2]) hp1 (upd_same (H := H1) (a := p0) (o := .tup [.int ((i : Int) + 1), .int (Pl : Nat)])))
        have e1 := nw (o := .lst [.ref p0, .ref p1]) hp2 (upd_same (H := upd H1 p0 (.tup [.int ((i : Int) + 1), .int (Pl : Nat)])) (a := p1) (o := .tup [.int ((i : Int) + 2), .int 2]))
        have e2 : upd (upd (upd H1 p0 (.tup [.int ((i : Int) + 1), .int (Pl : Nat)])) p1 (.tup [.int ((i : Int) + 2), .int 2])) p2 (.lst [.ref p0, .ref p1]) p2 = _ := upd_same
        have s2 : Same H (upd (upd (upd H1 p0 (.tup [.int ((i : Int) + 1), .int (Pl : Nat)])) p1 (.tup [.int ((i : Int) + 2), .int 2])) p2 (.lst [.ref p0, .ref p1])) := ((s1.trans (same_new hp0 _)).trans (same_new hp1 _)).trans (same_new hp2 _)
        refine ⟨_, rfl, ⟨_, SqL.of e2⟩, ?_⟩
        generalize upd (upd (upd H1 p0 (.tup [.int ((i : Int) + 1), .int (Pl : Nat)])) p1 (.tup [.int ((i : Int) + 2), .int 2])) p2 (.lst [.ref p0, .ref p1]) = H2 at e0 e1 e2 s2 ⊢
        have hri := rd_is (P := Pl) (d := d) hx
        refine for_list (xs := [.ref p0, .ref p1]) (fun j σ H' => (∃ y4 y5, σ = [some (.ref wl), some (.int i), some (.int Pl), some (.int ((d + 1 : Nat) : Int)), y4, y5, none, none, none, none, none]) ∧ Same H2 H' ∧ (1 ≤ j → ∃ p, (ws[i+1]?).bind (dig? Pl) = some p) ∧ (2 ≤ j → ∃ a, (ws[i+2]?).bind (dig? 2) = some a))
          ⟨⟨_, _, rfl⟩, .refl _, fun z => by omega, fun z => by omega⟩ (fun j σ H' _ hv => SqL.of (hv.2.1 _ _ e2)) (fun j x σ H' hx hv => ?_) (fun σ H' hv => ?_)
        · obtain ⟨⟨y4, y5, rfl⟩, s3, hv1, hv2⟩ := hv
          obtain ⟨idx, n2, a, rfl, ha, hn2, hidx, herr, hok⟩ : ∃ (idx n2 : Nat) (a : Addr), x = .ref a ∧ H' a = some (.tup [.int (idx : Nat), .int (n2 : Nat)]) ∧ n2 ≤ 6 ∧ idx ≤ ws.length ∧ ((ws[idx]?).bind (dig? n2) = none → rd Pl ws (d + 1) i = .error idx) ∧
              (∀ k, (ws[idx]?).bind (dig? n2) = some k → (1 ≤ j + 1 → ∃ p, (ws[i+1]?).bind (dig? Pl) = some p) ∧ (2 ≤ j + 1 → ∃ a, (ws[i+2]?).bind (dig? 2) = some a)) := by
            match j, hx with
            | 0, hx =>
              obtain rfl : V.ref p0 = x := Option.some.inj hx
              refine ⟨i + 1, Pl, p0, rfl, by simpa using s3 _ _ e0, hP, by omega, fun z => ?_, fun k z => ⟨fun _ => ⟨k, z⟩, fun q => by omega⟩⟩
              rw [hri, z]
            | 1, hx =>
              obtain rfl : V.ref p1 = x := Option.some.inj hx
              obtain ⟨p, hp⟩ := hv1 (Nat.le_refl 1)
              have hl1 := bind_some_lt hp
              refine ⟨i + 2, 2, p1, rfl, by simpa using s3 _ _ e1, by decide, by omega, fun z => ?_, fun k z => ⟨fun _ => ⟨p, hp⟩, fun _ => ⟨k, z⟩⟩⟩
              rw [hri, hp]
              dsimp only
              rw [z]
            | j + 2, hx => cases hx
          refine ⟨_, _, rfl, SqT.of ha, rfl, _, _, rfl, _, _, rfl, rfl, ?_⟩
          walk_at "ss"
          refine ⟨_, _, rfl, .inl (SqL.of (s3 _ _ (s2 _ _ hw))), ?_⟩
          walk_at "ss"
          rw [List.length_map]
          have s23 := s2.trans s3
          refine ite2 (fun c => ?_) (fun c => ?_)
          · have hi2 : ws[idx]? = none := List.getElem?_eq_none (by have := of_decide_eq_true c; omega)
            rw [herr (by rw [hi2]; rfl)] at h
            walk_at "ss"
            refine ⟨_, _, rfl, .inl (SqL.of (s23 _ _ hw)), ?_⟩
            walk_at "ss"
            refine ⟨_, _, rfl, ?_⟩
            rw [List.length_map, if_neg (by omega)]
            exact h _ s23
          have hl2 : idx < ws.length := by
            have c2 : ¬ (((ws.length : Nat) : Int) ≤ (idx : Int)) := fun z => c (decide_eq_true z)
            omega
          obtain ⟨z, hz⟩ : ∃ z, ws[idx]? = some z := ⟨ws[idx], List.getElem?_eq_getElem hl2⟩
          have hzv : (ws.map V.str)[idx]? = some (.str z) := by simp [hz]
          rw [hz, Option.bind_some] at herr hok
          walk_at "ss"
          refine ⟨_, _, _, _, rfl, rfl, SqL.of (s23 _ _ hw), atI_nat hzv, ?_⟩
          walk_at "ss"
          refine ⟨by omega, by omega, ?_⟩
          rw [Int.toNat_natCast]
          intro D hD
          refine lc_range (n := n2) (fun i H3 => Same H' H3 ∧ H3 D = some (.lst (((List.range i).map num).map .str))) ⟨same_new hD _, upd_same⟩ (fun i H3 hi hv => ?_) (fun H3 hv => ?_)
          · walk_at "ss"
            refine ⟨by simpa using lgn (n := i) (by omega), ?_⟩
            refine ⟨_, hv.2, smallt (by simp; omega), same_over hD hv.1 _, ?_⟩
            rw [upd_same, List.range_succ]
            simp [num]
          · walk_at "ss"
            refine ⟨_, _, rfl, .inl (SqL.of hv.2), rfl, by simp [flatV], ?_⟩
            walk_at "ss"
            rw [inV_num]
            have s4 := s23.trans hv.1
            cases hd : dig? n2 z with
            | none =>
              rw [herr hd] at h
              walk_at "ss"
              refine ⟨_, _, rfl, .inl (SqL.of (s4 _ _ hw)), ?_⟩
              walk_at "ss"
              refine ⟨_, _, rfl, ?_⟩
              rw [List.length_map, if_neg (by omega)]
              exact h _ s4
            | some k =>
              walk_at "ss"
              exact ⟨⟨_, _, rfl⟩, s3.trans hv.1, (hok k hd).1, (hok k hd).2⟩
        · obtain ⟨⟨y4, y5, rfl⟩, s3, hv1, hv2⟩ := hv
          obtain ⟨p, hp⟩ := hv1 (show 1 ≤ 2 by decide)
          obtain ⟨a, ha⟩ := hv2 (show 2 ≤ 2 by decide)
          rw [hri, hp] at h
          dsimp only at h
          rw [ha] at h
          dsimp only at h
          have s4 := s2.trans s3
          obtain ⟨z1, hz1, hd1⟩ := Option.bind_eq_some_iff.mp hp
          obtain ⟨z2, hz2, hd2⟩ := Option.bind_eq_some_iff.mp ha
          obtain ⟨l1, rfl⟩ := dig_some hd1
          obtain ⟨l2, rfl⟩ := dig_some hd2
          have hzv1 : (ws.map V.str)[i + 1]? = some (.str (num p)) := by simp [hz1]
          have hzv2 : (ws.map V.str)[i + 2]? = some (.str (num a)) := by simp [hz2]
          walk_at "ss"
          refine ⟨_, _, _, _, rfl, rfl, SqL.of (s4 _ _ hw), atI_nat (j := i + 1) hzv1, ?_⟩
          walk_at "ss"
          refine ⟨_, _, rfl, int_num p (by omega), num_len p (by omega), ?_⟩
          walk_at "ss"
          refine ⟨_, _, _, _, rfl, rfl, SqL.of (s4 _ _ hw), atI_nat (j := i + 2) hzv2, ?_⟩
          walk_at "ss"
          refine ⟨_, _, rfl, int_num a (by omega), num_len a (by omega), ?_⟩
          walk_at "ss"
          refine ⟨small (by simp), fun p3 hp3 => ?_⟩
          walk_at "ss"
          refine ⟨small (by simp), fun p4 hp4 => ?_⟩
          exact h _ _ _ (s4.trans ((same_new hp3 _).trans (same_new hp4 _))) upd_same (.is (nw hp4 upd_same))
      · walk_at "ss"
        refine ite2 (fun c => ?_) (fun _ => ?_)
        · exact absurd (V.str.inj (of_decide_eq_true c)) hne
        walk_at "ss"
        refine ⟨_, _, _, _, rfl, rfl, SqL.of (s1 _ _ hw), atI_nat hxv, ?_⟩
        walk_at "ss"
        refine ⟨small (by simp), fun p0 hp0 => ?_⟩
        walk_at "ss"
        refine ⟨_, _, rfl, ?_⟩
        have s2 := s1.trans (same_new hp0 (.tup [.str x]))
        have e0 : upd H1 p0 (.tup [.str x]) p0 = _ := upd_same
        generalize upd H1 p0 (.tup [.str x]) = H2 at s2 e0 ⊢
        have hr2 := rd_parts (P := Pl) hx hne h0 hk
        have hm : m ≤ 2 ∧ (decide (V.str x = V.str wNo) = true → m = 1) ∧ (¬ decide (V.str x = V.str wNo) = true → m = 2) := by
          unfold kinds at hk
          by_cases q : x = wNo
          · rw [if_pos q] at hk
            cases hk
            exact ⟨by decide, fun _ => rfl, fun z => absurd (decide_eq_true (by rw [q])) z⟩
          · rw [if_neg q] at hk
            have nq : ¬ decide (V.str x = V.str wNo) = true := fun z => q (V.str.inj (of_decide_eq_true z))
            split at hk
            · cases hk
              exact ⟨by decide, fun z => absurd z nq, fun _ => rfl⟩
            · split at hk
              · cases hk
                exact ⟨by decide, fun z => absurd z nq, fun _ => rfl⟩
              · cases hk
        walk_at "ss"
        refine ⟨_, _, _, _, rfl, rfl, SqL.of (s2 _ _ hw), atI_nat hxv, ?_⟩
        walk_at "ss"
        refine ite2 (fun c => ?_) (fun c => ?_)
        · skip
          obtain rfl : m = 1 := hm.2.1 c
          walk_at "ss"
          refine ⟨by decide, by decide, ?_⟩
          refine for_range (n := 1) (fun j σ H' => ∃ ss k vs q y8 y9, rdN Pl ws d j (i + 1) = .ok (ss, k) ∧ σ = [some (.ref wl), some (.int i), some (.int Pl), some (.int ((d + 1 : Nat) : Int)), none, none, some (.ref q), some (.int (k : Nat)), y8, y9, none] ∧ Same H H' ∧ H' q = some (.tup (.str x :: vs)) ∧ RpA H' vs ss)
            ⟨[], i + 1, [], p0, none, none, rfl, by simp, s2, e0, .nil⟩ (fun j σ H' hj hv => ?_) (fun σ H' hv => ?_)
          · obtain ⟨ss, k, vs, q, y8, y9, hrd, rfl, s3, hq, ra⟩ := hv
            have hkk := rdN_facts (P := Pl) (ws := ws) (d := d) j (i + 1) (by omega)
            rw [hrd] at hkk
            walk_at "ss"
            refine ⟨wl, ws, k, Pl, d, by simp, by omega, by omega, by omega, hP1, hP, hkk.1, s3 _ _ hw, ?_⟩
            cases hr : rd Pl ws d k with
            | error e =>
              have q1 : rdN Pl ws d (j + 1) (i + 1) = .error e := by unfold rdN; rw [hrd]; dsimp only; rw [hr]
              rw [rdN_err (m := 1) (by omega) q1] at hr2
              rw [hr2] at h
              dsimp only at h ⊢
              intro H3 s4
              walk_at "ss"
              refine .inl ⟨_, rfl, ?_⟩
              walk_at "ss"
              exact h _ (s3.trans s4)
            | ok q2 =>
              obtain ⟨t, k2⟩ := q2
              have q1 : rdN Pl ws d (j + 1) (i + 1) = .ok (ss ++ [t], k2) := by unfold rdN; rw [hrd]; dsimp only; rw [hr]
              dsimp only
              intro H3 x3 v3 s4 e3 r3
              walk_at "ss"
              refine .inr ⟨x3, _, rfl, e3, ?_⟩
              walk_at "ss"
              refine ⟨_, _, _, _, rfl, rfl, SqT.of e3, rfl, ?_⟩
              walk_at "ss"
              refine ⟨small (by simp), fun p3 hp3 => ?_⟩
              have s5 := same_new hp3 (.tup [v3])
              refine ⟨_, _, _, _, rfl, rfl, SqT.of (s5 _ _ (s4 _ _ hq)), SqT.of upd_same, small ?_, (fun z => by cases z), (fun _ z => by cases z), fun _ _ p5 hp5 => ?_⟩
              · have := ra.len
                simp [hkk.2.1] at this ⊢
                omega
              have s6 := same_new hp5 (.tup ((.str x :: vs) ++ [v3]))
              have s46 := s4.trans (s5.trans s6)
              walk_at "ss"
              refine ⟨_, _, _, _, rfl, rfl, SqT.of ((s5.trans s6) _ _ e3), rfl, ?_⟩
              walk_at "ss"
              exact ⟨_, _, rfl, ss ++ [t], k2, vs ++ [v3], p5, _, _, q1, rfl, s3.trans s46, upd_same, (ra.same s46).snoc (r3.same (s5.trans s6))⟩
          · obtain ⟨ss, k, vs, q, y8, y9, hrd, rfl, s3, hq, ra⟩ := hv
            rw [hrd] at hr2
            obtain ⟨s, pt, hr3⟩ := hr2
            rw [hr3] at h
            walk_at "ss"
            refine ⟨small (by simp), fun p3 hp3 => ?_⟩
            exact h _ _ _ (s3.trans (same_new hp3 _)) upd_same (.of pt (nw hp3 hq) (ra.same (same_new hp3 _)))
        · skip
          obtain rfl : m = 2 := hm.2.2 c
          walk_at "ss"
          refine ⟨by decide, by decide, ?_⟩
          refine for_range (n := 2) (fun j σ H' => ∃ ss k vs q y8 y9, rdN Pl ws d j (i + 1) = .ok (ss, k) ∧ σ = [some (.ref wl), some (.int i), some (.int Pl), some (.int ((d + 1 : Nat) : Int)), none, none, some (.ref q), some (.int (k : Nat)), y8, y9, none] ∧ Same H H' ∧ H' q = some (.tup (.str x :: vs)) ∧ RpA H' vs ss)
            ⟨[], i + 1, [], p0, none, none, rfl, by simp, s2, e0, .nil⟩ (fun j σ H' hj hv => ?_) (fun σ H' hv => ?_)
          · obtain ⟨ss, k, vs, q, y8, y9, hrd, rfl, s3, hq, ra⟩ := hv
            have hkk := rdN_facts (P := Pl) (ws := ws) (d := d) j (i + 1) (by omega)
            rw [hrd] at hkk
            walk_at "ss"
            refine ⟨wl, ws, k, Pl, d, by simp, by omega, by omega, by omega, hP1, hP, hkk.1, s3 _ _ hw, ?_⟩
            cases hr : rd Pl ws d k with
            | error e =>
              have q1 : rdN Pl ws d (j + 1) (i + 1) = .error e := by unfold rdN; rw [hrd]; dsimp only; rw [hr]
              rw [rdN_err (m := 2) (by omega) q1] at hr2
              rw [hr2] at h
              dsimp only at h ⊢
              intro H3 s4
              walk_at "ss"
              refine .inl ⟨_, rfl, ?_⟩
              walk_at "ss"
              exact h _ (s3.trans s4)
            | ok q2 =>
              obtain ⟨t, k2⟩ := q2
              have q1 : rdN Pl ws d (j + 1) (i + 1) = .ok (ss ++ [t], k2) := by unfold rdN; rw [hrd]; dsimp only; rw [hr]
              dsimp only
              intro H3 x3 v3 s4 e3 r3
              walk_at "ss"
              refine .inr ⟨x3, _, rfl, e3, ?_⟩
              walk_at "ss"
              refine ⟨_, _, _, _, rfl, rfl, SqT.of e3, rfl, ?_⟩
              walk_at "ss"
              refine ⟨small (by simp), fun p3 hp3 => ?_⟩
              have s5 := same_new hp3 (.tup [v3])
              refine ⟨_, _, _, _, rfl, rfl, SqT.of (s5 _ _ (s4 _ _ hq)), SqT.of upd_same, small ?_, (fun z => by cases z), (fun _ z => by cases z), fun _ _ p5 hp5 => ?_⟩
              · have := ra.len
                simp [hkk.2.1] at this ⊢
                omega
              have s6 := same_new hp5 (.tup ((.str x :: vs) ++ [v3]))
              have s46 := s4.trans (s5.trans s6)
              walk_at "ss"
              refine ⟨_, _, _, _, rfl, rfl, SqT.of ((s5.trans s6) _ _ e3), rfl, ?_⟩
              walk_at "ss"
              exact ⟨_, _, rfl, ss ++ [t], k2, vs ++ [v3], p5, _, _, q1, rfl, s3.trans s46, upd_same, (ra.same s46).snoc (r3.same (s5.trans s6))⟩
          · obtain ⟨ss, k, vs, q, y8, y9, hrd, rfl, s3, hq, ra⟩ := hv
            rw [hrd] at hr2
            obtain ⟨s, pt, hr3⟩ := hr2
            rw [hr3] at h
            walk_at "ss"
            refine ⟨small (by simp), fun p3 hp3 => ?_⟩
            exact h _ _ _ (s3.trans (same_new hp3 _)) upd_same (.of pt (nw hp3 hq) (ra.same (same_new hp3 _)))

end
end K14
/-! L7: the law's reader, its catcher -/
namespace K14
open PySem PySem.Spec PyProof.Rows L2 LamX Cov
/-- one step of a reading -/
local macro_rules | `(tactic| walk_at "s") => `(tactic| first | refine ⟨_, rfl, ?_⟩ | refine ⟨_, _, rfl, rfl, ?_⟩ | refine ⟨rfl, ?_⟩ | refine ⟨⟨_, rfl⟩, ?_⟩)
local macro_rules | `(tactic| walk_at "ss") => `(tactic| repeat walk_at "s")
section
variable {P : Program} {w : World} {K : PySem.W.Frag} {mg : Str → Option Value} {base : Heap} {T : List (Addr × Str)}
theorem sc_law_read : FnScope ["words", "places", "told"] ["words", "places"] (defScope s_law_read) := ⟨rfl, rfl, rfl, by decide +kernel, rfl, by decide +kernel, by decide +kernel⟩
def spLR : Sp := fun vs H Q _ => ∃ (wl : Addr) (ws : List Str) (Pl : Nat), vs = [.ref wl, .int Pl] ∧ 1 ≤ Pl ∧ Pl ≤ 6 ∧ H wl = some (.lst (ws.map .str)) ∧
  match readAll Pl ws with
  | .ok s => ∀ H' v a xs, Same H H' → v = .ref a → H' a = some (.tup xs) → RpS H' v s → Q v H'
  | .error e => ∀ H', Same H H' → Q (.int (e : Nat)) H'
theorem RpS.tu {H : Hp} {v : V} {s : Sn} (h : RpS H v s) : ∃ a xs, v = .ref a ∧ H a = some (.tup xs) := by
  cases h with
  | is e => exact ⟨_, _, rfl, e⟩
  | no e _ => exact ⟨_, _, rfl, e⟩
  | both e _ _ => exact ⟨_, _, rfl, e⟩
  | either e _ _ => exact ⟨_, _, rfl, e⟩
theorem ok_lread {f f_law_is_whole f_law_part : Addr} {fd fdw fdp : FuncData} (F : FnP K "_law_read" s_law_read f fd) (Z : Zs mg) (G_law_is_whole : FnOk P w K mg base (L2.CX P w) 1 f_law_is_whole fdw ["thing"] spWh) (M_law_is_whole : Dat K mg "_law_is_whole" f_law_is_whole fdw ["thing"])
    (G_law_part : FnOk P w K mg base (L2.CX P w) 10 f_law_part fdp ["words", "spot", "places", "deep"] (spLP 8)) (M_law_part : Dat K mg "_law_part" f_law_part fdp ["words", "spot", "places", "deep"]) :
    FnOk P w K mg base (L2.CX P w) 11 f fd ["words", "places"] spLR := by
  refine F.ok sc_law_read (fun vs H Q E h => ?_) (fun cdv A outer s H vs Q E hr h => ?_)
  · obtain ⟨_, _, _, rfl, _⟩ := h
    rfl
  obtain ⟨wl, ws, Pl, rfl, hP1, hP, hw, h⟩ := h
  refine ⟨_, (pss_cons (ps_set (i := 2) sc_law_read.nd rfl (Or.inl rfl) (pe_fn G_law_part M_law_part (hr.mono (by omega)) (pa_cons (pv 0) (pa_cons pe_int (pa_cons (pv 1) (pa_cons pe_int pa_nil))))))
    (pss_one (ps_ret (pe_ifExp (pt_val (pe_fn G_law_is_whole M_law_is_whole (hr.mono (by omega)) (pa_cons (pv 2) pa_nil))) (pv 2) (pe_ifExp (pt_cmpR op_eq (pe_ix ix_tup (pv 2) pe_int (fun _ _ => rfl)) (pe_callB call_len_seq (by rfl) Z.len_ (by decide +kernel) (pa_cons (pv 0) pa_nil)) (nomark _)) (pe_ix ix_tup (pv 2) pe_int (fun _ _ => rfl)) (pe_ix ix_tup (pv 2) pe_int (fun _ _ => rfl))))))), ?_⟩
  walk_at "ss"
  refine ⟨wl, ws, 0, Pl, 8, rfl, by omega, by omega, by omega, hP1, hP, Nat.zero_le _, hw, ?_⟩
  unfold readAll at h
  have hf := rd_facts Pl ws 8 0 (Nat.zero_le _)
  cases hr2 : rd Pl ws 8 0 with
  | error e =>
    rw [hr2] at h
    dsimp only at h ⊢
    intro H1 s1
    walk_at "ss"
    refine .inl ⟨_, rfl, ?_⟩
    walk_at "ss"
    exact h _ s1
  | ok q =>
    obtain ⟨s, k⟩ := q
    rw [hr2] at h hf
    dsimp only at h hf ⊢
    intro H1 x v s1 e1 r1
    walk_at "ss"
    refine .inr ⟨x, _, rfl, e1, ?_⟩
    walk_at "ss"
    refine ⟨_, _, _, _, rfl, rfl, SqT.of e1, rfl, ?_⟩
    walk_at "ss"
    refine ⟨_, _, rfl, .inl (SqL.of (s1 _ _ hw)), ?_⟩
    walk_at "ss"
    rw [List.length_map]
    refine ite2 (fun c => ?_) (fun c => ?_)
    · have hk : ¬ k < ws.length := by
        have := V.int.inj (of_decide_eq_true c)
        omega
      rw [if_neg hk] at h
      walk_at "ss"
      refine ⟨_, _, _, _, rfl, rfl, SqT.of e1, rfl, ?_⟩
      obtain ⟨a, xs, rfl, ea⟩ := r1.tu
      exact h _ _ a xs s1 rfl ea r1
    · have hk : k < ws.length := by
        have : k ≠ ws.length := fun z => c (decide_eq_true (by rw [z]))
        omega
      rw [if_pos hk] at h
      walk_at "ss"
      refine ⟨_, _, _, _, rfl, rfl, SqT.of e1, rfl, ?_⟩
      exact h _ s1
theorem sc_law_caught : FnScope ["work", "caught", "error"] ["work"] (defScope s_law_caught) := ⟨rfl, rfl, rfl, by decide +kernel, rfl, by decide +kernel, by decide +kernel⟩
theorem takes_len {X : Cx} {W : WX} (t : Takes X W) : Takes X (fun c d σ H => σ.length = X.N.length → W c d σ H) := fun u s' ⟨a, B, sI, pins, σ, H, cls, d, e, I, nb, up, sky, na, os, ag, w⟩ => t u s' ⟨a, B, sI, pins, σ, H, cls, d, e, I, nb, up, sky, na, os, ag, w I.len⟩
/-- what _law_caught makes of its deed -/
def TTc (K : PySem.W.Frag) (CE : Addr) : (XK → Hp → VK → Prop) → Hp → VK → Prop := fun tl H Q =>
  ∀ N : Hp → Prop, (∀ H', Q .non H' → N H') → tl (fun cls d H' => PySem.W.exmOne K cls (.ref CE) = some true ∧ ∀ a, H' a = none → Q (.ref a) (upd H' a (ExV a cls d))) H (fun _ H' => N H')
theorem caught_gives {X : Cx} {g CE : Addr} {cdg : Value} {q : Str} (hme : X.mg "LotError" = some (.ref CE)) :
    GivesTo X ["work", "caught", "error"] "_law_caught" (defScope s_law_caught) g cdg (defBody s_law_caught) "work" q (TTc X.K CE) := by
  intro f c' s H Q tl act hc h
  refine ⟨_, pss_cons (ps_set (i := 1) sc_law_caught.nd rfl (Or.inl rfl) pe_non) (pss_cons (ps_catch (X := (cxOf C8.CX0 X.prog X.w X.K X.mg X.base ["work", "caught", "error"] "_law_caught" (defScope s_law_caught) g cdg X.A X.stack s H C8.E0).nox) (i := 2) (j := 1) (c := .ref CE)
      (tb := fun W D σ H => ∃ Ech : XK, (∀ cls d σ' H', Ech cls d H' → σ'.length = 3 → W cls d σ' H') ∧ σ[0]? = some (some (.ref f)) ∧ H c' = some (CodeO c' q) ∧ tl Ech H (fun _ H' => D.nx σ H'))
      rfl rfl rfl sc_law_caught.nd rfl rfl (by decide) rfl rfl ⟨rfl, rfl, .inl hme⟩ (by decide) (by decide) (fun W pn xe tk _ => ?_)) (pss_one (ps_ret (pv 1)))), ?_⟩
  · refine ⟨fun pins s' σ H' D I h' => ?_⟩
    obtain ⟨Ech, hW, h1, h2, h3⟩ := h'
    exact (pss_one (ps_expr (act (fun c d σ H => σ.length = 3 → W c d σ H) pn xe Ech _ _ (takes_len tk) hW))).run pins s' σ H' D I ⟨h1, h2, h3⟩
  · walk_at "ss"
    refine ⟨fun cls d H' => PySem.W.exmOne X.K cls (.ref CE) = some true ∧ ∀ a, H' a = none → Q (.ref a) (upd H' a (ExV a cls d)), fun cls d σ' H' e hl => ⟨e.1, fun a ha => ?_⟩, rfl, hc, h _ fun H' hq => ?_⟩
    rotate_left
    · walk_at "ss"
      exact hq
    match σ', hl with
    | [x0, x1, x2], _ =>
      walk_at "ss"
      exact e.2 a ha

end
end K14
/-! L8: the law's right reading -/
namespace K14
open PySem PySem.Spec PyProof.Rows L2 LamX Cov
/-- one step of a reading -/
local macro_rules | `(tactic| walk_at "s") => `(tactic| first | refine ⟨_, rfl, ?_⟩ | refine ⟨_, _, rfl, rfl, ?_⟩ | refine ⟨rfl, ?_⟩ | refine ⟨⟨_, rfl⟩, ?_⟩)
local macro_rules | `(tactic| walk_at "ss") => `(tactic| repeat walk_at "s")
section
variable {P : Program} {w : World} {K : PySem.W.Frag} {mg : Str → Option Value} {base : Heap} {T : List (Addr × Str)}
/-- a def whose code object is known -/
structure FunC (K : PySem.W.Frag) (x : Str) (st : Stmt) (f : Addr) (fd : FuncData) (c : Addr) : Prop where
  ex : ∃ (oc : Value) (od : Option Addr) (dV kV doc pm : Value) (an : Option Addr) (ct : Value) (osl : Array (Option Value)),
    fd = PySem.W.fnOf x x (defArgs st) (defBody st) (defScope st) dV kV doc pm an (.ref c) ct ∧ K.lookup f = some ⟨oc, od, .func fd, osl⟩ ∧ PySem.W.codeIn K (.ref c) x = true
theorem FunC.ok {CX : CXT} {N ps : List Str} {k : Nat} {sp : Sp} {x : Str} {st : Stmt} {f c : Addr} {fd : FuncData} (F : FunC K x st f fd c) (S : FnScope N ps (defScope st)) (len : ∀ vs H Q E, sp vs H Q E → vs.length = ps.length)
    (hbody : ∀ (A : Around) (outer : List Env) (s : Shared) (H : Hp) (vs : List V) (Q : VK) (E : XK), Room k (A.deeper (envOfC x (defScope st) s.heap.objs.size f (.ref c))) → sp vs H Q E →
      ∃ t, PSs (cxOf CX P w K mg base N x (defScope st) f (.ref c) A outer s H E) (defBody st) t ∧ t { nx := fun _ H' => Q .non H', rt := Q } (L2.start N vs) H) : FnOk P w K mg base CX (k + 1) f fd ps sp := by
  obtain ⟨oc, od, dV, kV, doc, pm, an, ct, osl, rfl, lk, hcd⟩ := F.ex
  exact fn_of lk hcd S len fun A outer s H vs Q E hr hsp => hbody A outer s H vs Q E hr hsp
theorem pe_caught {X : Cx} {f c Pt CE : Addr} {fd : FuncData} {k : Nat} {params : Arguments} {body : Expr} {scope : Scope} {t : XK → TE} {p lpos pos : Pos} (F : FnP X.K "_law_caught" s_law_caught f fd) (M : Dat X.K X.mg "_law_caught" f fd ["work"]) (hme : X.mg "LotError" = some (.ref CE))
    (TB : TabB X.base X.mg c Pt) (hcode : X.env.code = .ref c) (hmT : (Pt, X.env.qual ++ "<lambda>") ∈ T) (hu : ∀ p ∈ T, p.1 = Pt → p.2 = X.env.qual ++ "<lambda>") (hr : Room (k + 2) X.A) (L : LamS X.env.scope scope)
    (hbody : ∀ (A : Around) (outer : List Env) (s : Shared) (H : Hp) (E : XK) (f c' : Addr), Room k (A.deeper (lamEnv X scope s.heap.objs.size f c')) → PE (lamCx X A outer s H E scope f c') body (t E)) (hg : Gl X "_law_caught" := by rfl) (hdef : defaultsOf params X.env = ([], []) := by rfl)
    (hbind : ∀ (q : Str) (cl : List (Str × Addr)) (pm cv ctv : Value), bindArgs (PySem.W.kla_fn "<lambda>" q params body scope cl pm cv ctv) ⟨[], []⟩ = pure [] := by intros; rfl) :
    PE X (.Call (.Name "_law_caught" p) [.Lambda params body scope lpos] [] pos) (tLam T (TTc X.K CE) t) := by
  obtain ⟨oc, od, dV, kV, doc, pm, an, cdv, ct, osl, rfl, lk, hcd, _, _⟩ := F.ex
  exact pe_lamcall (Ng := ["work", "caught", "error"]) hg M.g M.k lk hcd M.b sc_law_caught rfl (.inl rfl) (caught_gives hme) TB hcode hmT hu hr L hdef hbind hbody
theorem sc_law_read_right : FnScope ["words", "places", "due", "caught", "told"] ["words", "places"] (defScope s_law_read_right) := ⟨rfl, rfl, rfl, by decide +kernel, rfl, by decide +kernel, by decide +kernel⟩
structure ExF (K : PySem.W.Frag) (mg : Str → Option Value) (CT CE CP : Addr) : Prop where
  gE : mg "LotError" = some (.ref CE)
  gT : mg "BadText" = some (.ref CT)
  xT : ExcC K CT
  fT : XfC K CT
  nT : PySem.W.findIn K (.ref CT) "index" = some none
  mT : PySem.W.exmOne K (.ref CT) (.ref CE) = some true
  iT : PySem.W.kitOne K (.ref CT) (.ref CT) = some true
  gP : mg "BadPlaces" = some (.ref CP)
  xP : ExcC K CP
  mP : PySem.W.exmOne K (.ref CP) (.ref CE) = some true
  iP : PySem.W.kitOne K (.ref CP) (.ref CP) = some true
theorem none_of {H H' : Hp} {p : Addr} (s : Same H H') (h : H' p = none) : H p = none := by
  cases e : H p with
  | none => rfl
  | some o => rw [s _ _ e] at h; cases h
theorem Ext.ofN {F : Addr → Prop} {H H' : Hp} (x : ExtN H H') (t : Tabs T H') : Ext T F H H' := ⟨fun b o e _ n => x b o e n, fun b xs e => x b _ e (fun _ z => by cases z), fun _ => t⟩
theorem readAll_ok {Pl : Nat} {ws : List Str} {s : Sn} (h : readAll Pl ws = .ok s) : s.ok Pl 8 := by
  have f := rd_facts Pl ws 8 0 (Nat.zero_le _)
  unfold readAll at h
  cases hr : rd Pl ws 8 0 with
  | error e => rw [hr] at h; cases h
  | ok q =>
    obtain ⟨t, k⟩ := q
    rw [hr] at h f
    dsimp only at h f
    split at h
    · cases h
    · cases h
      exact f.2.2
theorem data_shaped1 {P : Nat} {s : Sn} (h : s.ok P 8) : SeqAt.shaped (.list [s.data]) = true := by
  obtain ⟨h1, h2⟩ := data_lay s 8 h
  unfold SeqAt.shaped
  simp [PyData.canLay0, PyData.canLayAll0, h1, PyData.depth, PyData.depthAll]
  omega
theorem data_refl : ∀ s : Sn, PyData.eqv s.data s.data = true := by
  intro s
  induction s with
  | is p a => simp [Sn.data, PyData.eqv, PyData.eqvAll]
  | no s ih => simp [Sn.data, PyData.eqv, PyData.eqvAll, ih]
  | both s t i1 i2 => simp [Sn.data, PyData.eqv, PyData.eqvAll, i1, i2]
  | either s t i1 i2 => simp [Sn.data, PyData.eqv, PyData.eqvAll, i1, i2]
theorem data_refl1 (s : Sn) : PyData.eqv (.list [s.data]) (.list [s.data]) = true := by simp [PyData.eqv, PyData.eqvAll, data_refl s]
/-- the reading of told.append(read_sentence(places, ' '.join(words))) -/
def tLam1 (K : PySem.W.Frag) (CT CP : Addr) : XK → TE := fun E => tBM K "list" rAppend (tVar 4) (tCons (tCallS (spRS CT CP) (WE fun cls d _ H => E cls d H) (tCons (tVar 1) (tCons (tM1 (fun x xs H Q => ∃ a p, ∃ ys : List Str, x = .str a ∧ xs = [.ref p] ∧ (SqL K H p (ys.map V.str) ∨ SqT K H p (ys.map V.str)) ∧
      (ys.map (·.length)).sum + ys.length * a.length ≤ 16777216 ∧ Q (.str (Txt.join a ys)) H) (tC (.str " ")) (tVar 0)) tNil))) tNil)
def spRR (T : List (Addr × Str)) : Sp := fun vs H Q _ => ∃ (wl : Addr) (ws : List Str) (Pl n : Nat), vs = [.ref wl, .int Pl] ∧ 1 ≤ Pl ∧ Pl ≤ 6 ∧ H wl = some (.lst (ws.map .str)) ∧ Wl n ws ∧ n ≤ 100000 ∧ Tabs T H ∧ ∀ H', Ext T (fun _ => False) H H' → Q (.bl true) H'
theorem ok_rright {f c Pt f_law_is_whole f_law_read f_law_caught fread_sentence CT CE CP : Addr} {fd fdw fdr fdc fds : FuncData} (F : FunC K "_law_read_right" s_law_read_right f fd c) (Z : Zs mg) (XF : ExF K mg CT CE CP)
    (G_law_is_whole : FnOk P w K mg base (L2.CX P w) 1 f_law_is_whole fdw ["thing"] spWh) (M_law_is_whole : Dat K mg "_law_is_whole" f_law_is_whole fdw ["thing"])
    (G_law_read : FnOk P w K mg base (L2.CX P w) 11 f_law_read fdr ["words", "places"] spLR) (M_law_read : Dat K mg "_law_read" f_law_read fdr ["words", "places"])
    (Gread_sentence : FnOk P w K mg base (L2.CX P w) 14 fread_sentence fds ["places", "text"] (spRS CT CP)) (Mread_sentence : Dat K mg "read_sentence" fread_sentence fds ["places", "text"])
    (F_law_caught : FnP K "_law_caught" s_law_caught f_law_caught fdc) (M_law_caught : Dat K mg "_law_caught" f_law_caught fdc ["work"])
    (TB_law_read_right : TabB base mg c Pt) (hmT_law_read_right : (Pt, Str.ofString "_law_read_right.<locals>.<lambda>") ∈ T) (huT_law_read_right : ∀ p ∈ T, p.1 = Pt → p.2 = Str.ofString "_law_read_right.<locals>.<lambda>") :
    FnOk P w K mg base (L2.CX P w) 17 f fd ["words", "places"] (spRR T) := by
  refine F.ok sc_law_read_right (fun vs H Q E h => ?_) (fun A outer s H vs Q E hr h => ?_)
  · obtain ⟨_, _, _, _, rfl, _⟩ := h
    rfl
  obtain ⟨wl, ws, Pl, n, rfl, hP1, hP, hw, hW, hn, hT, h⟩ := h
  have g_CE := XF.gE
  have g_BadText := XF.gT
  have hcode : (cxOf (L2.CX P w) P w K mg base ["words", "places", "due", "caught", "told"] "_law_read_right" (defScope s_law_read_right) f (.ref c) A outer s H E).env.code = .ref c := rfl
  refine ⟨_, (pss_cons (ps_asg (pe_tup (pa_cons (pe_fn G_law_read M_law_read (hr.mono (by omega)) (pa_cons (pv 0) (pa_cons (pv 1) pa_nil))) (pa_cons (pe_lst pa_nil) pa_nil))) (pg_tup rfl (pgs_cons (pg_name (i := 2) sc_law_read_right.nd rfl (Or.inl rfl)) (pgs_cons (pg_name (i := 4) sc_law_read_right.nd rfl (Or.inr rfl)) pgs_nil))))
    (pss_cons (ps_set (i := 3) sc_law_read_right.nd rfl (Or.inl rfl) (pe_caught (k := 14) (t := tLam1 K CT CP) F_law_caught M_law_caught g_CE TB_law_read_right rfl hmT_law_read_right huT_law_read_right (hr.mono (by omega)) (lamS_by (sc := defScope s_law_read_right) (by decide +kernel)) (fun A outer s H E f c2 hr => (pe_bm PySem.F.plainAttrs_list PySem.F.slot_list_append PySem.F.type_list_append mt_append (pv 4) (pa_cons (pe_fx Gread_sentence Mread_sentence (hr.mono (by omega)) (takes_of rfl rfl rfl rfl) (pa_cons (pv 1) (pa_cons (pe_join pe_str (pv 0)) pa_nil))) pa_nil)))))
    (pss_cons (ps_if (pt_val (pe_fn G_law_is_whole M_law_is_whole (hr.mono (by omega)) (pa_cons (pv 2) pa_nil))) (pss_one (ps_ret (pe_and (pe_callB call_isV (by rfl) Z.isinstance_ (by decide +kernel) (pa_cons (pv 3) (pa_cons (pe_globR g_BadText) pa_nil))) (pe_and (pe_cmpR op_eq (pe_vf (pv 3)) (pv 2) (nomark _)) (pe_one (pe_cmpR (op_eqD hr.units) (pv 4) (pe_lst pa_nil) (nomark _))))))) pss_nil)
    (pss_one (ps_ret (pe_and (pe_cmp (pc_isN (pv 3)) rfl) (pe_one (pe_cmpR (op_eqD hr.units) (pv 4) (pe_lst (pa_cons (pv 2) pa_nil)) (nomark _))))))))), ?_⟩
  walk_at "ss"
  refine ⟨wl, ws, Pl, rfl, hP1, hP, hw, ?_⟩
  cases hrd : readAll Pl ws with
  | error e =>
    dsimp only
    intro H1 s1
    walk_at "ss"
    refine ⟨small (by simp), fun p0 hp0 => ?_⟩
    walk_at "ss"
    refine ⟨small (by simp), fun p1 hp1 => ?_⟩
    refine ⟨_, _, rfl, SqT.of upd_same, rfl, _, _, rfl, _, _, rfl, rfl, ?_⟩
    have s2 : Same H (upd (upd H1 p0 (.lst [])) p1 (.tup [.int (e : Nat), .ref p0])) := (s1.trans (same_new hp0 _)).trans (same_new hp1 _)
    have hn0 : H p0 = none := none_of s1 hp0
    have e0 := nw (o := .tup [.int (e : Nat), .ref p0]) hp1 (upd_same (H := H1) (a := p0) (o := .lst []))
    generalize upd (upd H1 p0 (.lst [])) p1 (.tup [.int (e : Nat), .ref p0]) = H2 at s2 e0 ⊢
    refine ⟨hT.ext s2, fun H3 x3 T3 N hN => ?_⟩
    have e3 := x3 _ _ e0 (fun _ z => by cases z)
    have hw3 := x3 _ _ (s2 _ _ hw) (fun _ z => by cases z)
    have X3 : Ext T (fun b => False ∨ b = p0) H2 H3 := Ext.ofN x3 T3
    walk_at "ss"
    refine ⟨.inl ⟨rfl, _, SqL.of e3⟩, ?_⟩
    walk_at "ss"
    refine ⟨_, _, ws, rfl, rfl, .inl (SqL.of hw3), join_fits hW hn, ?_⟩
    walk_at "ss"
    refine .inl ⟨Pl, n, ws, rfl, hP1, hP, hW, hn, ?_⟩
    rw [hrd]
    intro H4 d s4 hd
    refine ⟨XF.mT, fun a ha => ?_⟩
    have s5 : Same H3 (upd (upd H4 d (.xd [("index", .int (e : Nat))])) a (ExV a (.ref CT) (some d))) := (s4.trans (same_new hd _)).trans (same_new ha _)
    have ea : upd (upd H4 d (.xd [("index", .int (e : Nat))])) a (ExV a (.ref CT) (some d)) a = _ := upd_same
    have ed : upd (upd H4 d (.xd [("index", .int (e : Nat))])) a (ExV a (.ref CT) (some d)) d = some (.xd [("index", .int (e : Nat))]) := nw ha upd_same
    generalize upd (upd H4 d (.xd [("index", .int (e : Nat))])) a (ExV a (.ref CT) (some d)) = H5 at s5 ea ed ⊢
    have X5 := X3.trans (.same s5)
    walk_at "ss"
    refine .inl ⟨_, rfl, ?_⟩
    walk_at "ss"
    refine ⟨a, CT, some d, _, _, true, rfl, ea, (fun o ho => by cases ho; exact ⟨_, ed⟩), XF.xT, .own CT, XF.iT, ?_⟩
    walk_at "ss"
    refine ⟨a, CT, d, _, _, rfl, ea, XF.fT, XF.nT, ed, rfl, ?_⟩
    walk_at "ss"
    refine if_t (decide_eq_true rfl) ?_
    walk_at "ss"
    refine ⟨small (by simp), fun p6 hp6 => ?_⟩
    refine ⟨_, _, .lst (SqL.of (nw hp6 (s5 _ _ e3))) .nil, .lst (SqL.of upd_same) .nil, by decide +kernel, by decide +kernel, ?_⟩
    exact h _ (Ext.out s2 hn0 (X5.trans (.same (same_new hp6 _))))
  | ok sn =>
    dsimp only
    intro H1 v a xs s1 hv ha rv
    subst hv
    walk_at "ss"
    refine ⟨small (by simp), fun p0 hp0 => ?_⟩
    walk_at "ss"
    refine ⟨small (by simp), fun p1 hp1 => ?_⟩
    refine ⟨_, _, rfl, SqT.of upd_same, rfl, _, _, rfl, _, _, rfl, rfl, ?_⟩
    have s2 : Same H (upd (upd H1 p0 (.lst [])) p1 (.tup [.ref a, .ref p0])) := (s1.trans (same_new hp0 _)).trans (same_new hp1 _)
    have hn0 : H p0 = none := none_of s1 hp0
    have e0 := nw (o := .tup [.ref a, .ref p0]) hp1 (upd_same (H := H1) (a := p0) (o := .lst []))
    have rv2 := (rv.same (same_new hp0 (.lst []))).same (same_new hp1 (.tup [.ref a, .ref p0]))
    have ha2 := same_new hp1 (.tup [.ref a, .ref p0]) _ _ (same_new hp0 (.lst []) _ _ ha)
    generalize upd (upd H1 p0 (.lst [])) p1 (.tup [.ref a, .ref p0]) = H2 at s2 e0 rv2 ha2 ⊢
    refine ⟨hT.ext s2, fun H3 x3 T3 N hN => ?_⟩
    have e3 := x3 _ _ e0 (fun _ z => by cases z)
    have hw3 := x3 _ _ (s2 _ _ hw) (fun _ z => by cases z)
    have X3 : Ext T (fun b => False ∨ b = p0) H2 H3 := Ext.ofN x3 T3
    walk_at "ss"
    refine ⟨.inl ⟨rfl, _, SqL.of e3⟩, ?_⟩
    walk_at "ss"
    refine ⟨_, _, ws, rfl, rfl, .inl (SqL.of hw3), join_fits hW hn, ?_⟩
    walk_at "ss"
    refine .inl ⟨Pl, n, ws, rfl, hP1, hP, hW, hn, ?_⟩
    rw [hrd]
    intro H4 v s4 rv4
    have e4 := s4 _ _ e3
    walk_at "ss"
    refine ⟨_, _, _, rfl, rfl, e4, smallt (show 0 ≤ _ by decide), hN _ ?_⟩
    have X5 : Ext T (fun b => False ∨ b = p0) H2 (upd H4 p0 (.lst ([] ++ [v]))) := (X3.trans (.same s4)).trans (Ext.upd (.inr rfl) e4 mut_lst)
    have rv5 : RpS (upd H4 p0 (.lst ([] ++ [v]))) v sn := rv4.tups fun b xs z => tup_upd e4 z
    have rd5 := rv2.ext X5
    have ha5 := X5.tups _ _ ha2
    have e5 : upd H4 p0 (.lst ([] ++ [v])) p0 = some (.lst [v]) := upd_same
    generalize upd H4 p0 (.lst ([] ++ [v])) = H5 at X5 rv5 rd5 ha5 e5 ⊢
    walk_at "ss"
    refine .inr ⟨_, _, rfl, ha5, ?_⟩
    walk_at "ss"
    refine ⟨small (by simp), fun p6 hp6 => ?_⟩
    have s6 := same_new hp6 (.lst [.ref a])
    have ok := readAll_ok hrd
    refine ⟨_, _, .lst (SqL.of (s6 _ _ e5)) (.cons (rv5.same s6).dp .nil), .lst (SqL.of upd_same) (.cons (rd5.same s6).dp .nil), data_shaped1 ok, data_shaped1 ok, ?_⟩
    rw [data_refl1]
    exact h _ (Ext.out s2 hn0 (X5.trans (.same s6)))

end
end K14
/-! L9: bent words -/
namespace K14
open PySem PySem.Spec PyProof.Rows L2 LamX Cov
/-- one step of a reading -/
local macro_rules | `(tactic| walk_at "s") => `(tactic| first | refine ⟨_, rfl, ?_⟩ | refine ⟨_, _, rfl, rfl, ?_⟩ | refine ⟨rfl, ?_⟩ | refine ⟨⟨_, rfl⟩, ?_⟩)
local macro_rules | `(tactic| walk_at "ss") => `(tactic| repeat walk_at "s")
section
variable {P : Program} {w : World} {K : PySem.W.Frag} {mg : Str → Option Value} {base : Heap} {T : List (Addr × Str)}
theorem new_lst {H J : Hp} {p : Addr} {raw : List V} {L : List Str} (hJ : upd H p (.lst raw) = J) (hp : H p = none) (hraw : raw = L.map V.str) : Same H J ∧ J p = some (.lst (L.map V.str)) := by
  subst hJ
  exact ⟨same_new hp _, by rw [upd_same, hraw]⟩
theorem new_any {H J : Hp} {p : Addr} {raw : List V} (hJ : upd H p (.lst raw) = J) (hp : H p = none) : Same H J ∧ J p = some (.lst raw) := by
  subst hJ
  exact ⟨same_new hp _, upd_same⟩
theorem cut_to {ws : List Str} {k : Nat} (h : k ≤ ws.length) : cutV (ws.map V.str) none (some (k : Int)) = (ws.take k).map V.str := by
  unfold cutV
  rw [HT.sIx_nat, HT.sIx_none, List.length_map, Nat.min_eq_left h]
  simp
theorem cut_from {ws : List Str} {k : Nat} (h : k ≤ ws.length) : cutV (ws.map V.str) (some (k : Int)) none = (ws.drop k).map V.str := by
  unfold cutV
  rw [HT.sIx_nat, HT.sIx_none, List.length_map, Nat.min_eq_left h, ← List.map_drop, ← List.map_take]
  congr 1
  rw [List.take_of_length_le (by simp)]
def Aw (ws : List Str) : Prop := ∀ x ∈ ws, Wk x
theorem Aw.app {a b : List Str} (h : Aw a) (k : Aw b) : Aw (a ++ b) := fun x hx => (List.mem_append.mp hx).elim (h x) (k x)
theorem Aw.take {a : List Str} (h : Aw a) (k : Nat) : Aw (a.take k) := fun x hx => h x (List.mem_of_mem_take hx)
theorem Aw.drop {a : List Str} (h : Aw a) (k : Nat) : Aw (a.drop k) := fun x hx => h x (List.mem_of_mem_drop hx)
theorem Aw.rev {a : List Str} (h : Aw a) : Aw a.reverse := fun x hx => h x (List.mem_reverse.mp hx)
theorem Aw.one {x : Str} (h : Wk x) : Aw [x] := fun y hy => by
  obtain rfl := List.mem_singleton.mp hy
  exact h
def odds : List Str := ["", "is", "no", "both", "either", "0", "1", "2", "5", "6", "-1", "00", "Is", "not", "None", "01"]
theorem aw_odds : Aw odds := by unfold Aw odds; decide +kernel
theorem li_of {F : Addr → Prop} {H H' : Hp} {p : Addr} {xs : List V} (e : H' p = some (.lst xs)) (n : ¬ F p) : Li F H' p xs := ⟨e, n⟩
theorem fs_new {st g c p : Addr} {B : Nat} {H : Hp} (S : Stt st g c B H) (h : H p = none) : ¬ Fs st g p := fun z => by
  obtain ⟨_, ⟨_, _, _, hd⟩, ⟨_, hg⟩, _⟩ := S
  rcases z with z | z
  · rw [z, hd] at h; cases h
  · rw [z, hg] at h; cases h
theorem sc_law_bent : FnScope ["state", "words", "spot", "odd", "word", "several"] ["state", "words"] (defScope s_law_bent) := ⟨rfl, rfl, rfl, by decide +kernel, rfl, by decide +kernel, by decide +kernel⟩
def spBn (T : List (Addr × Str)) : Sp := fun vs H Q _ => ∃ (st g c wl : Addr) (B n : Nat) (ws : List Str), vs = [.ref st, .ref wl] ∧ Stt st g c B H ∧ B + 3 ≤ 2 ^ 40 ∧ Li (Fs st g) H wl (ws.map .str) ∧ Wl n ws ∧ n ≤ 50000 ∧
  ∀ H' b bs, Ext T (Fs st g) H H' → Stt st g c (B + 3) H' → Li (Fs st g) H' b (bs.map .str) → Wl (2 * n + 2) bs → Q (.ref b) H'
theorem ok_bent {f f_law_draw f_law_pick : Addr} {fd fdd fdp : FuncData} (F : FnP K "_law_bent" s_law_bent f fd) (Z : Zs mg) (G_law_draw : FnOk P w K mg base (L2.CX P w) 2 f_law_draw fdd ["state", "size"] (spDr T)) (M_law_draw : Dat K mg "_law_draw" f_law_draw fdd ["state", "size"])
    (G_law_pick : FnOk P w K mg base (L2.CX P w) 3 f_law_pick fdp ["state", "several"] (spPi T)) (M_law_pick : Dat K mg "_law_pick" f_law_pick fdp ["state", "several"]) :
    FnOk P w K mg base (L2.CX P w) 4 f fd ["state", "words"] (spBn T) := by
  refine F.ok sc_law_bent (fun vs H Q E h => ?_) (fun cdv A outer s H vs Q E hr h => ?_)
  · obtain ⟨_, _, _, _, _, _, _, rfl, _⟩ := h
    rfl
  obtain ⟨st, g, c, wl, B, n, ws, rfl, hS, hB, hl, hW, hn, h⟩ := h
  obtain ⟨hW1, hW2, hW3⟩ := hW
  have hlen : 0 < ws.length := List.length_pos_iff.mpr hW2
  have aw : Aw ws := hW3
  refine ⟨_, (pss_cons (ps_par (i := 2) (j := 3) (by rfl) sc_law_bent.nd rfl rfl (by decide) rfl rfl (pa_cons (pe_fn G_law_draw M_law_draw (hr.mono (by omega)) (pa_cons (pv 0) (pa_cons (pe_callB call_len_seq (by rfl) Z.len_ (by decide +kernel) (pa_cons (pv 1) pa_nil)) pa_nil))) (pa_cons (pe_lst (pa_cons pe_str (pa_cons pe_str (pa_cons pe_str (pa_cons pe_str (pa_cons pe_str (pa_cons pe_str (pa_cons pe_str (pa_cons pe_str (pa_cons pe_str (pa_cons pe_str (pa_cons pe_str (pa_cons pe_str (pa_cons pe_str (pa_cons pe_str (pa_cons pe_str (pa_cons pe_str pa_nil))))))))))))))))) pa_nil)) (by rfl))
    (pss_cons (ps_set (i := 4) sc_law_bent.nd rfl (Or.inl rfl) (pe_fn G_law_pick M_law_pick (hr.mono (by omega)) (pa_cons (pv 0) (pa_cons (pv 3) pa_nil))))
    (pss_cons (ps_set (i := 5) sc_law_bent.nd rfl (Or.inl rfl) (pe_lst (pa_cons (pe_op op_cat (pe_op op_cat (pe_slice sl_list (pv 1) po_none (po_some (pv 2))) (pe_lst (pa_cons (pv 4) pa_nil))) (pe_slice sl_list (pv 1) (po_some (pe_op op_add (pv 2) pe_int)) po_none)) (pa_cons (pe_op op_cat (pe_op op_cat (pe_slice sl_list (pv 1) po_none (po_some (pv 2))) (pe_lst (pa_cons (pv 4) pa_nil))) (pe_slice sl_list (pv 1) (po_some (pv 2)) po_none)) (pa_cons (pe_op op_cat (pe_slice sl_list (pv 1) po_none (po_some (pv 2))) (pe_slice sl_list (pv 1) (po_some (pe_op op_add (pv 2) pe_int)) po_none)) (pa_cons (pe_op op_cat (pe_slice sl_list (pv 1) po_none (po_some (pe_op op_add (pv 2) pe_int))) (pe_slice sl_list (pv 1) (po_some (pv 2)) po_none)) pa_nil))))))
    (pss_cons (ps_set (i := 5) sc_law_bent.nd rfl (Or.inl rfl) (pe_op op_cat (pv 5) (pe_lst (pa_cons (pe_slice sl_list (pv 1) po_none (po_some (pv 2))) (pa_cons (pe_op op_cat (pv 1) (pe_lst (pa_cons (pv 4) pa_nil))) (pa_cons (pe_op op_cat (pe_lst (pa_cons pe_str pa_nil)) (pv 1)) (pa_cons (pe_op op_cat (pv 1) (pe_lst (pa_cons pe_str pa_nil))) (pa_cons (pe_op op_cat (pv 1) (pv 1)) (pa_cons (pe_op op_cat (pe_lst (pa_cons pe_str pa_nil)) (pv 1)) (pa_cons (pe_op op_cat (pe_lst (pa_cons pe_str pa_nil)) (pv 1)) (pa_cons (pe_revL (pv 1)) pa_nil)))))))))))
    (pss_one (ps_ret (pe_orT (pe_fn G_law_pick M_law_pick (hr.mono (by omega)) (pa_cons (pv 0) (pa_cons (pv 5) pa_nil))) (pe_one (pe_lst (pa_cons pe_str pa_nil)))))))))), ?_⟩
  walk_at "ss"
  refine ⟨_, _, rfl, .inl (SqL.of hl.1), ?_⟩
  walk_at "ss"
  rw [List.length_map]
  refine ⟨st, g, c, B, ws.length, rfl, hlen, by omega, hS, by omega, fun H1 k hk x1 S1 => ?_⟩
  walk_at "ss"
  refine ⟨small (by simp), fun po hpo => ?_⟩
  generalize hJ : upd _ po _ = H2
  obtain ⟨s2, e2⟩ := new_lst (L := odds) hJ hpo (by rfl)
  walk_at "ss"
  refine ⟨_, _, rfl, ?_⟩
  have S2 := S1.same s2
  walk_at "ss"
  refine ⟨st, g, c, po, _, _, rfl, S2, by omega, ⟨e2, fs_new S1 hpo⟩, by decide, by decide, fun H3 j x hx x3 S3 => ?_⟩
  obtain ⟨wd, hwd, rfl⟩ := List.mem_map.mp (List.mem_of_getElem? hx)
  have awd := Aw.one (aw_odds wd hwd)
  have hw := (hl.ext (x1.trans ((Ext.same s2).trans x3))).1
  have x13 : Ext T (Fs st g) H H3 := x1.trans ((Ext.same s2).trans x3)
  have s0 : Same H3 H3 := .refl _
  walk_at "ss"
  refine ⟨_, _, rfl, SqL.of hw, fun q1 hq1 => ?_⟩
  generalize hJ : upd _ q1 _ = J1
  obtain ⟨t1, e1⟩ := new_lst (L := ws.take (k)) hJ hq1 (by exact cut_to (k := k) (by omega))
  clear hJ
  replace hw := t1 _ _ hw
  have z1 := none_of s0 hq1
  replace s0 := s0.trans t1
  have a1 : Aw (ws.take (k)) := aw.take _
  walk_at "ss"
  refine ⟨small (by simp), fun q2 hq2 => ?_⟩
  generalize hJ : upd _ q2 _ = J2
  obtain ⟨t2, e2⟩ := new_lst (L := [wd]) hJ hq2 (by rfl)
  clear hJ
  replace hw := t2 _ _ hw
  replace e1 := t2 _ _ e1
  have z2 := none_of s0 hq2
  replace s0 := s0.trans t2
  have a2 : Aw ([wd]) := awd
  walk_at "ss"
  refine ⟨_, _, _, _, rfl, rfl, e1, e2, small (by simp; omega), fun q3 hq3 => ?_⟩
  generalize hJ : upd _ q3 _ = J3
  obtain ⟨t3, e3⟩ := new_lst (L := (ws.take (k)) ++ ([wd])) hJ hq3 (by exact List.map_append.symm)
  clear hJ
  replace hw := t3 _ _ hw
  replace e1 := t3 _ _ e1
  replace e2 := t3 _ _ e2
  have z3 := none_of s0 hq3
  replace s0 := s0.trans t3
  have a3 : Aw ((ws.take (k)) ++ ([wd])) := a1.app a2
  walk_at "ss"
  refine ⟨_, _, rfl, SqL.of hw, fun q4 hq4 => ?_⟩
  generalize hJ : upd _ q4 _ = J4
  obtain ⟨t4, e4⟩ := new_lst (L := ws.drop (k+1)) hJ hq4 (by exact cut_from (k := k+1) (by omega))
  clear hJ
  replace hw := t4 _ _ hw
  replace e1 := t4 _ _ e1
  replace e2 := t4 _ _ e2
  replace e3 := t4 _ _ e3
  have z4 := none_of s0 hq4
  replace s0 := s0.trans t4
  have a4 : Aw (ws.drop (k+1)) := aw.drop _
  walk_at "ss"
  refine ⟨_, _, _, _, rfl, rfl, e3, e4, small (by simp; omega), fun q5 hq5 => ?_⟩
  generalize hJ : upd _ q5 _ = J5
  obtain ⟨t5, e5⟩ := new_lst (L := ((ws.take (k)) ++ ([wd])) ++ (ws.drop (k+1))) hJ hq5 (by exact List.map_append.symm)
  clear hJ
  replace hw := t5 _ _ hw
  replace e1 := t5 _ _ e1
  replace e2 := t5 _ _ e2
  replace e3 := t5 _ _ e3
  replace e4 := t5 _ _ e4
  have z5 := none_of s0 hq5
  replace s0 := s0.trans t5
  have a5 : Aw (((ws.take (k)) ++ ([wd])) ++ (ws.drop (k+1))) := a3.app a4
  walk_at "ss"
  refine ⟨_, _, rfl, SqL.of hw, fun q6 hq6 => ?_⟩
  generalize hJ : upd _ q6 _ = J6
  obtain ⟨t6, e6⟩ := new_lst (L := ws.take (k)) hJ hq6 (by exact cut_to (k := k) (by omega))
  clear hJ
  replace hw := t6 _ _ hw
  replace e1 := t6 _ _ e1
  replace e2 := t6 _ _ e2
  replace e3 := t6 _ _ e3
  replace e4 := t6 _ _ e4
  replace e5 := t6 _ _ e5
  have z6 := none_of s0 hq6
  replace s0 := s0.trans t6
  have a6 : Aw (ws.take (k)) := aw.take _
  walk_at "ss"
  refine ⟨small (by simp), fun q7 hq7 => ?_⟩
  generalize hJ : upd _ q7 _ = J7
  obtain ⟨t7, e7⟩ := new_lst (L := [wd]) hJ hq7 (by rfl)
  clear hJ
  replace hw := t7 _ _ hw
  replace e1 := t7 _ _ e1
  replace e2 := t7 _ _ e2
  replace e3 := t7 _ _ e3
  replace e4 := t7 _ _ e4
  replace e5 := t7 _ _ e5
  replace e6 := t7 _ _ e6
  have z7 := none_of s0 hq7
  replace s0 := s0.trans t7
  have a7 : Aw ([wd]) := awd
  walk_at "ss"
  refine ⟨_, _, _, _, rfl, rfl, e6, e7, small (by simp; omega), fun q8 hq8 => ?_⟩
  generalize hJ : upd _ q8 _ = J8
  obtain ⟨t8, e8⟩ := new_lst (L := (ws.take (k)) ++ ([wd])) hJ hq8 (by exact List.map_append.symm)
  clear hJ
  replace hw := t8 _ _ hw
  replace e1 := t8 _ _ e1
  replace e2 := t8 _ _ e2
  replace e3 := t8 _ _ e3
  replace e4 := t8 _ _ e4
  replace e5 := t8 _ _ e5
  replace e6 := t8 _ _ e6
  replace e7 := t8 _ _ e7
  have z8 := none_of s0 hq8
  replace s0 := s0.trans t8
  have a8 : Aw ((ws.take (k)) ++ ([wd])) := a6.app a7
  walk_at "ss"
  refine ⟨_, _, rfl, SqL.of hw, fun q9 hq9 => ?_⟩
  generalize hJ : upd _ q9 _ = J9
  obtain ⟨t9, e9⟩ := new_lst (L := ws.drop (k)) hJ hq9 (by exact cut_from (k := k) (by omega))
  clear hJ
  replace hw := t9 _ _ hw
  replace e1 := t9 _ _ e1
  replace e2 := t9 _ _ e2
  replace e3 := t9 _ _ e3
  replace e4 := t9 _ _ e4
  replace e5 := t9 _ _ e5
  replace e6 := t9 _ _ e6
  replace e7 := t9 _ _ e7
  replace e8 := t9 _ _ e8
  have z9 := none_of s0 hq9
  replace s0 := s0.trans t9
  have a9 : Aw (ws.drop (k)) := aw.drop _
  walk_at "ss"
  refine ⟨_, _, _, _, rfl, rfl, e8, e9, small (by simp; omega), fun q10 hq10 => ?_⟩
  generalize hJ : upd _ q10 _ = J10
  obtain ⟨t10, e10⟩ := new_lst (L := ((ws.take (k)) ++ ([wd])) ++ (ws.drop (k))) hJ hq10 (by exact List.map_append.symm)
  clear hJ
  replace hw := t10 _ _ hw
  replace e1 := t10 _ _ e1
  replace e2 := t10 _ _ e2
  replace e3 := t10 _ _ e3
  replace e4 := t10 _ _ e4
  replace e5 := t10 _ _ e5
  replace e6 := t10 _ _ e6
  replace e7 := t10 _ _ e7
  replace e8 := t10 _ _ e8
  replace e9 := t10 _ _ e9
  have z10 := none_of s0 hq10
  replace s0 := s0.trans t10
  have a10 : Aw (((ws.take (k)) ++ ([wd])) ++ (ws.drop (k))) := a8.app a9
  walk_at "ss"
  refine ⟨_, _, rfl, SqL.of hw, fun q11 hq11 => ?_⟩
  generalize hJ : upd _ q11 _ = J11
  obtain ⟨t11, e11⟩ := new_lst (L := ws.take (k)) hJ hq11 (by exact cut_to (k := k) (by omega))
  clear hJ
  replace hw := t11 _ _ hw
  replace e1 := t11 _ _ e1
  replace e2 := t11 _ _ e2
  replace e3 := t11 _ _ e3
  replace e4 := t11 _ _ e4
  replace e5 := t11 _ _ e5
  replace e6 := t11 _ _ e6
  replace e7 := t11 _ _ e7
  replace e8 := t11 _ _ e8
  replace e9 := t11 _ _ e9
  replace e10 := t11 _ _ e10
  have z11 := none_of s0 hq11
  replace s0 := s0.trans t11
  have a11 : Aw (ws.take (k)) := aw.take _
  walk_at "ss"
  refine ⟨_, _, rfl, SqL.of hw, fun q12 hq12 => ?_⟩
  generalize hJ : upd _ q12 _ = J12
  obtain ⟨t12, e12⟩ := new_lst (L := ws.drop (k+1)) hJ hq12 (by exact cut_from (k := k+1) (by omega))
  clear hJ
  replace hw := t12 _ _ hw
  replace e1 := t12 _ _ e1
  replace e2 := t12 _ _ e2
  replace e3 := t12 _ _ e3
  replace e4 := t12 _ _ e4
  replace e5 := t12 _ _ e5
  replace e6 := t12 _ _ e6
  replace e7 := t12 _ _ e7
  replace e8 := t12 _ _ e8
  replace e9 := t12 _ _ e9
  replace e10 := t12 _ _ e10
  replace e11 := t12 _ _ e11
  have z12 := none_of s0 hq12
  replace s0 := s0.trans t12
  have a12 : Aw (ws.drop (k+1)) := aw.drop _
  walk_at "ss"
  refine ⟨_, _, _, _, rfl, rfl, e11, e12, small (by simp; omega), fun q13 hq13 => ?_⟩
  generalize hJ : upd _ q13 _ = J13
  obtain ⟨t13, e13⟩ := new_lst (L := (ws.take (k)) ++ (ws.drop (k+1))) hJ hq13 (by exact List.map_append.symm)
  clear hJ
  replace hw := t13 _ _ hw
  replace e1 := t13 _ _ e1
  replace e2 := t13 _ _ e2
  replace e3 := t13 _ _ e3
  replace e4 := t13 _ _ e4
  replace e5 := t13 _ _ e5
  replace e6 := t13 _ _ e6
  replace e7 := t13 _ _ e7
  replace e8 := t13 _ _ e8
  replace e9 := t13 _ _ e9
  replace e10 := t13 _ _ e10
  replace e11 := t13 _ _ e11
  replace e12 := t13 _ _ e12
  have z13 := none_of s0 hq13
  replace s0 := s0.trans t13
  have a13 : Aw ((ws.take (k)) ++ (ws.drop (k+1))) := a11.app a12
  walk_at "ss"
  refine ⟨_, _, rfl, SqL.of hw, fun q14 hq14 => ?_⟩
  generalize hJ : upd _ q14 _ = J14
  obtain ⟨t14, e14⟩ := new_lst (L := ws.take (k+1)) hJ hq14 (by exact cut_to (k := k+1) (by omega))
  clear hJ
  replace hw := t14 _ _ hw
  replace e1 := t14 _ _ e1
  replace e2 := t14 _ _ e2
  replace e3 := t14 _ _ e3
  replace e4 := t14 _ _ e4
  replace e5 := t14 _ _ e5
  replace e6 := t14 _ _ e6
  replace e7 := t14 _ _ e7
  replace e8 := t14 _ _ e8
  replace e9 := t14 _ _ e9
  replace e10 := t14 _ _ e10
  replace e11 := t14 _ _ e11
  replace e12 := t14 _ _ e12
  replace e13 := t14 _ _ e13
  have z14 := none_of s0 hq14
  replace s0 := s0.trans t14
  have a14 : Aw (ws.take (k+1)) := aw.take _
  walk_at "ss"
  refine ⟨_, _, rfl, SqL.of hw, fun q15 hq15 => ?_⟩
  generalize hJ : upd _ q15 _ = J15
  obtain ⟨t15, e15⟩ := new_lst (L := ws.drop (k)) hJ hq15 (by exact cut_from (k := k) (by omega))
  clear hJ
  replace hw := t15 _ _ hw
  replace e1 := t15 _ _ e1
  replace e2 := t15 _ _ e2
  replace e3 := t15 _ _ e3
  replace e4 := t15 _ _ e4
  replace e5 := t15 _ _ e5
  replace e6 := t15 _ _ e6
  replace e7 := t15 _ _ e7
  replace e8 := t15 _ _ e8
  replace e9 := t15 _ _ e9
  replace e10 := t15 _ _ e10
  replace e11 := t15 _ _ e11
  replace e12 := t15 _ _ e12
  replace e13 := t15 _ _ e13
  replace e14 := t15 _ _ e14
  have z15 := none_of s0 hq15
  replace s0 := s0.trans t15
  have a15 : Aw (ws.drop (k)) := aw.drop _
  walk_at "ss"
  refine ⟨_, _, _, _, rfl, rfl, e14, e15, small (by simp; omega), fun q16 hq16 => ?_⟩
  generalize hJ : upd _ q16 _ = J16
  obtain ⟨t16, e16⟩ := new_lst (L := (ws.take (k+1)) ++ (ws.drop (k))) hJ hq16 (by exact List.map_append.symm)
  clear hJ
  replace hw := t16 _ _ hw
  replace e1 := t16 _ _ e1
  replace e2 := t16 _ _ e2
  replace e3 := t16 _ _ e3
  replace e4 := t16 _ _ e4
  replace e5 := t16 _ _ e5
  replace e6 := t16 _ _ e6
  replace e7 := t16 _ _ e7
  replace e8 := t16 _ _ e8
  replace e9 := t16 _ _ e9
  replace e10 := t16 _ _ e10
  replace e11 := t16 _ _ e11
  replace e12 := t16 _ _ e12
  replace e13 := t16 _ _ e13
  replace e14 := t16 _ _ e14
  replace e15 := t16 _ _ e15
  have z16 := none_of s0 hq16
  replace s0 := s0.trans t16
  have a16 : Aw ((ws.take (k+1)) ++ (ws.drop (k))) := a14.app a15
  walk_at "ss"
  refine ⟨small (by simp), fun sv1 hq17 => ?_⟩
  generalize hJ : upd _ sv1 _ = J17
  obtain ⟨t17, sv1e⟩ := new_any hJ hq17
  clear hJ
  replace hw := t17 _ _ hw
  replace e1 := t17 _ _ e1
  replace e2 := t17 _ _ e2
  replace e3 := t17 _ _ e3
  replace e4 := t17 _ _ e4
  replace e5 := t17 _ _ e5
  replace e6 := t17 _ _ e6
  replace e7 := t17 _ _ e7
  replace e8 := t17 _ _ e8
  replace e9 := t17 _ _ e9
  replace e10 := t17 _ _ e10
  replace e11 := t17 _ _ e11
  replace e12 := t17 _ _ e12
  replace e13 := t17 _ _ e13
  replace e14 := t17 _ _ e14
  replace e15 := t17 _ _ e15
  replace e16 := t17 _ _ e16
  replace s0 := s0.trans t17
  walk_at "ss"
  refine ⟨_, _, rfl, SqL.of hw, fun q18 hq18 => ?_⟩
  generalize hJ : upd _ q18 _ = J18
  obtain ⟨t18, e18⟩ := new_lst (L := ws.take (k)) hJ hq18 (by exact cut_to (k := k) (by omega))
  clear hJ
  replace hw := t18 _ _ hw
  replace e1 := t18 _ _ e1
  replace e2 := t18 _ _ e2
  replace e3 := t18 _ _ e3
  replace e4 := t18 _ _ e4
  replace e5 := t18 _ _ e5
  replace e6 := t18 _ _ e6
  replace e7 := t18 _ _ e7
  replace e8 := t18 _ _ e8
  replace e9 := t18 _ _ e9
  replace e10 := t18 _ _ e10
  replace e11 := t18 _ _ e11
  replace e12 := t18 _ _ e12
  replace e13 := t18 _ _ e13
  replace e14 := t18 _ _ e14
  replace e15 := t18 _ _ e15
  replace e16 := t18 _ _ e16
  replace sv1e := t18 _ _ sv1e
  have z18 := none_of s0 hq18
  replace s0 := s0.trans t18
  have a18 : Aw (ws.take (k)) := aw.take _
  walk_at "ss"
  refine ⟨small (by simp), fun q19 hq19 => ?_⟩
  generalize hJ : upd _ q19 _ = J19
  obtain ⟨t19, e19⟩ := new_lst (L := [wd]) hJ hq19 (by rfl)
  clear hJ
  replace hw := t19 _ _ hw
  replace e1 := t19 _ _ e1
  replace e2 := t19 _ _ e2
  replace e3 := t19 _ _ e3
  replace e4 := t19 _ _ e4
  replace e5 := t19 _ _ e5
  replace e6 := t19 _ _ e6
  replace e7 := t19 _ _ e7
  replace e8 := t19 _ _ e8
  replace e9 := t19 _ _ e9
  replace e10 := t19 _ _ e10
  replace e11 := t19 _ _ e11
  replace e12 := t19 _ _ e12
  replace e13 := t19 _ _ e13
  replace e14 := t19 _ _ e14
  replace e15 := t19 _ _ e15
  replace e16 := t19 _ _ e16
  replace sv1e := t19 _ _ sv1e
  replace e18 := t19 _ _ e18
  have z19 := none_of s0 hq19
  replace s0 := s0.trans t19
  have a19 : Aw ([wd]) := awd
  walk_at "ss"
  refine ⟨_, _, _, _, rfl, rfl, hw, e19, small (by simp; omega), fun q20 hq20 => ?_⟩
  generalize hJ : upd _ q20 _ = J20
  obtain ⟨t20, e20⟩ := new_lst (L := (ws) ++ ([wd])) hJ hq20 (by exact List.map_append.symm)
  clear hJ
  replace hw := t20 _ _ hw
  replace e1 := t20 _ _ e1
  replace e2 := t20 _ _ e2
  replace e3 := t20 _ _ e3
  replace e4 := t20 _ _ e4
  replace e5 := t20 _ _ e5
  replace e6 := t20 _ _ e6
  replace e7 := t20 _ _ e7
  replace e8 := t20 _ _ e8
  replace e9 := t20 _ _ e9
  replace e10 := t20 _ _ e10
  replace e11 := t20 _ _ e11
  replace e12 := t20 _ _ e12
  replace e13 := t20 _ _ e13
  replace e14 := t20 _ _ e14
  replace e15 := t20 _ _ e15
  replace e16 := t20 _ _ e16
  replace sv1e := t20 _ _ sv1e
  replace e18 := t20 _ _ e18
  replace e19 := t20 _ _ e19
  have z20 := none_of s0 hq20
  replace s0 := s0.trans t20
  have a20 : Aw ((ws) ++ ([wd])) := aw.app a19
  walk_at "ss"
  refine ⟨small (by simp), fun q21 hq21 => ?_⟩
  generalize hJ : upd _ q21 _ = J21
  obtain ⟨t21, e21⟩ := new_lst (L := [("" : Str)]) hJ hq21 (by rfl)
  clear hJ
  replace hw := t21 _ _ hw
  replace e1 := t21 _ _ e1
  replace e2 := t21 _ _ e2
  replace e3 := t21 _ _ e3
  replace e4 := t21 _ _ e4
  replace e5 := t21 _ _ e5
  replace e6 := t21 _ _ e6
  replace e7 := t21 _ _ e7
  replace e8 := t21 _ _ e8
  replace e9 := t21 _ _ e9
  replace e10 := t21 _ _ e10
  replace e11 := t21 _ _ e11
  replace e12 := t21 _ _ e12
  replace e13 := t21 _ _ e13
  replace e14 := t21 _ _ e14
  replace e15 := t21 _ _ e15
  replace e16 := t21 _ _ e16
  replace sv1e := t21 _ _ sv1e
  replace e18 := t21 _ _ e18
  replace e19 := t21 _ _ e19
  replace e20 := t21 _ _ e20
  have z21 := none_of s0 hq21
  replace s0 := s0.trans t21
  have a21 : Aw ([("" : Str)]) := .one (by decide +kernel)
  walk_at "ss"
  refine ⟨_, _, _, _, rfl, rfl, e21, hw, small (by simp; omega), fun q22 hq22 => ?_⟩
  generalize hJ : upd _ q22 _ = J22
  obtain ⟨t22, e22⟩ := new_lst (L := ([("" : Str)]) ++ (ws)) hJ hq22 (by exact List.map_append.symm)
  clear hJ
  replace hw := t22 _ _ hw
  replace e1 := t22 _ _ e1
  replace e2 := t22 _ _ e2
  replace e3 := t22 _ _ e3
  replace e4 := t22 _ _ e4
  replace e5 := t22 _ _ e5
  replace e6 := t22 _ _ e6
  replace e7 := t22 _ _ e7
  replace e8 := t22 _ _ e8
  replace e9 := t22 _ _ e9
  replace e10 := t22 _ _ e10
  replace e11 := t22 _ _ e11
  replace e12 := t22 _ _ e12
  replace e13 := t22 _ _ e13
  replace e14 := t22 _ _ e14
  replace e15 := t22 _ _ e15
  replace e16 := t22 _ _ e16
  replace sv1e := t22 _ _ sv1e
  replace e18 := t22 _ _ e18
  replace e19 := t22 _ _ e19
  replace e20 := t22 _ _ e20
  replace e21 := t22 _ _ e21
  have z22 := none_of s0 hq22
  replace s0 := s0.trans t22
  have a22 : Aw (([("" : Str)]) ++ (ws)) := a21.app aw
  walk_at "ss"
  refine ⟨small (by simp), fun q23 hq23 => ?_⟩
  generalize hJ : upd _ q23 _ = J23
  obtain ⟨t23, e23⟩ := new_lst (L := [("" : Str)]) hJ hq23 (by rfl)
  clear hJ
  replace hw := t23 _ _ hw
  replace e1 := t23 _ _ e1
  replace e2 := t23 _ _ e2
  replace e3 := t23 _ _ e3
  replace e4 := t23 _ _ e4
  replace e5 := t23 _ _ e5
  replace e6 := t23 _ _ e6
  replace e7 := t23 _ _ e7
  replace e8 := t23 _ _ e8
  replace e9 := t23 _ _ e9
  replace e10 := t23 _ _ e10
  replace e11 := t23 _ _ e11
  replace e12 := t23 _ _ e12
  replace e13 := t23 _ _ e13
  replace e14 := t23 _ _ e14
  replace e15 := t23 _ _ e15
  replace e16 := t23 _ _ e16
  replace sv1e := t23 _ _ sv1e
  replace e18 := t23 _ _ e18
  replace e19 := t23 _ _ e19
  replace e20 := t23 _ _ e20
  replace e21 := t23 _ _ e21
  replace e22 := t23 _ _ e22
  have z23 := none_of s0 hq23
  replace s0 := s0.trans t23
  have a23 : Aw ([("" : Str)]) := .one (by decide +kernel)
  walk_at "ss"
  refine ⟨_, _, _, _, rfl, rfl, hw, e23, small (by simp; omega), fun q24 hq24 => ?_⟩
  generalize hJ : upd _ q24 _ = J24
  obtain ⟨t24, e24⟩ := new_lst (L := (ws) ++ ([("" : Str)])) hJ hq24 (by exact List.map_append.symm)
  clear hJ
  replace hw := t24 _ _ hw
  replace e1 := t24 _ _ e1
  replace e2 := t24 _ _ e2
  replace e3 := t24 _ _ e3
  replace e4 := t24 _ _ e4
  replace e5 := t24 _ _ e5
  replace e6 := t24 _ _ e6
  replace e7 := t24 _ _ e7
  replace e8 := t24 _ _ e8
  replace e9 := t24 _ _ e9
  replace e10 := t24 _ _ e10
  replace e11 := t24 _ _ e11
  replace e12 := t24 _ _ e12
  replace e13 := t24 _ _ e13
  replace e14 := t24 _ _ e14
  replace e15 := t24 _ _ e15
  replace e16 := t24 _ _ e16
  replace sv1e := t24 _ _ sv1e
  replace e18 := t24 _ _ e18
  replace e19 := t24 _ _ e19
  replace e20 := t24 _ _ e20
  replace e21 := t24 _ _ e21
  replace e22 := t24 _ _ e22
  replace e23 := t24 _ _ e23
  have z24 := none_of s0 hq24
  replace s0 := s0.trans t24
  have a24 : Aw ((ws) ++ ([("" : Str)])) := aw.app a23
  walk_at "ss"
  refine ⟨_, _, _, _, rfl, rfl, hw, hw, small (by simp; omega), fun q25 hq25 => ?_⟩
  generalize hJ : upd _ q25 _ = J25
  obtain ⟨t25, e25⟩ := new_lst (L := (ws) ++ (ws)) hJ hq25 (by exact List.map_append.symm)
  clear hJ
  replace hw := t25 _ _ hw
  replace e1 := t25 _ _ e1
  replace e2 := t25 _ _ e2
  replace e3 := t25 _ _ e3
  replace e4 := t25 _ _ e4
  replace e5 := t25 _ _ e5
  replace e6 := t25 _ _ e6
  replace e7 := t25 _ _ e7
  replace e8 := t25 _ _ e8
  replace e9 := t25 _ _ e9
  replace e10 := t25 _ _ e10
  replace e11 := t25 _ _ e11
  replace e12 := t25 _ _ e12
  replace e13 := t25 _ _ e13
  replace e14 := t25 _ _ e14
  replace e15 := t25 _ _ e15
  replace e16 := t25 _ _ e16
  replace sv1e := t25 _ _ sv1e
  replace e18 := t25 _ _ e18
  replace e19 := t25 _ _ e19
  replace e20 := t25 _ _ e20
  replace e21 := t25 _ _ e21
  replace e22 := t25 _ _ e22
  replace e23 := t25 _ _ e23
  replace e24 := t25 _ _ e24
  have z25 := none_of s0 hq25
  replace s0 := s0.trans t25
  have a25 : Aw ((ws) ++ (ws)) := aw.app aw
  walk_at "ss"
  refine ⟨small (by simp), fun q26 hq26 => ?_⟩
  generalize hJ : upd _ q26 _ = J26
  obtain ⟨t26, e26⟩ := new_lst (L := [("no" : Str)]) hJ hq26 (by rfl)
  clear hJ
  replace hw := t26 _ _ hw
  replace e1 := t26 _ _ e1
  replace e2 := t26 _ _ e2
  replace e3 := t26 _ _ e3
  replace e4 := t26 _ _ e4
  replace e5 := t26 _ _ e5
  replace e6 := t26 _ _ e6
  replace e7 := t26 _ _ e7
  replace e8 := t26 _ _ e8
  replace e9 := t26 _ _ e9
  replace e10 := t26 _ _ e10
  replace e11 := t26 _ _ e11
  replace e12 := t26 _ _ e12
  replace e13 := t26 _ _ e13
  replace e14 := t26 _ _ e14
  replace e15 := t26 _ _ e15
  replace e16 := t26 _ _ e16
  replace sv1e := t26 _ _ sv1e
  replace e18 := t26 _ _ e18
  replace e19 := t26 _ _ e19
  replace e20 := t26 _ _ e20
  replace e21 := t26 _ _ e21
  replace e22 := t26 _ _ e22
  replace e23 := t26 _ _ e23
  replace e24 := t26 _ _ e24
  replace e25 := t26 _ _ e25
  have z26 := none_of s0 hq26
  replace s0 := s0.trans t26
  have a26 : Aw ([("no" : Str)]) := .one (by decide +kernel)
  walk_at "ss"
  refine ⟨_, _, _, _, rfl, rfl, e26, hw, small (by simp; omega), fun q27 hq27 => ?_⟩
  generalize hJ : upd _ q27 _ = J27
  obtain ⟨t27, e27⟩ := new_lst (L := ([("no" : Str)]) ++ (ws)) hJ hq27 (by exact List.map_append.symm)
  clear hJ
  replace hw := t27 _ _ hw
  replace e1 := t27 _ _ e1
  replace e2 := t27 _ _ e2
  replace e3 := t27 _ _ e3
  replace e4 := t27 _ _ e4
  replace e5 := t27 _ _ e5
  replace e6 := t27 _ _ e6
  replace e7 := t27 _ _ e7
  replace e8 := t27 _ _ e8
  replace e9 := t27 _ _ e9
  replace e10 := t27 _ _ e10
  replace e11 := t27 _ _ e11
  replace e12 := t27 _ _ e12
  replace e13 := t27 _ _ e13
  replace e14 := t27 _ _ e14
  replace e15 := t27 _ _ e15
  replace e16 := t27 _ _ e16
  replace sv1e := t27 _ _ sv1e
  replace e18 := t27 _ _ e18
  replace e19 := t27 _ _ e19
  replace e20 := t27 _ _ e20
  replace e21 := t27 _ _ e21
  replace e22 := t27 _ _ e22
  replace e23 := t27 _ _ e23
  replace e24 := t27 _ _ e24
  replace e25 := t27 _ _ e25
  replace e26 := t27 _ _ e26
  have z27 := none_of s0 hq27
  replace s0 := s0.trans t27
  have a27 : Aw (([("no" : Str)]) ++ (ws)) := a26.app aw
  walk_at "ss"
  refine ⟨small (by simp), fun q28 hq28 => ?_⟩
  generalize hJ : upd _ q28 _ = J28
  obtain ⟨t28, e28⟩ := new_lst (L := [("both" : Str)]) hJ hq28 (by rfl)
  clear hJ
  replace hw := t28 _ _ hw
  replace e1 := t28 _ _ e1
  replace e2 := t28 _ _ e2
  replace e3 := t28 _ _ e3
  replace e4 := t28 _ _ e4
  replace e5 := t28 _ _ e5
  replace e6 := t28 _ _ e6
  replace e7 := t28 _ _ e7
  replace e8 := t28 _ _ e8
  replace e9 := t28 _ _ e9
  replace e10 := t28 _ _ e10
  replace e11 := t28 _ _ e11
  replace e12 := t28 _ _ e12
  replace e13 := t28 _ _ e13
  replace e14 := t28 _ _ e14
  replace e15 := t28 _ _ e15
  replace e16 := t28 _ _ e16
  replace sv1e := t28 _ _ sv1e
  replace e18 := t28 _ _ e18
  replace e19 := t28 _ _ e19
  replace e20 := t28 _ _ e20
  replace e21 := t28 _ _ e21
  replace e22 := t28 _ _ e22
  replace e23 := t28 _ _ e23
  replace e24 := t28 _ _ e24
  replace e25 := t28 _ _ e25
  replace e26 := t28 _ _ e26
  replace e27 := t28 _ _ e27
  have z28 := none_of s0 hq28
  replace s0 := s0.trans t28
  have a28 : Aw ([("both" : Str)]) := .one (by decide +kernel)
  walk_at "ss"
  refine ⟨_, _, _, _, rfl, rfl, e28, hw, small (by simp; omega), fun q29 hq29 => ?_⟩
  generalize hJ : upd _ q29 _ = J29
  obtain ⟨t29, e29⟩ := new_lst (L := ([("both" : Str)]) ++ (ws)) hJ hq29 (by exact List.map_append.symm)
  clear hJ
  replace hw := t29 _ _ hw
  replace e1 := t29 _ _ e1
  replace e2 := t29 _ _ e2
  replace e3 := t29 _ _ e3
  replace e4 := t29 _ _ e4
  replace e5 := t29 _ _ e5
  replace e6 := t29 _ _ e6
  replace e7 := t29 _ _ e7
  replace e8 := t29 _ _ e8
  replace e9 := t29 _ _ e9
  replace e10 := t29 _ _ e10
  replace e11 := t29 _ _ e11
  replace e12 := t29 _ _ e12
  replace e13 := t29 _ _ e13
  replace e14 := t29 _ _ e14
  replace e15 := t29 _ _ e15
  replace e16 := t29 _ _ e16
  replace sv1e := t29 _ _ sv1e
  replace e18 := t29 _ _ e18
  replace e19 := t29 _ _ e19
  replace e20 := t29 _ _ e20
  replace e21 := t29 _ _ e21
  replace e22 := t29 _ _ e22
  replace e23 := t29 _ _ e23
  replace e24 := t29 _ _ e24
  replace e25 := t29 _ _ e25
  replace e26 := t29 _ _ e26
  replace e27 := t29 _ _ e27
  replace e28 := t29 _ _ e28
  have z29 := none_of s0 hq29
  replace s0 := s0.trans t29
  have a29 : Aw (([("both" : Str)]) ++ (ws)) := a28.app aw
  walk_at "ss"
  refine ⟨_, _, rfl, SqL.of hw, fun q30 hq30 => ?_⟩
  generalize hJ : upd _ q30 _ = J30
  obtain ⟨t30, e30⟩ := new_lst (L := ws.reverse) hJ hq30 (by rw [List.map_reverse])
  clear hJ
  replace hw := t30 _ _ hw
  replace e1 := t30 _ _ e1
  replace e2 := t30 _ _ e2
  replace e3 := t30 _ _ e3
  replace e4 := t30 _ _ e4
  replace e5 := t30 _ _ e5
  replace e6 := t30 _ _ e6
  replace e7 := t30 _ _ e7
  replace e8 := t30 _ _ e8
  replace e9 := t30 _ _ e9
  replace e10 := t30 _ _ e10
  replace e11 := t30 _ _ e11
  replace e12 := t30 _ _ e12
  replace e13 := t30 _ _ e13
  replace e14 := t30 _ _ e14
  replace e15 := t30 _ _ e15
  replace e16 := t30 _ _ e16
  replace sv1e := t30 _ _ sv1e
  replace e18 := t30 _ _ e18
  replace e19 := t30 _ _ e19
  replace e20 := t30 _ _ e20
  replace e21 := t30 _ _ e21
  replace e22 := t30 _ _ e22
  replace e23 := t30 _ _ e23
  replace e24 := t30 _ _ e24
  replace e25 := t30 _ _ e25
  replace e26 := t30 _ _ e26
  replace e27 := t30 _ _ e27
  replace e28 := t30 _ _ e28
  replace e29 := t30 _ _ e29
  have z30 := none_of s0 hq30
  replace s0 := s0.trans t30
  have a30 : Aw (ws.reverse) := aw.rev
  walk_at "ss"
  refine ⟨small (by simp), fun sv2 hq31 => ?_⟩
  generalize hJ : upd _ sv2 _ = J31
  obtain ⟨t31, sv2e⟩ := new_any hJ hq31
  clear hJ
  replace hw := t31 _ _ hw
  replace e1 := t31 _ _ e1
  replace e2 := t31 _ _ e2
  replace e3 := t31 _ _ e3
  replace e4 := t31 _ _ e4
  replace e5 := t31 _ _ e5
  replace e6 := t31 _ _ e6
  replace e7 := t31 _ _ e7
  replace e8 := t31 _ _ e8
  replace e9 := t31 _ _ e9
  replace e10 := t31 _ _ e10
  replace e11 := t31 _ _ e11
  replace e12 := t31 _ _ e12
  replace e13 := t31 _ _ e13
  replace e14 := t31 _ _ e14
  replace e15 := t31 _ _ e15
  replace e16 := t31 _ _ e16
  replace sv1e := t31 _ _ sv1e
  replace e18 := t31 _ _ e18
  replace e19 := t31 _ _ e19
  replace e20 := t31 _ _ e20
  replace e21 := t31 _ _ e21
  replace e22 := t31 _ _ e22
  replace e23 := t31 _ _ e23
  replace e24 := t31 _ _ e24
  replace e25 := t31 _ _ e25
  replace e26 := t31 _ _ e26
  replace e27 := t31 _ _ e27
  replace e28 := t31 _ _ e28
  replace e29 := t31 _ _ e29
  replace e30 := t31 _ _ e30
  replace s0 := s0.trans t31
  walk_at "ss"
  refine ⟨_, _, _, _, rfl, rfl, sv1e, sv2e, small (by simp), fun sv hq32 => ?_⟩
  generalize hJ : upd _ sv _ = J32
  obtain ⟨t32, sve⟩ := new_any hJ hq32
  clear hJ
  replace hw := t32 _ _ hw
  replace e1 := t32 _ _ e1
  replace e2 := t32 _ _ e2
  replace e3 := t32 _ _ e3
  replace e4 := t32 _ _ e4
  replace e5 := t32 _ _ e5
  replace e6 := t32 _ _ e6
  replace e7 := t32 _ _ e7
  replace e8 := t32 _ _ e8
  replace e9 := t32 _ _ e9
  replace e10 := t32 _ _ e10
  replace e11 := t32 _ _ e11
  replace e12 := t32 _ _ e12
  replace e13 := t32 _ _ e13
  replace e14 := t32 _ _ e14
  replace e15 := t32 _ _ e15
  replace e16 := t32 _ _ e16
  replace sv1e := t32 _ _ sv1e
  replace e18 := t32 _ _ e18
  replace e19 := t32 _ _ e19
  replace e20 := t32 _ _ e20
  replace e21 := t32 _ _ e21
  replace e22 := t32 _ _ e22
  replace e23 := t32 _ _ e23
  replace e24 := t32 _ _ e24
  replace e25 := t32 _ _ e25
  replace e26 := t32 _ _ e26
  replace e27 := t32 _ _ e27
  replace e28 := t32 _ _ e28
  replace e29 := t32 _ _ e29
  replace e30 := t32 _ _ e30
  replace sv2e := t32 _ _ sv2e
  have zsv := none_of s0 hq32
  replace s0 := s0.trans t32
  walk_at "ss"
  have S4 := S3.same s0
  refine ⟨st, g, c, sv, _, _, rfl, S4, by omega, ⟨sve, fs_new S3 zsv⟩, by simp, by simp, fun H5 j y hy x5 S5 => ?_⟩
  obtain ⟨q, bs, rfl, eq, lq, aq, nq⟩ : ∃ q bs, y = .ref q ∧ J32 q = some (.lst (bs.map .str)) ∧ bs.length ≤ 2 * n + 2 ∧ Aw bs ∧ ¬ Fs st g q := by
    have hm := List.mem_of_getElem? hy
    simp only [List.cons_append, List.nil_append, List.mem_cons, List.not_mem_nil, or_false] at hm
    rcases hm with rfl | rfl | rfl | rfl | rfl | rfl | rfl | rfl | rfl | rfl | rfl | rfl
    · exact ⟨_, _, rfl, e5, by simp; omega, a5, fs_new S3 z5⟩
    · exact ⟨_, _, rfl, e10, by simp; omega, a10, fs_new S3 z10⟩
    · exact ⟨_, _, rfl, e13, by simp; omega, a13, fs_new S3 z13⟩
    · exact ⟨_, _, rfl, e16, by simp; omega, a16, fs_new S3 z16⟩
    · exact ⟨_, _, rfl, e18, by simp; omega, a18, fs_new S3 z18⟩
    · exact ⟨_, _, rfl, e20, by simp; omega, a20, fs_new S3 z20⟩
    · exact ⟨_, _, rfl, e22, by simp; omega, a22, fs_new S3 z22⟩
    · exact ⟨_, _, rfl, e24, by simp; omega, a24, fs_new S3 z24⟩
    · exact ⟨_, _, rfl, e25, by simp; omega, a25, fs_new S3 z25⟩
    · exact ⟨_, _, rfl, e27, by simp; omega, a27, fs_new S3 z27⟩
    · exact ⟨_, _, rfl, e29, by simp; omega, a29, fs_new S3 z29⟩
    · exact ⟨_, _, rfl, e30, by simp; omega, a30, fs_new S3 z30⟩
  have eq5 := x5.keep _ _ eq nq (fun _ z => by cases z)
  have x15 := (x13.trans (.same s0)).trans x5
  refine ⟨_, .inl ⟨_, SqL.of eq5, rfl⟩, ?_⟩
  cases bs with
  | nil =>
    walk_at "ss"
    refine ⟨small (by simp), fun p6 hp6 => ?_⟩
    generalize hJ : upd _ p6 _ = H6
    obtain ⟨s6, e6⟩ := new_lst (L := [("" : Str)]) hJ hp6 (by rfl)
    exact h _ _ [("" : Str)] (x15.trans (.same s6)) (S5.same s6) ⟨e6, fs_new S5 hp6⟩ ⟨by simp, by simp, Aw.one (by decide +kernel)⟩
  | cons b0 bs =>
    walk_at "ss"
    exact h _ _ _ x15 S5 ⟨eq5, nq⟩ ⟨lq, by simp, aq⟩

end
end K14
/-! L10: the law -/
namespace K14
open PySem PySem.Spec PyProof.Rows L2 LamX Cov
/-- one step of a reading -/
local macro_rules | `(tactic| walk_at "s") => `(tactic| first | refine ⟨_, rfl, ?_⟩ | refine ⟨_, _, rfl, rfl, ?_⟩ | refine ⟨rfl, ?_⟩ | refine ⟨⟨_, rfl⟩, ?_⟩)
local macro_rules | `(tactic| walk_at "ss") => `(tactic| repeat walk_at "s")
section
variable {P : Program} {w : World} {K : PySem.W.Frag} {mg : Str → Option Value} {base : Heap} {T : List (Addr × Str)}
theorem sclaw : FnScope ["script", "state", "turn", "places", "deep", "said", "words", "lap", "bent", "caught", "wrong"] ["script"] (defScope slaw) := ⟨rfl, rfl, rfl, by decide +kernel, rfl, by decide +kernel, by decide +kernel⟩
abbrev tLam2 (CT CP : Addr) (i : Nat) : XK → TE := fun E => tCallS (spRS CT CP) (WE fun cls d _ H => E cls d H) (tCons (tVar i) (tCons (tC .non) tNil))
abbrev tLam3 (CT CP : Addr) (i : Nat) : XK → TE := fun E => tCallS (spRS CT CP) (WE fun cls d _ H => E cls d H) (tCons (tC (.int 2)) (tCons (tVar i) tNil))
theorem ok_mono {P : Nat} : ∀ (s : Sn) (d e : Nat), d ≤ e → s.ok P d → s.ok P e := by
  intro s
  induction s with
  | is p a =>
    intro d e h k
    cases d with
    | zero => exact k.elim
    | succ d =>
      obtain ⟨e, rfl⟩ : ∃ e', e = e' + 1 := ⟨e - 1, by omega⟩
      exact k
  | no s ih =>
    intro d e h k
    cases d with
    | zero => exact k.elim
    | succ d =>
      obtain ⟨e, rfl⟩ : ∃ e', e = e' + 1 := ⟨e - 1, by omega⟩
      exact ih d e (by omega) k
  | both s t i1 i2 =>
    intro d e h k
    cases d with
    | zero => exact k.elim
    | succ d =>
      obtain ⟨e, rfl⟩ : ∃ e', e = e' + 1 := ⟨e - 1, by omega⟩
      exact ⟨i1 d e (by omega) k.1, i2 d e (by omega) k.2⟩
  | either s t i1 i2 =>
    intro d e h k
    cases d with
    | zero => exact k.elim
    | succ d =>
      obtain ⟨e, rfl⟩ : ∃ e', e = e' + 1 := ⟨e - 1, by omega⟩
      exact ⟨i1 d e (by omega) k.1, i2 d e (by omega) k.2⟩
theorem nd_self (a : V) : (!decide (a = a)) = false := by simp
theorem tn {D : Ends} {σ : L2.St} {H : Hp} (h : D.nx σ H) : tNext D σ H := h
theorem read_2 : readAll 2 [Str.ofString "is", Str.ofString "0"] = .error 2 := by kernel_rfl
theorem wl_no7 {ws : List Str} (h : Wl 600 ws) : Wl 700 (List.replicate 7 wNo ++ ws) := by
  obtain ⟨h1, h2, h3⟩ := h
  refine ⟨by simp; omega, by simp, fun x hx => ?_⟩
  rcases List.mem_append.mp hx with hx | hx
  · obtain ⟨_, rfl⟩ := List.mem_replicate.mp hx
    decide +kernel
  · exact h3 x hx
theorem gn {i : Nat} {v : V} {σ : L2.St} {H : Hp} {Q : L2.St → Hp → Prop} (h : Q (σ.set i (some v)) H) : gName i v σ H Q := h
/-- two keywords, the parameters' order turned -/
def kwV (vs zs : List V) : List V := match vs with
  | [] => zs.reverse
  | _ :: _ => []
def kwU (us ws : List Value) : List Value := match us with
  | [] => ws.reverse
  | _ :: _ => []
def spLaw (K : PySem.W.Frag) (T : List (Addr × Str)) : Sp := fun vs H Q _ => ∃ (sc : Addr) (ns : List Int), vs = [.ref sc] ∧ SqL K H sc (ns.map .int) ∧ ns.length ≤ 100000 ∧ Tabs T H ∧ ∀ H', Q (.bl true) H'
theorem ok_law {f c Pt CT CE CP f_law_caught f_law_begun f_law_draw f_law_said f_law_deep f_law_words f_law_read f_law_read_right f_law_bent fsentence_text fread_sentence : Addr} {fd fd1 fd2 fd3 fd4 fd5 fd6 fd7 fd8 fd9 fd10 fd11 : FuncData}
    {g1 g2 : List Value → List Value → List Value} (F : FunC K "law" slaw f fd c) (Z : Zs mg) (XF : ExF K mg CT CE CP)
    (F_law_caught : FnP K "_law_caught" s_law_caught f_law_caught fd1) (M_law_caught : Dat K mg "_law_caught" f_law_caught fd1 ["work"])
    (TBlaw : TabB base mg c Pt) (hmTlaw : (Pt, Str.ofString "law.<locals>.<lambda>") ∈ T) (huTlaw : ∀ p ∈ T, p.1 = Pt → p.2 = Str.ofString "law.<locals>.<lambda>")
    (G_law_begun : FnOk P w K mg base (L2.CX P w) 1 f_law_begun fd2 ["script"] (spBe (K := K))) (M_law_begun : Dat K mg "_law_begun" f_law_begun fd2 ["script"])
    (G_law_draw : FnOk P w K mg base (L2.CX P w) 2 f_law_draw fd3 ["state", "size"] (spDr T)) (M_law_draw : Dat K mg "_law_draw" f_law_draw fd3 ["state", "size"])
    (G_law_said : FnOk P w K mg base (L2.CX P w) 11 f_law_said fd4 ["state", "places", "deep"] (spSa T 8)) (M_law_said : Dat K mg "_law_said" f_law_said fd4 ["state", "places", "deep"])
    (G_law_deep : FnOk P w K mg base (L2.CX P w) 12 f_law_deep fd5 ["state", "places", "deep"] (spDe T 9)) (M_law_deep : Dat K mg "_law_deep" f_law_deep fd5 ["state", "places", "deep"])
    (G_law_words : FnOk P w K mg base (L2.CX P w) 12 f_law_words fd6 ["said"] (spLW 9)) (M_law_words : Dat K mg "_law_words" f_law_words fd6 ["said"])
    (G_law_read : FnOk P w K mg base (L2.CX P w) 11 f_law_read fd7 ["words", "places"] spLR) (M_law_read : Dat K mg "_law_read" f_law_read fd7 ["words", "places"])
    (G_law_read_right : FnOk P w K mg base (L2.CX P w) 17 f_law_read_right fd8 ["words", "places"] (spRR T)) (M_law_read_right : Dat K mg "_law_read_right" f_law_read_right fd8 ["words", "places"])
    (G_law_bent : FnOk P w K mg base (L2.CX P w) 4 f_law_bent fd9 ["state", "words"] (spBn T)) (M_law_bent : Dat K mg "_law_bent" f_law_bent fd9 ["state", "words"])
    (Gsentence_text : FnOk P w K mg base (L2.CX P w) 13 fsentence_text fd10 ["places", "sentence"] spST) (Msentence_text : Dat K mg "sentence_text" fsentence_text fd10 ["places", "sentence"]) (KBsentence_text : KBinds K fd10 ["places", "sentence"] ["sentence", "places"] g1 kwV)
    (Gread_sentence : FnOk P w K mg base (L2.CX P w) 14 fread_sentence fd11 ["places", "text"] (spRS CT CP)) (Mread_sentence : Dat K mg "read_sentence" fread_sentence fd11 ["places", "text"]) (KBread_sentence : KBinds K fd11 ["places", "text"] ["text", "places"] g2 kwV) :
    FnOk P w K mg base (L2.CX P w) 19 f fd ["script"] (spLaw K T) := by
  refine F.ok sclaw (fun vs H Q E h => ?_) (fun A outer s H vs Q E hr h => ?_)
  · obtain ⟨_, _, rfl, _⟩ := h
    rfl
  obtain ⟨sc, ns, rfl, hsc, hns, hT, h⟩ := h
  have g_CE := XF.gE
  have g_BadText := XF.gT
  have g_BadPlaces := XF.gP
  refine ⟨_, (pss_cons (ps_set (i := 1) sclaw.nd rfl (Or.inl rfl) (pe_fn G_law_begun M_law_begun (hr.mono (by omega)) (pa_cons (pv 0) pa_nil)))
    (pss_cons (ps_for (passes_of rfl) rfl (pi_range1 (by rfl) Z.range_ (pa_cons (pe_op op_add pe_int (pe_callB (call_min2 rfl) (by rfl) Z.min_ (by decide +kernel) (pa_cons (pe_callB call_len_seq (by rfl) Z.len_ (by decide +kernel) (pa_cons (pv 0) pa_nil)) (pa_cons pe_int pa_nil)))) pa_nil)) (pg_name (i := 2) sclaw.nd rfl (Or.inl rfl)) (pss_cons (ps_set (i := 3) sclaw.nd rfl (Or.inl rfl) (pe_op op_add pe_int (pe_fn G_law_draw M_law_draw (hr.mono (by omega)) (pa_cons (pv 1) (pa_cons pe_int pa_nil)))))
    (pss_cons (ps_set (i := 4) sclaw.nd rfl (Or.inl rfl) (pe_op op_add pe_int (pe_fn G_law_draw M_law_draw (hr.mono (by omega)) (pa_cons (pv 1) (pa_cons pe_int pa_nil)))))
    (pss_cons (ps_set (i := 5) sclaw.nd rfl (Or.inl rfl) (pe_ifExp (pt_cmpR op_eq (pe_fn G_law_draw M_law_draw (hr.mono (by omega)) (pa_cons (pv 1) (pa_cons pe_int pa_nil))) pe_int (nomark _)) (pe_fn G_law_said M_law_said (hr.mono (by omega)) (pa_cons (pv 1) (pa_cons (pv 3) (pa_cons (pv 4) pa_nil)))) (pe_fn G_law_deep M_law_deep (hr.mono (by omega)) (pa_cons (pv 1) (pa_cons (pv 3) (pa_cons (pv 4) pa_nil))))))
    (pss_cons (ps_set (i := 6) sclaw.nd rfl (Or.inl rfl) (pe_fn G_law_words M_law_words (hr.mono (by omega)) (pa_cons (pv 5) pa_nil)))
    (pss_cons (ps_if (PW.pt (pw_or (pt_cmpR op_ne (pe_fn Gsentence_text Msentence_text (hr.mono (by omega)) (pa_cons (pv 3) (pa_cons (pv 5) pa_nil))) (pe_join pe_str (pv 6)) (nomark _)) (pw_or1 (pt_cmpR op_ne (pe_fk0 (E := E0) Gsentence_text Msentence_text KBsentence_text (hr.mono (by omega)) passL (pk_cons (pv 5) (pk_cons (pv 3) pk_nil))) (pe_join pe_str (pv 6)) (nomark _))))) (pss_one (ps_ret pe_bl)) pss_nil)
    (pss_cons (ps_if (PW.pt (pw_or (pt_cmpR (op_neD hr.units) (pe_fx Gread_sentence Mread_sentence (hr.mono (by omega)) (takes_of rfl rfl rfl rfl) (pa_cons (pv 3) (pa_cons (pe_join pe_str (pv 6)) pa_nil))) (pv 5) (nomark _)) (pw_or1 (pt_cmpR (op_neD hr.units) (pe_fk0 (E := E0) Gread_sentence Mread_sentence KBread_sentence (hr.mono (by omega)) passL (pk_cons (pe_join pe_str (pv 6)) (pk_cons (pv 3) pk_nil))) (pv 5) (nomark _))))) (pss_one (ps_ret pe_bl)) pss_nil)
    (pss_cons (ps_for (passes_of rfl) rfl (pi_range1 (by rfl) Z.range_ (pa_cons pe_int pa_nil)) (pg_name (i := 7) sclaw.nd rfl (Or.inl rfl)) (pss_cons (ps_set (i := 8) sclaw.nd rfl (Or.inl rfl) (pe_fn G_law_bent M_law_bent (hr.mono (by omega)) (pa_cons (pv 1) (pa_cons (pv 6) pa_nil))))
    (pss_one (ps_if (PW.pt (pw_or (pt_not (pt_val (pe_fn G_law_read_right M_law_read_right (hr.mono (by omega)) (pa_cons (pv 8) (pa_cons (pv 3) pa_nil))))) (pw_or (pt_not (pt_val (pe_fn G_law_read_right M_law_read_right (hr.mono (by omega)) (pa_cons (pe_fn G_law_bent M_law_bent (hr.mono (by omega)) (pa_cons (pv 1) (pa_cons (pv 8) pa_nil))) (pa_cons (pv 3) pa_nil))))) (pw_or1 (pt_not (pt_val (pe_fn G_law_read_right M_law_read_right (hr.mono (by omega)) (pa_cons (pv 8) (pa_cons (pe_op op_add pe_int (pe_fn G_law_draw M_law_draw (hr.mono (by omega)) (pa_cons (pv 1) (pa_cons pe_int pa_nil)))) pa_nil))))))))) (pss_one (ps_ret pe_bl)) pss_nil))))
    (pss_one (ps_if (PW.pt (pw_or (pt_not (pt_val (pe_fn G_law_read_right M_law_read_right (hr.mono (by omega)) (pa_cons (pe_fn G_law_words M_law_words (hr.mono (by omega)) (pa_cons (pe_fn G_law_deep M_law_deep (hr.mono (by omega)) (pa_cons (pv 1) (pa_cons (pv 3) (pa_cons pe_int pa_nil)))) pa_nil)) (pa_cons (pv 3) pa_nil))))) (pw_or1 (pt_not (pt_val (pe_fn G_law_read_right M_law_read_right (hr.mono (by omega)) (pa_cons (pe_op op_cat (pe_op op_rep (pe_lst (pa_cons pe_str pa_nil)) pe_int) (pv 6)) (pa_cons (pv 3) pa_nil)))))))) (pss_one (ps_ret pe_bl)) pss_nil))))))))))
    (pss_cons (ps_for (passes_of rfl) rfl (pi_list (pe_lst (pa_cons pe_int (pa_cons pe_int (pa_cons pe_non (pa_cons pe_bl pa_nil)))))) (pg_name (i := 10) sclaw.nd rfl (Or.inr rfl)) (pss_one (ps_if (pt_not (pt_val (pe_callB call_isV (by rfl) Z.isinstance_ (by decide +kernel) (pa_cons (pe_caught (k := 14) (t := tLam2 CT CP 10) F_law_caught M_law_caught g_CE TBlaw rfl hmTlaw huTlaw (hr.mono (by omega)) (lamS_by (sc := defScope slaw) (by decide +kernel)) (fun A outer s H E f c2 hr => by exact (pe_fx Gread_sentence Mread_sentence (hr.mono (by omega)) (takes_of rfl rfl rfl rfl) (pa_cons (pv 10) (pa_cons pe_non pa_nil))))) (pa_cons (pe_globR g_BadPlaces) pa_nil))))) (pss_one (ps_ret pe_bl)) pss_nil)))
    (pss_cons (ps_for (passes_of rfl) rfl (pi_list (pe_lst (pa_cons pe_non (pa_cons pe_int (pa_cons (pe_lst (pa_cons pe_str pa_nil)) (pa_cons (pe_tup (pa_cons pe_str pa_nil)) pa_nil)))))) (pg_name (i := 10) sclaw.nd rfl (Or.inr rfl)) (pss_cons (ps_set (i := 9) sclaw.nd rfl (Or.inl rfl) (pe_caught (k := 14) (t := tLam3 CT CP 10) F_law_caught M_law_caught g_CE TBlaw rfl hmTlaw huTlaw (hr.mono (by omega)) (lamS_by (sc := defScope slaw) (by decide +kernel)) (fun A outer s H E f c2 hr => by exact (pe_fx Gread_sentence Mread_sentence (hr.mono (by omega)) (takes_of rfl rfl rfl rfl) (pa_cons pe_int (pa_cons (pv 10) pa_nil))))))
    (pss_one (ps_if (PW.pt (pw_or (pt_not (pt_val (pe_callB call_isV (by rfl) Z.isinstance_ (by decide +kernel) (pa_cons (pv 9) (pa_cons (pe_globR g_BadText) pa_nil))))) (pw_or1 (pt_cmp (pc_notN (pe_vf (pv 9))))))) (pss_one (ps_ret pe_bl)) pss_nil))))
    (pss_one (ps_ret (pe_and (pe_cmpR op_eq (pe_fn G_law_read M_law_read (hr.mono (by omega)) (pa_cons (pe_lst (pa_cons pe_str (pa_cons pe_str pa_nil))) (pa_cons pe_int pa_nil))) pe_int (nomark _)) (pe_and (pe_fn G_law_read_right M_law_read_right (hr.mono (by omega)) (pa_cons (pe_lst (pa_cons pe_str pa_nil)) (pa_cons pe_int pa_nil))) (pe_and (pe_fn G_law_read_right M_law_read_right (hr.mono (by omega)) (pa_cons (pe_lst (pa_cons pe_str (pa_cons pe_str (pa_cons pe_str (pa_cons pe_str pa_nil))))) (pa_cons pe_int pa_nil))) (pe_one (pe_fn G_law_read_right M_law_read_right (hr.mono (by omega)) (pa_cons (pe_op op_cat (pe_op op_rep (pe_lst (pa_cons pe_str pa_nil)) pe_int) (pe_lst (pa_cons pe_str (pa_cons pe_str (pa_cons pe_str pa_nil))))) (pa_cons pe_int pa_nil))))))))))))), ?_⟩
  walk_at "ss"
  refine ⟨sc, ns, rfl, hsc, hns, fun H1 st gg cc s1 _ _ _ S1 => ?_⟩
  dsimp only
  refine gn ?_
  refine seq_by (fun σ' H' => (∃ y2 y3 y4 y5 y6 y7 y8 y9 y10, σ' = [some (.ref sc), some (.ref st), y2, y3, y4, y5, y6, y7, y8, y9, y10]) ∧ Tabs T H') (fun N hN => ?_) (fun σ' H2 hm => ?_)
  · walk_at "ss"
    refine ⟨_, _, rfl, .inl (sameL s1 hsc), ?_⟩
    walk_at "ss"
    refine ⟨_, _, rfl, ?_⟩
    walk_at "ss"
    rw [List.length_map]
    have hm1 : 0 ≤ 4 + (if (6 : Int) < ((ns.length : Nat) : Int) then 6 else ((ns.length : Nat) : Int)) ∧ 4 + (if (6 : Int) < ((ns.length : Nat) : Int) then 6 else ((ns.length : Nat) : Int)) ≤ 10 := by
      split <;> omega
    generalize 4 + (if (6 : Int) < ((ns.length : Nat) : Int) then 6 else ((ns.length : Nat) : Int)) = mm at hm1 ⊢
    obtain ⟨m, rfl⟩ : ∃ m : Nat, mm = m := ⟨mm.toNat, by omega⟩
    refine ⟨by omega, by omega, ?_⟩
    rw [Int.toNat_natCast]
    refine for_range (n := m) (fun i σ H' => (∃ y2 y3 y4 y5 y6 y7 y8 y9 y10, σ = [some (.ref sc), some (.ref st), y2, y3, y4, y5, y6, y7, y8, y9, y10]) ∧ Stt st gg cc (100000 * i) H' ∧ Tabs T H') ⟨⟨_, _, _, _, _, _, _, _, _, rfl⟩, S1, hT.ext s1⟩ (fun i σ H2 hi hv => ?_) (fun σ H' hv => hN _ _ ⟨hv.1, hv.2.2⟩)
    obtain ⟨⟨y2, y3, y4, y5, y6, y7, y8, y9, y10, rfl⟩, S2, T2⟩ := hv
    walk_at "ss"
    refine ⟨st, gg, cc, _, 6, rfl, by decide, by decide, S2, by omega, fun H3 k1 hk1 x3 S3 => ?_⟩
    walk_at "ss"
    refine ⟨st, gg, cc, _, 8, rfl, by decide, by decide, S3, by omega, fun H4 k2 hk2 x4 S4 => ?_⟩
    have T4 := x4.tabs (x3.tabs T2)
    refine ⟨_, _, rfl, rfl, ?_⟩
    dsimp only
    refine gn ?_
    refine seq_by (fun σ' H' => ∃ v s, σ' = [some (.ref sc), some (.ref st), some (.int (0 + (i : Nat))), some (.int ((1 + k1 : Nat) : Int)), some (.int ((1 + k2 : Nat) : Int)), some v, y6, y7, y8, y9, y10] ∧ Stt st gg cc (100000 * i + 70000) H' ∧ Tabs T H' ∧ RpS H' v s ∧ s.ok (1 + k1) 8) (fun N hN => ?_) (fun σ' H5 hm => ?_)
    · walk_at "ss"
      refine ⟨st, gg, cc, _, 2, rfl, by decide, by decide, S4, by omega, fun H5 k3 hk3 x5 S5 => ?_⟩
      have hpw : 4 ^ (1 + k2) ≤ 65536 := Nat.le_trans (Nat.pow_le_pow_right (by decide) (show 1 + k2 ≤ 8 by omega)) (by decide)
      walk_at "ss"
      refine ite2 (fun c1 => ?_) (fun c1 => ?_)
      · walk_at "ss"
        refine ⟨st, gg, cc, _, 1 + k1, 1 + k2, rfl, S5, by omega, by omega, by omega, by omega, by omega, fun H6 v s x6 S6 r6 o6 => ?_⟩
        exact hN _ _ ⟨v, s, rfl, S6.mono (by omega), x6.tabs (x5.tabs T4), r6, ok_mono s _ _ (by omega) o6⟩
      · walk_at "ss"
        refine ⟨st, gg, cc, _, 1 + k1, 1 + k2, rfl, S5, by omega, by omega, by omega, by omega, by omega, fun H6 v s x6 S6 r6 o6 => ?_⟩
        exact hN _ _ ⟨v, s, rfl, S6.mono (by omega), x6.tabs (x5.tabs T4), r6, ok_mono s _ _ (by omega) o6⟩
    obtain ⟨v, sn, rfl, S5, T5, r5, o5⟩ := hm
    walk_at "ss"
    refine ⟨1 + k1, 8, v, sn, rfl, r5, o5, by omega, by omega, by omega, fun H6 wl s6 hwl ew => ?_⟩
    have r6 := r5.same s6
    have S6 := S5.same s6
    have T6 := T5.ext s6
    have nwl := fs_new S5 hwl
    have hWl : Wl 600 sn.words := ⟨by have := words_len _ _ _ o5; omega, (fun z => by have := words_pos sn; rw [z] at this; cases this), wk_words (by omega) _ _ o5⟩
    walk_at "ss"
    refine ⟨1 + k1, v, sn, rfl, r6, o5, by omega, by omega, fun H7 s7 => ?_⟩
    walk_at "ss"
    refine ⟨_, _, sn.words, rfl, rfl, .inl (SqL.of (s7 _ _ ew)), join_fits hWl (by omega), ?_⟩
    walk_at "ss"
    refine if_f (nd_self _) ?_
    walk_at "ss"
    refine ⟨1 + k1, v, sn, rfl, r6.same s7, o5, by omega, by omega, fun H8 s8 => ?_⟩
    walk_at "ss"
    refine ⟨_, _, sn.words, rfl, rfl, .inl (SqL.of (s8 _ _ (s7 _ _ ew))), join_fits hWl (by omega), ?_⟩
    walk_at "ss"
    refine if_f (nd_self _) ?_
    have ew8 := s8 _ _ (s7 _ _ ew)
    have s78 := s7.trans s8
    walk_at "ss"
    refine ⟨_, _, sn.words, rfl, rfl, .inl (SqL.of ew8), join_fits hWl (by omega), ?_⟩
    walk_at "ss"
    refine .inl ⟨1 + k1, 600, sn.words, rfl, by omega, by omega, hWl, by omega, ?_⟩
    rw [readAll_words (by omega) o5]
    intro H9 v9 s9 r9
    have r89 := (r6.same s78).same s9
    walk_at "ss"
    refine ⟨_, _, r9.dp, r89.dp, data_shaped o5 (by omega), data_shaped o5 (by omega), ?_⟩
    rw [data_refl]
    walk_at "ss"
    refine ⟨_, _, sn.words, rfl, rfl, .inl (SqL.of (s9 _ _ ew8)), join_fits hWl (by omega), ?_⟩
    walk_at "ss"
    refine .inl ⟨1 + k1, 600, sn.words, rfl, by omega, by omega, hWl, by omega, ?_⟩
    rw [readAll_words (by omega) o5]
    intro H10 v10 s10 r10
    have r90 := r89.same s10
    have s610 := (s78.trans s9).trans s10
    walk_at "ss"
    refine ⟨_, _, r10.dp, r90.dp, data_shaped o5 (by omega), data_shaped o5 (by omega), ?_⟩
    rw [data_refl]
    have ew10 := s610 _ _ ew
    have S10 := S6.same s610
    have T10 := T6.ext s610
    clear r9 r89 r10 s610 s78 s10 s9 s8 s7 ew8
    -- the laps
    refine ⟨_, rfl, ?_⟩
    refine if_f rfl ?_
    refine tn ?_
    dsimp only
    refine seq_by (fun σ' H' => (∃ y2 y7 y8, σ' = [some (.ref sc), some (.ref st), y2, some (.int ((1 + k1 : Nat) : Int)), some (.int ((1 + k2 : Nat) : Int)), some v, some (.ref wl), y7, y8, y9, y10]) ∧ Stt st gg cc (100000 * i + 80000) H' ∧ Tabs T H' ∧ Li (Fs st gg) H' wl (sn.words.map .str)) (fun N hN => ?_) (fun σ' H11 hm => ?_)
    · walk_at "ss"
      refine ⟨by decide, by decide, ?_⟩
      refine for_range (n := 10) (fun j σ H' => (∃ y2 y7 y8, σ = [some (.ref sc), some (.ref st), y2, some (.int ((1 + k1 : Nat) : Int)), some (.int ((1 + k2 : Nat) : Int)), some v, some (.ref wl), y7, y8, y9, y10]) ∧ Stt st gg cc (100000 * i + 70000 + 10 * j) H' ∧ Tabs T H' ∧ Li (Fs st gg) H' wl (sn.words.map .str)) ⟨⟨_, _, _, rfl⟩, S10, T10, ew10, nwl⟩ (fun j σ H' hj hv => ?_) (fun σ H' hv => hN _ _ ⟨hv.1, hv.2.1.mono (by omega), hv.2.2⟩)
      obtain ⟨⟨y2, y7, y8, rfl⟩, Sa, Ta, la⟩ := hv
      walk_at "ss"
      refine ⟨st, gg, cc, wl, _, 600, sn.words, rfl, Sa, by omega, la, hWl, by omega, fun H1 b bs xb Sb lb wb => ?_⟩
      have Tb := xb.tabs Ta
      walk_at "ss"
      refine ⟨b, bs, 1 + k1, _, rfl, by omega, by omega, lb.1, wb, by omega, Tb, fun H2 xc => ?_⟩
      have xc2 : Ext T (Fs st gg) H1 H2 := xc.wk (fun _ z => z.elim)
      have Sc := Sb.ext xc (fun z => z) (fun z => z) (fun z => z)
      have Tc := xc.tabs Tb
      have lc := lb.ext xc2
      walk_at "ss"
      refine ⟨st, gg, cc, b, _, _, bs, rfl, Sc, by omega, lc, wb, by omega, fun H3 b3 bs3 xd Sd ld wd => ?_⟩
      have Td := xd.tabs Tc
      have le := lc.ext xd
      walk_at "ss"
      refine ⟨b3, bs3, 1 + k1, _, rfl, by omega, by omega, ld.1, wd, by omega, Td, fun H4 xe => ?_⟩
      have xe2 : Ext T (Fs st gg) H3 H4 := xe.wk (fun _ z => z.elim)
      have Se := Sd.ext xe (fun z => z) (fun z => z) (fun z => z)
      have Te := xe.tabs Td
      have lf := le.ext xe2
      walk_at "ss"
      refine ⟨st, gg, cc, _, 6, rfl, by decide, by decide, Se, by omega, fun H5 k3 hk3 xf Sf => ?_⟩
      have Tf := xf.tabs Te
      have lg := lf.ext xf
      walk_at "ss"
      refine ⟨b, bs, 1 + k3, _, rfl, by omega, by omega, lg.1, wb, by omega, Tf, fun H6 xg => ?_⟩
      have xg2 : Ext T (Fs st gg) H5 H6 := xg.wk (fun _ z => z.elim)
      walk_at "ss"
      exact ⟨⟨_, _, _, rfl⟩, (Sf.ext xg (fun z => z) (fun z => z) (fun z => z)).mono (by omega), xg.tabs Tf, ((((((la.ext xb).ext xc2).ext xd).ext xe2).ext xf).ext xg2)⟩
    · obtain ⟨⟨y2, y7, y8, rfl⟩, Sa, Ta, la⟩ := hm
      walk_at "ss"
      refine ⟨st, gg, cc, _, 1 + k1, 9, rfl, Sa, by omega, by omega, by omega, by omega, by omega, fun H1 vb sb xb Sb rb ob => ?_⟩
      have Tb := xb.tabs Ta
      walk_at "ss"
      refine ⟨1 + k1, 9, vb, sb, rfl, rb, ob, by omega, by omega, by omega, fun H2 b2 s2 hb2 e2 => ?_⟩
      have hW2 : Wl 1200 sb.words := ⟨by have := words_len _ _ _ ob; omega, (fun z => by have := words_pos sb; rw [z] at this; cases this), wk_words (by omega) _ _ ob⟩
      have Tc := Tb.ext s2
      walk_at "ss"
      refine ⟨b2, sb.words, 1 + k1, _, rfl, by omega, by omega, e2, hW2, by omega, Tc, fun H3 xd => ?_⟩
      have lw3 := ((la.ext xb).ext ((Ext.same s2).trans (xd.wk (fun _ z => z.elim)))).1
      have Sd := (Sb.same s2).ext xd (fun z => z) (fun z => z) (fun z => z)
      have Td := xd.tabs Tc
      walk_at "ss"
      refine ⟨small (by simp), fun p4 hp4 => ?_⟩
      walk_at "ss"
      refine ⟨_, _, _, rfl, rfl, upd_same, by decide, by decide, small (by decide), fun p5 hp5 => ?_⟩
      walk_at "ss"
      refine ⟨_, _, _, _, rfl, rfl, upd_same, nw hp5 (nw hp4 lw3), small (by have := hWl.1; simp; omega), fun p6 hp6 => ?_⟩
      generalize hJ : upd _ p6 _ = J6
      obtain ⟨s6, e6⟩ := new_lst (L := List.replicate 7 wNo ++ sn.words) hJ hp6 (by rfl)
      have s456 := ((same_new hp4 _).trans (same_new hp5 _)).trans s6
      walk_at "ss"
      refine ⟨p6, List.replicate 7 wNo ++ sn.words, 1 + k1, 700, rfl, by omega, by omega, e6, wl_no7 hWl, by omega, Td.ext s456, fun H7 x7 => ?_⟩
      walk_at "ss"
      exact ⟨⟨_, _, _, _, _, _, _, _, _, rfl⟩, ((Sd.same s456).ext x7 (fun z => z) (fun z => z) (fun z => z)).mono (by omega), x7.tabs (Td.ext s456)⟩
  · obtain ⟨⟨y2, y3, y4, y5, y6, y7, y8, y9, y10, rfl⟩, T2⟩ := hm
    refine seq_by (fun σ' H' => (∃ y2 y3 y4 y5 y6 y7 y8 y9 y10, σ' = [some (.ref sc), some (.ref st), y2, y3, y4, y5, y6, y7, y8, y9, y10]) ∧ Tabs T H') (fun N hN => ?_) (fun σ' H3 hm => ?_)
    · walk_at "ss"
      refine ⟨small (by simp), fun p0 hp0 => ?_⟩
      have T3 := T2.ext (same_new hp0 (.lst [.int 0, .int 7, .non, .bl true]))
      refine ⟨_, rfl, ⟨_, SqL.of upd_same⟩, ?_⟩
      refine for_list (xs := [.int 0, .int 7, .non, .bl true]) (fun i σ H' => (∃ y2 y3 y4 y5 y6 y7 y8 y9 y10, σ = [some (.ref sc), some (.ref st), y2, y3, y4, y5, y6, y7, y8, y9, y10]) ∧ Tabs T H' ∧ H' p0 = some (.lst [.int 0, .int 7, .non, .bl true])) ⟨⟨_, _, _, _, _, _, _, _, _, rfl⟩, T3, upd_same⟩ (fun i σ H' _ hv => SqL.of hv.2.2) (fun i x σ H' hx hv => ?_) (fun σ H' hv => hN _ _ ⟨hv.1, hv.2.1⟩)
      obtain ⟨⟨y2, y3, y4, y5, y6, y7, y8, y9, y10, rfl⟩, T4, e4⟩ := hv
      have hx2 : (∃ i, x = .int i ∧ ¬ (1 ≤ i ∧ i ≤ 6)) ∨ (∃ b, x = .bl b) ∨ x = .non := by
        have := List.mem_of_getElem? hx
        simp only [List.mem_cons, List.not_mem_nil, or_false] at this
        rcases this with rfl | rfl | rfl | rfl
        · exact .inl ⟨_, rfl, by decide⟩
        · exact .inl ⟨_, rfl, by decide⟩
        · exact .inr (.inr rfl)
        · exact .inr (.inl ⟨_, rfl⟩)
      walk_at "ss"
      refine ⟨T4, fun H5 x5 T5 N5 hN5 => ?_⟩
      walk_at "ss"
      refine .inr (.inl ⟨_, _, rfl, hx2, XF.mP, fun a ha => ?_⟩)
      have s6 := same_new ha (ExV a (.ref CP) none)
      walk_at "ss"
      refine ⟨a, CP, none, _, _, true, rfl, upd_same, (fun o ho => by cases ho), XF.xP, .own CP, XF.iP, ?_⟩
      walk_at "ss"
      exact ⟨⟨_, _, _, _, _, _, _, _, _, rfl⟩, T5.ext s6, s6 _ _ (x5 _ _ e4 (fun _ z => by cases z))⟩
    obtain ⟨⟨y2, y3, y4, y5, y6, y7, y8, y9, y10, rfl⟩, T3⟩ := hm
    refine seq_by (fun σ' H' => (∃ y2 y3 y4 y5 y6 y7 y8 y9 y10, σ' = [some (.ref sc), some (.ref st), y2, y3, y4, y5, y6, y7, y8, y9, y10]) ∧ Tabs T H') (fun N hN => ?_) (fun σ' H4 hm => ?_)
    · walk_at "ss"
      refine ⟨small (by simp), fun p1 hp1 => ?_⟩
      walk_at "ss"
      refine ⟨small (by simp), fun p2 hp2 => ?_⟩
      walk_at "ss"
      refine ⟨small (by simp), fun p0 hp0 => ?_⟩
      generalize hJ : upd _ p0 _ = J0
      obtain ⟨s0, e0⟩ := new_any hJ hp0
      have e1 := s0 _ _ (nw hp2 upd_same)
      have e2 := s0 _ _ upd_same
      have T5 := T3.ext (((same_new hp1 _).trans (same_new hp2 _)).trans s0)
      clear hJ s0
      refine ⟨_, rfl, ⟨_, SqL.of e0⟩, ?_⟩
      refine for_list (xs := [.non, .int 5, .ref p1, .ref p2]) (fun i σ H' => (∃ y2 y3 y4 y5 y6 y7 y8 y9 y10, σ = [some (.ref sc), some (.ref st), y2, y3, y4, y5, y6, y7, y8, y9, y10]) ∧ Tabs T H' ∧ H' p0 = some (.lst [.non, .int 5, .ref p1, .ref p2]) ∧ H' p1 = some (.lst [.str "is"]) ∧ H' p2 = some (.tup [.str "is 0 0"])) ⟨⟨_, _, _, _, _, _, _, _, _, rfl⟩, T5, e0, e1, e2⟩ (fun i σ H' _ hv => SqL.of hv.2.2.1) (fun i x σ H' hx hv => ?_) (fun σ H' hv => hN _ _ ⟨hv.1, hv.2.1⟩)
      obtain ⟨⟨y2, y3, y4, y5, y6, y7, y8, y9, y10, rfl⟩, T6, f0, f1, f2⟩ := hv
      walk_at "ss"
      refine ⟨T6, fun H7 x7 T7 N7 hN7 => ?_⟩
      have g0 := x7 _ _ f0 (fun _ z => by cases z)
      have g1 := x7 _ _ f1 (fun _ z => by cases z)
      have g2 := x7 _ _ f2 (fun _ z => by cases z)
      have hx2 : NoStr H7 x := by
        have := List.mem_of_getElem? hx
        simp only [List.mem_cons, List.not_mem_nil, or_false] at this
        rcases this with rfl | rfl | rfl | rfl
        · exact .non
        · exact .int 5
        · exact .lst g1
        · exact .tup g2
      walk_at "ss"
      refine .inr (.inr ⟨_, rfl, hx2, ?_⟩)
      intro H8 d s8 hd
      refine ⟨XF.mT, fun a ha => ?_⟩
      have s9 := s8.trans ((same_new hd (.xd [("index", .non)])).trans (same_new ha (ExV a (.ref CT) (some d))))
      have ea : upd (upd H8 d (.xd [("index", .non)])) a (ExV a (.ref CT) (some d)) a = _ := upd_same
      have ed : upd (upd H8 d (.xd [("index", .non)])) a (ExV a (.ref CT) (some d)) d = some (.xd [("index", .non)]) := nw ha upd_same
      walk_at "ss"
      refine ⟨a, CT, some d, _, _, true, rfl, ea, (fun o ho => by cases ho; exact ⟨_, ed⟩), XF.xT, .own CT, XF.iT, ?_⟩
      walk_at "ss"
      refine ⟨a, CT, d, _, _, rfl, ea, XF.fT, XF.nT, ed, rfl, ?_⟩
      walk_at "ss"
      exact ⟨⟨_, _, _, _, _, _, _, _, _, rfl⟩, T7.ext s9, s9 _ _ g0, s9 _ _ g1, s9 _ _ g2⟩
    · obtain ⟨⟨y2, y3, y4, y5, y6, y7, y8, y9, y10, rfl⟩, T4⟩ := hm
      walk_at "ss"
      refine ⟨small (by simp), fun p1 hp1 => ?_⟩
      have T5 := T4.ext (same_new hp1 (.lst [.str "is", .str "0"]))
      walk_at "ss"
      refine ⟨p1, ["is", "0"], 2, rfl, by decide, by decide, upd_same, ?_⟩
      rw [show readAll 2 ["is", "0"] = .error 2 from read_2]
      intro H6 s6
      have T6 := T5.ext s6
      walk_at "ss"
      refine ⟨small (by simp), fun p7 hp7 => ?_⟩
      have s7 := same_new hp7 (.lst [.str ""])
      walk_at "ss"
      refine ⟨p7, [("" : Str)], 2, 1, rfl, by decide, by decide, upd_same, ⟨by simp, by simp, Aw.one (by decide +kernel)⟩, by decide, T6.ext s7, fun H8 x8 => ?_⟩
      have T8 := x8.tabs (T6.ext s7)
      walk_at "ss"
      refine ⟨small (by simp), fun p9 hp9 => ?_⟩
      have s9 := same_new hp9 (.lst [.str "is", .str "0", .str "0", .str "is"])
      walk_at "ss"
      refine ⟨p9, ["is", "0", "0", "is"], 3, 4, rfl, by decide, by decide, upd_same, ⟨by simp, by simp, by decide +kernel⟩, by decide, T8.ext s9, fun H10 x10 => ?_⟩
      have T10 := x10.tabs (T8.ext s9)
      walk_at "ss"
      refine ⟨small (by simp), fun q1 hq1 => ?_⟩
      walk_at "ss"
      refine ⟨_, _, _, rfl, rfl, upd_same, by decide, by decide, small (by decide), fun q2 hq2 => ?_⟩
      walk_at "ss"
      refine ⟨small (by simp), fun q3 hq3 => ?_⟩
      refine ⟨_, _, _, _, rfl, rfl, nw hq3 upd_same, upd_same, small (by simp), fun q4 hq4 => ?_⟩
      generalize hJ : upd _ q4 _ = J6
      obtain ⟨s6, e6⟩ := new_lst (L := List.replicate 8 wNo ++ [("is" : Str), "0", "0"]) hJ hq4 (by rfl)
      have s456 := (((same_new hq1 _).trans (same_new hq2 _)).trans (same_new hq3 _)).trans s6
      walk_at "ss"
      refine ⟨q4, List.replicate 8 wNo ++ [("is" : Str), "0", "0"], 2, 11, rfl, by decide, by decide, e6, ⟨by simp, by simp, by decide +kernel⟩, by decide, T10.ext s456, fun H11 x11 => ?_⟩
      exact h _

end
end K14
/-! E1: a Hook that tells of the statics' dict too, of any Bool of K and of one more thing; a Bool for SupTxt's facts. -/
namespace He
open PySem PySem.Spec PyProof.Rows L2
def asY (g : Addr → Option Obj) (n : Nat) : List Addr := cStatics :: asD g n
structure SaysY {β : Type} (fa : List Fa) (fn : List DefD) (ts : List Tab) (tf : List Defn) (ex : PySem.W.Frag → Bool) (o2 : PySem.W.Frag → β) (v2 : β) (w : World) (h : Heap) (K : PySem.W.Frag) : Prop where
  t : SaysT fa fn ts w K
  more : ex K = true
  two : o2 K = v2
  hd : ∀ p ∈ tf, PySem.W.codeHdIn K (cT K p).1 (cT K p).2 = true
  out : ∀ p ∈ tf, K.lookup (cT K p).2 = none
  empty : ∀ p ∈ tf, h.get? (cT K p).2 = some { cls := .none, data := .fields #[] }
def obsY {β : Type} (n : Nat) (fa : List Fa) (fn : List DefD) (ts : List Tab) (tf : List Defn) (ex : PySem.W.Frag → Bool) (o2 : PySem.W.Frag → β) (g : Addr → Option Obj) : AlT × Bool × β :=
  (obsT fa fn ts (frT g (asY g n)), ex (frT g (asY g n)) && tabsB g tf (frT g (asY g n)), o2 (frT g (asY g n)))
theorem saysY_of {β : Type} {n : Nat} {fa : List Fa} {fn : List DefD} {ts : List Tab} {tf : List Defn} {ex : PySem.W.Frag → Bool} {o2 : PySem.W.Frag → β} {v2 : β} {w : World} {h : Heap} (e : obsY n fa fn ts tf ex o2 h.get? = (valT fn ts w, true, v2)) :
    SaysY fa fn ts tf ex o2 v2 w h (frT h.get? (asY h.get? n)) := by
  unfold obsY at e
  generalize frT_in (as := asY h.get? n) (h := h) = Kin at *
  have hT : ∀ {a o}, h.get? a = some o → emptyTab o = true → (frT h.get? (asY h.get? n)).lookup a = none := fun q z => frT_none q z
  generalize frT h.get? (asY h.get? n) = K at *
  simp only [Prod.mk.injEq] at e
  obtain ⟨e1, e2, e3⟩ := e
  obtain ⟨h1, h2⟩ := ba e2
  have all := List.all_eq_true.mp h2
  have one : ∀ p ∈ tf, PySem.W.codeHdIn K (cT K p).1 (cT K p).2 = true ∧ ∃ o, h.get? (cT K p).2 = some o ∧ emptyTab o = true := by
    intro p hp
    have := ba (all p hp)
    refine ⟨this.1, ?_⟩
    have q := this.2
    split at q
    · rename_i o ho
      exact ⟨o, ho, q⟩
    · cases q
  refine ⟨e1, h1, e3, fun p hp => (one p hp).1, fun p hp => ?_, fun p hp => ?_⟩
  · obtain ⟨_, o, q, z⟩ := one p hp
    exact hT q z
  · obtain ⟨_, o, q, z⟩ := one p hp
    rw [q, emptyTab_eq z]
def hookY {β : Type} (n : Nat) (fa : List Fa) (fn : List DefD) (ts : List Tab) (tf : List Defn) (ex : PySem.W.Frag → Bool) (o2 : PySem.W.Frag → β) (v2 : β) : PySem.W.Hook where
  α := AlT × Bool × β
  obs := fun s => obsY n fa fn ts tf ex o2 s.heap.get?
  val := fun w => (valT fn ts w, true, v2)
  says := fun w h => ∃ K : PySem.W.Frag, K.In h ∧ SaysY fa fn ts tf ex o2 v2 w h K
  of := fun _ _ e => ⟨_, frT_in, saysY_of e⟩
  keeps := fun _ _ _ ⟨K, hK, c⟩ k => ⟨K, PySem.W.Frag.In.keeps hK k, ⟨c.t, c.more, c.two, c.hd, c.out, fun p hp => k _ _ (c.empty p hp)⟩⟩
theorem obsY_eq {β : Type} {n : Nat} {fa : List Fa} {fn : List DefD} {ts : List Tab} {tf : List Defn} {ex : PySem.W.Frag → Bool} {o2 : PySem.W.Frag → β} {v2 : β} {g : Addr → Option Obj} {s : Shared} (h : ∀ a, g a = s.heap.get? a) : obsY n fa fn ts tf ex o2 g = (hookY n fa fn ts tf ex o2 v2).obs s := by
  have e : g = s.heap.get? := funext h
  rw [e] <;> rfl
end He
namespace PySem.SupX
open PySem PySem.W PySem.Spec PyProof.Rows
/-- the object of an own class of ValueErrors -/
def clsB (K : Frag) (C : Addr) : Bool := match K.lookup C with
  | some ⟨.type t, _, .cls cd, sl⟩ => (match cd.mro, sl.toList with
    | .ref C' :: bm, [_, _, _, _, some (.builtin n), _] => decide (t = "type") && (C' == C && (decide (n = "ValueError.__new__") && (!cd.hasDel && (cd.hasDict && PySem.HandSPX.refsVE bm))))
    | _, _ => false)
  | _ => false
theorem clsB_ok {K : Frag} {C : Addr} (h : clsB K C = true) : ∃ nm q N bs bm sn sub ab col dd k0 k1 k2 k3 k5, K.lookup C = some (excClassObj nm q C N bs bm true sn sub ab col dd k0 k1 k2 k3 k5 "ValueError.__new__") ∧ PySem.HandSPX.refsVE bm = true := by
  unfold clsB at h
  split at h
  · rename_i t dd cd sl ho
    split at h
    · rename_i C' bm k0 k1 k2 k3 n k5 hm hs
      simp only [Bool.and_eq_true, beq_iff_eq, Bool.not_eq_true', decide_eq_true_eq] at h
      obtain ⟨h1, h2, h3, h4, h5, h6⟩ := h
      obtain ⟨nm, bs, mro, ns, qn, hd, sn, sub, ab, col, del⟩ := cd
      dsimp only at hm h4 h5
      subst hm h1 h2 h3 h4 h5
      have hsl : sl = #[k0, k1, k2, k3, some (.builtin "ValueError.__new__"), k5] := by
        obtain ⟨l⟩ := sl
        simp only at hs
        rw [hs]
      subst hsl
      exact ⟨_, _, _, _, _, _, _, _, _, _, _, _, _, _, _, ho, h6⟩
    · cases h
  · cases h
end PySem.SupX
/-! E2: facts of the head for k14. -/
namespace PySem.SupX
open PySem PySem.W PySem.Spec PyProof.Rows
abbrev InitV : Type := Option (Str × Arguments × FuncBody × Scope × Addr × List Str × Value × Value × Addr)
def initO (K : Frag) (f : Addr) : InitV := match K.lookup f with
  | some ⟨_, _, .func fd, _⟩ => some (fd.name, fd.params, fd.body, fd.scope, fd.globals, fd.closure.map (·.1), fd.defaults, fd.kwdefaults, fd.builtins)
  | _ => none
/-- what else is asked of an __init__ at f of the class at D: its cell, its code object -/
def initB (file : Str) (K : Frag) (f D : Addr) : Bool := match K.lookup f with
  | some ⟨_, _, .func fd, _⟩ => codeIn K fd.code fd.qualname && ((match fd.closure with
      | [(_, cc)] => (match K.lookup cc with
        | some ⟨_, _, .cell (some (.ref D')), _⟩ => D' == D
        | _ => false)
      | _ => false) && (match fd.code with
      | .ref cda => (match K.lookup cda with
        | some ⟨_, _, .fields vs, _⟩ => (match (vs[2]? : Option Value) with
          | some (.str z _) => decide (z = file)
          | _ => false)
        | _ => false)
      | _ => false))
  | _ => false
def eqB {α : Type} [DecidableEq α] (a b : α) : Bool := decide (a = b)
def supB (K : Frag) (C D fI : Addr) (fld : Str) : Bool :=
  clsB K C && (eqB (ks_superIn K C D "__init__") (some (some (.builtin "ValueError.__init__"))) && ((clsIn K D).isSome && (eqB (findIn K (.ref C) "__setattr__") (some (some (.builtin "object.__setattr__"))) &&
  (eqB (findIn K (.ref C) "__getattribute__") (some (some (.builtin "BaseException.__getattribute__"))) && (eqB (findIn K (.ref C) "__getattr__") (some none) && (eqB (findIn K (.ref C) fld) (some none) &&
  (eqB (findIn K (.ref C) "__init__") (some (some (.ref fI))) && (eqB (typeIn K (.ref fI)) (some (.type "function")) && (keepIn K (.ref C) && (eqB (subIn K (.ref C) (.type "BaseException")) (some true) &&
  (eqB (subIn K (.ref C) (.type "ValueError")) (some true) && (eqB (mroIn K C (.ref D)) (some true) && (eqB (typeIn K (.ref C)) (some (.type "type")) && (hasDictIn K C && eqB (nsIn K cStatics "thirdparty.any") (some none)))))))))))))))
theorem sup_of {P : Program} {K : Frag} {mg : Str → Option Value} {x : Str} {C D fI : Addr} {fld msg : Str} {p1 p2 a1 a2 a3 a4 a5 a6 q1 q2 q3 q4 : Pos} (h : supB K C D fI fld = true) (hi : initB P.main.file K fI D = true)
    (ho : initO K fI = (some (("__init__" : Str), iA fld p1 p2, FuncBody.stmts (iB fld msg a1 a2 a3 a4 a5 a6 q1 q2 q3 q4), iS fld, mainGlobals, [("__class__" : Str)], Value.none, Value.none, builtinsNs) : InitV)) (hpl : Plain msg a1 a2 a3 a4 a5)
    (gC : mg x = some (.ref C)) (zs : mg "super" = none) (top : (P.main.scope.names.lookup ("super" : Str)).isSome = false) (n1 : fld ≠ "self") (n2 : fld ≠ "__class__") (n3 : fld ≠ "super") (n4 : (fld == ("__debug__" : Str)) = false)
    (bnd : ∀ (qual : Str) (body : List Stmt) (doc pm : Value) (an : Option Addr) (cdv : Value) (cc : Addr) (ct : Value) (p1 p2 : Pos) (a b : Value),
      bindArgs (fnX "__init__" qual (iA fld p1 p2) body (iS fld) [((Str.ofString "__class__"), cc)] .none .none doc pm an cdv ct) ⟨[a, b], []⟩ = pure [((Str.ofString "self"), a), (fld, b)]) : SupTxt P K mg x C D fI fld := by
  unfold supB eqB at h
  simp only [Bool.and_eq_true, decide_eq_true_eq] at h
  obtain ⟨h1, h2, h3, h4, h5, h6, h7, h8, h9, h10, h11, h12, h13, h14, h15, h16⟩ := h
  refine ⟨gC, clsB_ok h1, h2, h3, h4, h5, h6, h7, h8, h9, h10, h11, h12, h13, h14, h15, h16, zs, top, n1, n2, n3, n4, bnd, ?_⟩
  unfold initO at ho
  unfold initB at hi
  split at ho
  · rename_i oc od fd osl hk
    rw [hk] at hi
    dsimp only at hi
    simp only [Bool.and_eq_true] at hi
    obtain ⟨i1, i2, i3⟩ := hi
    obtain ⟨z1, z2, z3, z4, z5, z6, z7, z8, z9, z10, z11, z12, z13, z14, z15⟩ := fd
    simp only [Option.some.injEq, Prod.mk.injEq] at ho
    obtain ⟨e1, e2, e3, e4, e5, e6, e7, e8, e9⟩ := ho
    subst e1 e2 e3 e4 e5 e7 e8 e9
    dsimp only at i1 i2 i3
    split at i2
    · rename_i y cc
      have ey : y = "__class__" := by
        simpa using e6
      subst ey
      split at i2
      · rename_i cl cld D' csl hcc
        obtain rfl : D' = D := beq_iff_eq.mp i2
        split at i3
        · rename_i cda
          split at i3
          · rename_i ccl cdd vs ccs hcd
            split at i3
            · rename_i z tf hz
              exact ⟨_, msg, _, _, _, _, _, cda, cc, _, _, p1, p2, a1, a2, a3, a4, a5, a6, q1, q2, q3, q4, hk, i1, ⟨_, _, _, hcc⟩, ⟨_, _, _, vs, z, tf, hcd, hz, by rw [of_decide_eq_true i3]; exact beq_self_eq_true _⟩, hpl⟩
            · cases i3
          · cases i3
        · cases i3
      · cases i2
    · cases i2
  · cases ho
end PySem.SupX
/-! E3: the head's facts of k14, the promise of the law. -/
namespace K14
open PySem PySem.Spec PyProof.Rows L2 LamX Cov
/-! ### keywords -/
theorem kw_rel {vs : List V} {us : List Value} {zs : List V} {ws : List Value} (h : Vals vs us) (k : Vals zs ws) : Vals (kwV vs zs) (kwU us ws) := by
  cases h with
  | nil => exact Vals.reverse k
  | cons _ _ => exact .nil
theorem kb_of {K : PySem.W.Frag} {fd : FuncData} {p q : Str} (h : ∀ a b : Value, bindArgs fd ⟨[], [(q, a), (p, b)]⟩ = pure [(p, b), (q, a)]) : KBinds K fd [p, q] [q, p] kwU kwV := by
  refine ⟨fun s us ws _ hl => ?_, fun h k => kw_rel h k⟩
  match us, ws, hl with
  | [], [a, b], _ => exact BindsTo.of_looks fun M => PySem.W.Looks.of_pure (h a b)
  | [], [], hl => cases hl
  | [], [_], hl => cases hl
  | [], _ :: _ :: _ :: _, hl => simp [kwU] at hl
  | _ :: _, _, hl => cases hl
/-! ### a text-keyed dict holds no other key -/
theorem key_mem {Pm : Params} : ∀ {l : List DictEntry} {ks : List Str}, l.map He.keyOf = He.keysIn Pm ks → ∀ e ∈ l, ∃ x t, e.key = .str x t ∧ x ∈ ks
  | [], _, _, e, he => by cases he
  | d :: r, [], h, e, he => by cases h
  | d :: r, k :: ks, h, e, he => by
    have h1 : He.keyOf d :: r.map He.keyOf = some (k, PyData.keyHash Pm k) :: He.keysIn Pm ks := h
    injection h1 with h2 h3
    rcases List.mem_cons.mp he with rfl | he
    · unfold He.keyOf at h2
      split at h2
      · rename_i x t q
        exact ⟨x, t, q, by rw [(Prod.mk.inj (Option.some.inj h2)).1]; exact List.mem_cons_self⟩
      · cases h2
    · obtain ⟨x, t, q, hx⟩ := key_mem h3 e he
      exact ⟨x, t, q, List.mem_cons_of_mem _ hx⟩
theorem nsIn_out {K : PySem.W.Frag} {Pm : Params} {a : Addr} {ks : List Str} (h : He.dicW K a = some (He.keysIn Pm ks)) {x : Str} (hx : x ∉ ks) : PySem.W.nsIn K a x = some none := by
  unfold He.dicW at h
  unfold PySem.W.nsIn
  cases q : K.lookup a with
  | none => rw [q] at h; cases h
  | some o =>
    obtain ⟨oc, od, dt, osl⟩ := o
    rw [q] at h
    cases oc with
    | type c =>
      cases od with
      | none =>
        cases dt with
        | dict es n =>
          dsimp only at h ⊢
          split at h
          · have km := key_mem (Option.some.inj h)
            have f : es.toList.find? (·.key.isStr x) = none := by
              rw [List.find?_eq_none]
              intro e he
              obtain ⟨y, t, ek, hy⟩ := km e he
              rw [ek]
              intro z
              have : y = x := by simpa [Value.isStr] using z
              exact hx (this ▸ hy)
            have g : es.toList.any (·.refKey) = false := by
              rw [List.any_eq_false]
              intro e he
              obtain ⟨y, t, ek, hy⟩ := km e he
              simp [DictEntry.refKey, ek]
            rw [f]
            dsimp only
            rw [g, if_neg Bool.false_ne_true]
          · cases h
        | _ => cases h
      | some b => cases dt <;> cases h
    | _ => cases od <;> cases dt <;> cases h

/-! ### the defs, the facts -/
def dis_number : He.DefD := ⟨("is_number", none), "is_number", "is_number", defArgs sis_number, defBody sis_number, defScope sis_number, [], []⟩
def dis_between : He.DefD := ⟨("is_between", none), "is_between", "is_between", defArgs sis_between, defBody sis_between, defScope sis_between, [], []⟩
def dsentence_right : He.DefD := ⟨("sentence_right", none), "sentence_right", "sentence_right", defArgs ssentence_right, defBody ssentence_right, defScope ssentence_right, [], []⟩
def dneed_sentence : He.DefD := ⟨("need_sentence", none), "need_sentence", "need_sentence", defArgs sneed_sentence, defBody sneed_sentence, defScope sneed_sentence, [], []⟩
def dneed_place_count : He.DefD := ⟨("need_place_count", none), "need_place_count", "need_place_count", defArgs sneed_place_count, defBody sneed_place_count, defScope sneed_place_count, [], []⟩
def dwords_of : He.DefD := ⟨("words_of", none), "words_of", "words_of", defArgs swords_of, defBody swords_of, defScope swords_of, [], []⟩
def dsentence_text : He.DefD := ⟨("sentence_text", none), "sentence_text", "sentence_text", defArgs ssentence_text, defBody ssentence_text, defScope ssentence_text, [], []⟩
def dread_part : He.DefD := ⟨("read_part", none), "read_part", "read_part", defArgs sread_part, defBody sread_part, defScope sread_part, [], []⟩
def dneed_digit : He.DefD := ⟨("need_digit", none), "need_digit", "need_digit", defArgs sneed_digit, defBody sneed_digit, defScope sneed_digit, [], []⟩
def dread_sentence : He.DefD := ⟨("read_sentence", none), "read_sentence", "read_sentence", defArgs sread_sentence, defBody sread_sentence, defScope sread_sentence, [], []⟩
def d_law_begun : He.DefD := ⟨("_law_begun", none), "_law_begun", "_law_begun", defArgs s_law_begun, defBody s_law_begun, defScope s_law_begun, [], []⟩
def d_law_blended : He.DefD := ⟨("_law_blended", none), "_law_blended", "_law_blended", defArgs s_law_blended, defBody s_law_blended, defScope s_law_blended, [], []⟩
def d_law_draw : He.DefD := ⟨("_law_draw", none), "_law_draw", "_law_draw", defArgs s_law_draw, defBody s_law_draw, defScope s_law_draw, [], []⟩
def d_law_pick : He.DefD := ⟨("_law_pick", none), "_law_pick", "_law_pick", defArgs s_law_pick, defBody s_law_pick, defScope s_law_pick, [], []⟩
def d_law_caught : He.DefD := ⟨("_law_caught", none), "_law_caught", "_law_caught", defArgs s_law_caught, defBody s_law_caught, defScope s_law_caught, [], []⟩
def d_law_is_whole : He.DefD := ⟨("_law_is_whole", none), "_law_is_whole", "_law_is_whole", defArgs s_law_is_whole, defBody s_law_is_whole, defScope s_law_is_whole, [], []⟩
def d_law_said : He.DefD := ⟨("_law_said", none), "_law_said", "_law_said", defArgs s_law_said, defBody s_law_said, defScope s_law_said, [], []⟩
def d_law_deep : He.DefD := ⟨("_law_deep", none), "_law_deep", "_law_deep", defArgs s_law_deep, defBody s_law_deep, defScope s_law_deep, [], []⟩
def d_law_words : He.DefD := ⟨("_law_words", none), "_law_words", "_law_words", defArgs s_law_words, defBody s_law_words, defScope s_law_words, [], []⟩
def d_law_part : He.DefD := ⟨("_law_part", none), "_law_part", "_law_part", defArgs s_law_part, defBody s_law_part, defScope s_law_part, [], []⟩
def d_law_read : He.DefD := ⟨("_law_read", none), "_law_read", "_law_read", defArgs s_law_read, defBody s_law_read, defScope s_law_read, [], []⟩
def d_law_read_right : He.DefD := ⟨("_law_read_right", none), "_law_read_right", "_law_read_right", defArgs s_law_read_right, defBody s_law_read_right, defScope s_law_read_right, [], []⟩
def d_law_bent : He.DefD := ⟨("_law_bent", none), "_law_bent", "_law_bent", defArgs s_law_bent, defBody s_law_bent, defScope s_law_bent, [], []⟩
def dlaw : He.DefD := ⟨("law", none), "law", "law", defArgs slaw, defBody slaw, defScope slaw, [], []⟩
def fn : List He.DefD := [dis_number, dis_between, dsentence_right, dneed_sentence, dneed_place_count, dwords_of, dsentence_text, dread_part, dneed_digit, dread_sentence, d_law_begun, d_law_blended, d_law_draw, d_law_pick, d_law_caught, d_law_is_whole, d_law_said, d_law_deep, d_law_words, d_law_part, d_law_read, d_law_read_right, d_law_bent, dlaw]
def fa : List He.Fa := [.glo "is_number", .glo "is_between", .glo "sentence_right", .glo "need_sentence", .glo "need_place_count", .glo "words_of", .glo "sentence_text", .glo "read_part", .glo "need_digit", .glo "read_sentence", .glo "_law_begun", .glo "_law_blended", .glo "_law_draw", .glo "_law_pick", .glo "_law_caught", .glo "_law_is_whole", .glo "_law_said", .glo "_law_deep", .glo "_law_words", .glo "_law_part", .glo "_law_read", .glo "_law_read_right", .glo "_law_bent", .glo "law", .glo "PARTS", .glo "BadText", .glo "BadPlaces", .glo "BadSentence", .glo "LotError", .free "len", .free "isinstance", .free "str", .free "int", .free "bool", .free "tuple", .free "list", .free "dict", .free "all", .free "any", .free "sum", .free "range", .free "min", .free "max", .free "abs", .free "sorted", .free "enumerate", .free "zip", .free "set", .free "super", .int "MOST_PLACES" 6, .int "MOST_DEEP" 8, .exc "BadSentence", .exc "BadPlaces", .exm "BadText" "LotError" true, .exm "BadPlaces" "LotError" true]
def ts : List He.Tab := [(fun K => He.ga K "PARTS", ["no", "both", "either"])]
def tf : List He.Defn := [("_law_read_right", none), ("law", none)]
def aT (K : PySem.W.Frag) : Addr := He.ga K "BadText"
def aP (K : PySem.W.Frag) : Addr := He.ga K "BadPlaces"
def aI (K : PySem.W.Frag) : Addr := He.ma K (He.ga K "BadText") "__init__"
def aD (K : PySem.W.Frag) : Addr := He.ga K "ItemError"
open PySem.SupX in
def excCB (K : PySem.W.Frag) (D : Addr) : Bool := eqB (PySem.W.findIn K (.ref D) "__getattribute__") (some (some (.builtin "BaseException.__getattribute__"))) && (eqB (PySem.W.findIn K (.ref D) "__getattr__") (some none) && (eqB (PySem.W.subIn K (.ref D) (.type "BaseException")) (some true) && (PySem.W.hasDictIn K D &&
  (eqB (PySem.W.findIn K (.ref D) "__class__") (some (some (.builtin "object.__class__"))) && (eqB (PySem.W.specialIn K (.builtin "object.__class__") "__get__") (some (some (.builtin "getset_descriptor.__get__"))) && (eqB (PySem.W.takesIn K (.builtin "object.__class__")) (some true) && eqB (PySem.W.mroIn K D (.type "object")) (some true)))))))
theorem excCB_ok {K : PySem.W.Frag} {D : Addr} (h : excCB K D = true) : ExcC K D := by
  unfold excCB PySem.SupX.eqB at h
  simp only [Bool.and_eq_true, decide_eq_true_eq] at h
  obtain ⟨h1, h2, h3, h4, h5, h6, h7, h8⟩ := h
  exact ⟨h1, h2, h3, h4, h5, h6, h7, h8⟩
def file : Str := "/claim/cut.py"
def ex (K : PySem.W.Frag) : Bool := PySem.SupX.supB K (aT K) (aD K) (aI K) "index" && (PySem.SupX.initB file K (aI K) (aD K) && (excCB K (aT K) && (excCB K (aP K) && (xfB K (aT K) && (He.valsB K (He.ga K "PARTS") [("no", .int 1), ("both", .int 2), ("either", .int 2)] && decide ((He.cT K ("_law_read_right", none)).2 ≠ (He.cT K ("law", none)).2))))))
def o2 (K : PySem.W.Frag) : PySem.SupX.InitV := PySem.SupX.initO K (aI K)
def msg : Str := "a list is not as it should be"
def v2 : PySem.SupX.InitV := some ("__init__", PySem.SupX.iA "index" ⟨6, 17, 6, 21⟩ ⟨6, 23, 6, 28⟩, FuncBody.stmts (PySem.SupX.iB "index" msg ⟨7, 8, 7, 13⟩ ⟨7, 8, 7, 15⟩ ⟨7, 8, 7, 24⟩ ⟨7, 25, 7, 56⟩ ⟨7, 8, 7, 57⟩ ⟨7, 8, 7, 57⟩ ⟨8, 8, 8, 12⟩ ⟨8, 8, 8, 18⟩ ⟨8, 21, 8, 26⟩ ⟨8, 8, 8, 26⟩), PySem.SupX.iS "index", mainGlobals, ["__class__"], Value.none, Value.none, builtinsNs)
theorem plain : PySem.SupX.Plain msg ⟨7, 8, 7, 13⟩ ⟨7, 8, 7, 15⟩ ⟨7, 8, 7, 24⟩ ⟨7, 25, 7, 56⟩ ⟨7, 8, 7, 57⟩ := ⟨_, fun env => rfl⟩
theorem PX.bnd (qual : Str) (body : List Stmt) (doc pm : Value) (an : Option Addr) (cdv : Value) (cc : Addr) (ct : Value) (p1 p2 : Pos) (a b : Value) :
    bindArgs (PySem.W.fnX "__init__" qual (PySem.SupX.iA "index" p1 p2) body (PySem.SupX.iS "index") [((Str.ofString "__class__"), cc)] .none .none doc pm an cdv ct) ⟨[a, b], []⟩ = pure [((Str.ofString "self"), a), ("index", b)] := rfl
abbrev Says (w : World) (h : Heap) (K : PySem.W.Frag) : Prop := He.SaysY fa fn ts tf ex o2 v2 w h K
abbrev LW : PySem.W.OpenLaw := PySem.Challenge.rw_coverbut_k14_texts_of_sentences

section
variable {w : World} {K : PySem.W.Frag} {mg : Str → Option Value} {h : Heap}
theorem ex_all (c : Says w h K) : PySem.SupX.supB K (aT K) (aD K) (aI K) "index" = true ∧ PySem.SupX.initB file K (aI K) (aD K) = true ∧ excCB K (aT K) = true ∧ excCB K (aP K) = true ∧ xfB K (aT K) = true ∧ He.valsB K (He.ga K "PARTS") [("no", .int 1), ("both", .int 2), ("either", .int 2)] = true ∧ (He.cT K ("_law_read_right", none)).2 ≠ (He.cT K ("law", none)).2 := by
  have z := c.more
  unfold ex at z
  simp only [Bool.and_eq_true, decide_eq_true_eq] at z
  exact z
theorem zs_of (X : K.In h) (G : h.Ns mainGlobals mg) (c : Says w h K) : Zs mg := ⟨He.free_ok X G (c.t.d.fact 29 rfl), He.free_ok X G (c.t.d.fact 30 rfl), He.free_ok X G (c.t.d.fact 31 rfl), He.free_ok X G (c.t.d.fact 32 rfl), He.free_ok X G (c.t.d.fact 33 rfl), He.free_ok X G (c.t.d.fact 34 rfl), He.free_ok X G (c.t.d.fact 35 rfl), He.free_ok X G (c.t.d.fact 36 rfl), He.free_ok X G (c.t.d.fact 37 rfl), He.free_ok X G (c.t.d.fact 38 rfl), He.free_ok X G (c.t.d.fact 39 rfl), He.free_ok X G (c.t.d.fact 40 rfl), He.free_ok X G (c.t.d.fact 41 rfl), He.free_ok X G (c.t.d.fact 42 rfl), He.free_ok X G (c.t.d.fact 43 rfl), He.free_ok X G (c.t.d.fact 44 rfl), He.free_ok X G (c.t.d.fact 45 rfl), He.free_ok X G (c.t.d.fact 46 rfl), He.free_ok X G (c.t.d.fact 47 rfl)⟩
theorem fis_number (c : Says w h K) : ∃ fd, FnP K "is_number" sis_number (He.ga K "is_number") fd := c.t.d.def_ 0 (d := dis_number) rfl
theorem mis_number (X : K.In h) (G : h.Ns mainGlobals mg) (c : Says w h K) {fd : FuncData} (F : FnP K "is_number" sis_number (He.ga K "is_number") fd) : Dat K mg "is_number" (He.ga K "is_number") fd ["thing"] := ⟨He.glo_ok X G (c.t.d.fact 0 rfl), F.kp, FunD.bindsN F fun _ _ _ _ _ _ us hl => match us, hl with | [_], _ => rfl⟩
theorem fis_between (c : Says w h K) : ∃ fd, FnP K "is_between" sis_between (He.ga K "is_between") fd := c.t.d.def_ 1 (d := dis_between) rfl
theorem mis_between (X : K.In h) (G : h.Ns mainGlobals mg) (c : Says w h K) {fd : FuncData} (F : FnP K "is_between" sis_between (He.ga K "is_between") fd) : Dat K mg "is_between" (He.ga K "is_between") fd ["thing", "low", "high"] := ⟨He.glo_ok X G (c.t.d.fact 1 rfl), F.kp, FunD.bindsN F fun _ _ _ _ _ _ us hl => match us, hl with | [_, _, _], _ => rfl⟩
theorem fsentence_right (c : Says w h K) : ∃ fd, FnP K "sentence_right" ssentence_right (He.ga K "sentence_right") fd := c.t.d.def_ 2 (d := dsentence_right) rfl
theorem msentence_right (X : K.In h) (G : h.Ns mainGlobals mg) (c : Says w h K) {fd : FuncData} (F : FnP K "sentence_right" ssentence_right (He.ga K "sentence_right") fd) : Dat K mg "sentence_right" (He.ga K "sentence_right") fd ["places", "thing", "depth"] := ⟨He.glo_ok X G (c.t.d.fact 2 rfl), F.kp, FunD.bindsN F fun _ _ _ _ _ _ us hl => match us, hl with | [_, _, _], _ => rfl⟩
theorem fneed_sentence (c : Says w h K) : ∃ fd, FnP K "need_sentence" sneed_sentence (He.ga K "need_sentence") fd := c.t.d.def_ 3 (d := dneed_sentence) rfl
theorem mneed_sentence (X : K.In h) (G : h.Ns mainGlobals mg) (c : Says w h K) {fd : FuncData} (F : FnP K "need_sentence" sneed_sentence (He.ga K "need_sentence") fd) : Dat K mg "need_sentence" (He.ga K "need_sentence") fd ["places", "sentence"] := ⟨He.glo_ok X G (c.t.d.fact 3 rfl), F.kp, FunD.bindsN F fun _ _ _ _ _ _ us hl => match us, hl with | [_, _], _ => rfl⟩
theorem fneed_place_count (c : Says w h K) : ∃ fd, FnP K "need_place_count" sneed_place_count (He.ga K "need_place_count") fd := c.t.d.def_ 4 (d := dneed_place_count) rfl
theorem mneed_place_count (X : K.In h) (G : h.Ns mainGlobals mg) (c : Says w h K) {fd : FuncData} (F : FnP K "need_place_count" sneed_place_count (He.ga K "need_place_count") fd) : Dat K mg "need_place_count" (He.ga K "need_place_count") fd ["places"] := ⟨He.glo_ok X G (c.t.d.fact 4 rfl), F.kp, FunD.bindsN F fun _ _ _ _ _ _ us hl => match us, hl with | [_], _ => rfl⟩
theorem fwords_of (c : Says w h K) : ∃ fd, FnP K "words_of" swords_of (He.ga K "words_of") fd := c.t.d.def_ 5 (d := dwords_of) rfl
theorem mwords_of (X : K.In h) (G : h.Ns mainGlobals mg) (c : Says w h K) {fd : FuncData} (F : FnP K "words_of" swords_of (He.ga K "words_of") fd) : Dat K mg "words_of" (He.ga K "words_of") fd ["sentence"] := ⟨He.glo_ok X G (c.t.d.fact 5 rfl), F.kp, FunD.bindsN F fun _ _ _ _ _ _ us hl => match us, hl with | [_], _ => rfl⟩
theorem fsentence_text (c : Says w h K) : ∃ fd, FnP K "sentence_text" ssentence_text (He.ga K "sentence_text") fd := c.t.d.def_ 6 (d := dsentence_text) rfl
theorem msentence_text (X : K.In h) (G : h.Ns mainGlobals mg) (c : Says w h K) {fd : FuncData} (F : FnP K "sentence_text" ssentence_text (He.ga K "sentence_text") fd) : Dat K mg "sentence_text" (He.ga K "sentence_text") fd ["places", "sentence"] := ⟨He.glo_ok X G (c.t.d.fact 6 rfl), F.kp, FunD.bindsN F fun _ _ _ _ _ _ us hl => match us, hl with | [_, _], _ => rfl⟩
theorem fread_part (c : Says w h K) : ∃ fd, FnP K "read_part" sread_part (He.ga K "read_part") fd := c.t.d.def_ 7 (d := dread_part) rfl
theorem mread_part (X : K.In h) (G : h.Ns mainGlobals mg) (c : Says w h K) {fd : FuncData} (F : FnP K "read_part" sread_part (He.ga K "read_part") fd) : Dat K mg "read_part" (He.ga K "read_part") fd ["words", "spot", "places", "depth"] := ⟨He.glo_ok X G (c.t.d.fact 7 rfl), F.kp, FunD.bindsN F fun _ _ _ _ _ _ us hl => match us, hl with | [_, _, _, _], _ => rfl⟩
theorem fneed_digit (c : Says w h K) : ∃ fd, FnP K "need_digit" sneed_digit (He.ga K "need_digit") fd := c.t.d.def_ 8 (d := dneed_digit) rfl
theorem mneed_digit (X : K.In h) (G : h.Ns mainGlobals mg) (c : Says w h K) {fd : FuncData} (F : FnP K "need_digit" sneed_digit (He.ga K "need_digit") fd) : Dat K mg "need_digit" (He.ga K "need_digit") fd ["words", "spot", "most"] := ⟨He.glo_ok X G (c.t.d.fact 8 rfl), F.kp, FunD.bindsN F fun _ _ _ _ _ _ us hl => match us, hl with | [_, _, _], _ => rfl⟩
theorem fread_sentence (c : Says w h K) : ∃ fd, FnP K "read_sentence" sread_sentence (He.ga K "read_sentence") fd := c.t.d.def_ 9 (d := dread_sentence) rfl
theorem mread_sentence (X : K.In h) (G : h.Ns mainGlobals mg) (c : Says w h K) {fd : FuncData} (F : FnP K "read_sentence" sread_sentence (He.ga K "read_sentence") fd) : Dat K mg "read_sentence" (He.ga K "read_sentence") fd ["places", "text"] := ⟨He.glo_ok X G (c.t.d.fact 9 rfl), F.kp, FunD.bindsN F fun _ _ _ _ _ _ us hl => match us, hl with | [_, _], _ => rfl⟩
theorem f_law_begun (c : Says w h K) : ∃ fd, FnP K "_law_begun" s_law_begun (He.ga K "_law_begun") fd := c.t.d.def_ 10 (d := d_law_begun) rfl
theorem m_law_begun (X : K.In h) (G : h.Ns mainGlobals mg) (c : Says w h K) {fd : FuncData} (F : FnP K "_law_begun" s_law_begun (He.ga K "_law_begun") fd) : Dat K mg "_law_begun" (He.ga K "_law_begun") fd ["script"] := ⟨He.glo_ok X G (c.t.d.fact 10 rfl), F.kp, FunD.bindsN F fun _ _ _ _ _ _ us hl => match us, hl with | [_], _ => rfl⟩
theorem f_law_blended (c : Says w h K) : ∃ fd, FnP K "_law_blended" s_law_blended (He.ga K "_law_blended") fd := c.t.d.def_ 11 (d := d_law_blended) rfl
theorem m_law_blended (X : K.In h) (G : h.Ns mainGlobals mg) (c : Says w h K) {fd : FuncData} (F : FnP K "_law_blended" s_law_blended (He.ga K "_law_blended") fd) : Dat K mg "_law_blended" (He.ga K "_law_blended") fd ["state"] := ⟨He.glo_ok X G (c.t.d.fact 11 rfl), F.kp, FunD.bindsN F fun _ _ _ _ _ _ us hl => match us, hl with | [_], _ => rfl⟩
theorem f_law_draw (c : Says w h K) : ∃ fd, FnP K "_law_draw" s_law_draw (He.ga K "_law_draw") fd := c.t.d.def_ 12 (d := d_law_draw) rfl
theorem m_law_draw (X : K.In h) (G : h.Ns mainGlobals mg) (c : Says w h K) {fd : FuncData} (F : FnP K "_law_draw" s_law_draw (He.ga K "_law_draw") fd) : Dat K mg "_law_draw" (He.ga K "_law_draw") fd ["state", "size"] := ⟨He.glo_ok X G (c.t.d.fact 12 rfl), F.kp, FunD.bindsN F fun _ _ _ _ _ _ us hl => match us, hl with | [_, _], _ => rfl⟩
theorem f_law_pick (c : Says w h K) : ∃ fd, FnP K "_law_pick" s_law_pick (He.ga K "_law_pick") fd := c.t.d.def_ 13 (d := d_law_pick) rfl
theorem m_law_pick (X : K.In h) (G : h.Ns mainGlobals mg) (c : Says w h K) {fd : FuncData} (F : FnP K "_law_pick" s_law_pick (He.ga K "_law_pick") fd) : Dat K mg "_law_pick" (He.ga K "_law_pick") fd ["state", "several"] := ⟨He.glo_ok X G (c.t.d.fact 13 rfl), F.kp, FunD.bindsN F fun _ _ _ _ _ _ us hl => match us, hl with | [_, _], _ => rfl⟩
theorem f_law_caught (c : Says w h K) : ∃ fd, FnP K "_law_caught" s_law_caught (He.ga K "_law_caught") fd := c.t.d.def_ 14 (d := d_law_caught) rfl
theorem m_law_caught (X : K.In h) (G : h.Ns mainGlobals mg) (c : Says w h K) {fd : FuncData} (F : FnP K "_law_caught" s_law_caught (He.ga K "_law_caught") fd) : Dat K mg "_law_caught" (He.ga K "_law_caught") fd ["work"] := ⟨He.glo_ok X G (c.t.d.fact 14 rfl), F.kp, FunD.bindsN F fun _ _ _ _ _ _ us hl => match us, hl with | [_], _ => rfl⟩
theorem f_law_is_whole (c : Says w h K) : ∃ fd, FnP K "_law_is_whole" s_law_is_whole (He.ga K "_law_is_whole") fd := c.t.d.def_ 15 (d := d_law_is_whole) rfl
theorem m_law_is_whole (X : K.In h) (G : h.Ns mainGlobals mg) (c : Says w h K) {fd : FuncData} (F : FnP K "_law_is_whole" s_law_is_whole (He.ga K "_law_is_whole") fd) : Dat K mg "_law_is_whole" (He.ga K "_law_is_whole") fd ["thing"] := ⟨He.glo_ok X G (c.t.d.fact 15 rfl), F.kp, FunD.bindsN F fun _ _ _ _ _ _ us hl => match us, hl with | [_], _ => rfl⟩
theorem f_law_said (c : Says w h K) : ∃ fd, FnP K "_law_said" s_law_said (He.ga K "_law_said") fd := c.t.d.def_ 16 (d := d_law_said) rfl
theorem m_law_said (X : K.In h) (G : h.Ns mainGlobals mg) (c : Says w h K) {fd : FuncData} (F : FnP K "_law_said" s_law_said (He.ga K "_law_said") fd) : Dat K mg "_law_said" (He.ga K "_law_said") fd ["state", "places", "deep"] := ⟨He.glo_ok X G (c.t.d.fact 16 rfl), F.kp, FunD.bindsN F fun _ _ _ _ _ _ us hl => match us, hl with | [_, _, _], _ => rfl⟩
theorem f_law_deep (c : Says w h K) : ∃ fd, FnP K "_law_deep" s_law_deep (He.ga K "_law_deep") fd := c.t.d.def_ 17 (d := d_law_deep) rfl
theorem m_law_deep (X : K.In h) (G : h.Ns mainGlobals mg) (c : Says w h K) {fd : FuncData} (F : FnP K "_law_deep" s_law_deep (He.ga K "_law_deep") fd) : Dat K mg "_law_deep" (He.ga K "_law_deep") fd ["state", "places", "deep"] := ⟨He.glo_ok X G (c.t.d.fact 17 rfl), F.kp, FunD.bindsN F fun _ _ _ _ _ _ us hl => match us, hl with | [_, _, _], _ => rfl⟩
theorem f_law_words (c : Says w h K) : ∃ fd, FnP K "_law_words" s_law_words (He.ga K "_law_words") fd := c.t.d.def_ 18 (d := d_law_words) rfl
theorem m_law_words (X : K.In h) (G : h.Ns mainGlobals mg) (c : Says w h K) {fd : FuncData} (F : FnP K "_law_words" s_law_words (He.ga K "_law_words") fd) : Dat K mg "_law_words" (He.ga K "_law_words") fd ["said"] := ⟨He.glo_ok X G (c.t.d.fact 18 rfl), F.kp, FunD.bindsN F fun _ _ _ _ _ _ us hl => match us, hl with | [_], _ => rfl⟩
theorem f_law_part (c : Says w h K) : ∃ fd, FnP K "_law_part" s_law_part (He.ga K "_law_part") fd := c.t.d.def_ 19 (d := d_law_part) rfl
theorem m_law_part (X : K.In h) (G : h.Ns mainGlobals mg) (c : Says w h K) {fd : FuncData} (F : FnP K "_law_part" s_law_part (He.ga K "_law_part") fd) : Dat K mg "_law_part" (He.ga K "_law_part") fd ["words", "spot", "places", "deep"] := ⟨He.glo_ok X G (c.t.d.fact 19 rfl), F.kp, FunD.bindsN F fun _ _ _ _ _ _ us hl => match us, hl with | [_, _, _, _], _ => rfl⟩
theorem f_law_read (c : Says w h K) : ∃ fd, FnP K "_law_read" s_law_read (He.ga K "_law_read") fd := c.t.d.def_ 20 (d := d_law_read) rfl
theorem m_law_read (X : K.In h) (G : h.Ns mainGlobals mg) (c : Says w h K) {fd : FuncData} (F : FnP K "_law_read" s_law_read (He.ga K "_law_read") fd) : Dat K mg "_law_read" (He.ga K "_law_read") fd ["words", "places"] := ⟨He.glo_ok X G (c.t.d.fact 20 rfl), F.kp, FunD.bindsN F fun _ _ _ _ _ _ us hl => match us, hl with | [_, _], _ => rfl⟩
theorem f_law_read_right (c : Says w h K) : ∃ fd, FnP K "_law_read_right" s_law_read_right (He.ga K "_law_read_right") fd := c.t.d.def_ 21 (d := d_law_read_right) rfl
theorem m_law_read_right (X : K.In h) (G : h.Ns mainGlobals mg) (c : Says w h K) {fd : FuncData} (F : FnP K "_law_read_right" s_law_read_right (He.ga K "_law_read_right") fd) : Dat K mg "_law_read_right" (He.ga K "_law_read_right") fd ["words", "places"] := ⟨He.glo_ok X G (c.t.d.fact 21 rfl), F.kp, FunD.bindsN F fun _ _ _ _ _ _ us hl => match us, hl with | [_, _], _ => rfl⟩
theorem f_law_bent (c : Says w h K) : ∃ fd, FnP K "_law_bent" s_law_bent (He.ga K "_law_bent") fd := c.t.d.def_ 22 (d := d_law_bent) rfl
theorem m_law_bent (X : K.In h) (G : h.Ns mainGlobals mg) (c : Says w h K) {fd : FuncData} (F : FnP K "_law_bent" s_law_bent (He.ga K "_law_bent") fd) : Dat K mg "_law_bent" (He.ga K "_law_bent") fd ["state", "words"] := ⟨He.glo_ok X G (c.t.d.fact 22 rfl), F.kp, FunD.bindsN F fun _ _ _ _ _ _ us hl => match us, hl with | [_, _], _ => rfl⟩
theorem flaw (c : Says w h K) : ∃ fd, FnP K "law" slaw (He.ga K "law") fd := c.t.d.def_ 23 (d := dlaw) rfl
theorem mlaw (X : K.In h) (G : h.Ns mainGlobals mg) (c : Says w h K) {fd : FuncData} (F : FnP K "law" slaw (He.ga K "law") fd) : Dat K mg "law" (He.ga K "law") fd ["script"] := ⟨He.glo_ok X G (c.t.d.fact 23 rfl), F.kp, FunD.bindsN F fun _ _ _ _ _ _ us hl => match us, hl with | [_], _ => rfl⟩
theorem parts_of (X : K.In h) (G : h.Ns mainGlobals mg) (c : Says w h K) : ∃ es n, PartsD K w mg (He.ga K "PARTS") es n := by
  obtain ⟨es, n, D⟩ := c.t.tab 0 (t := (fun K => He.ga K "PARTS", ["no", "both", "either"])) rfl
  have hv := (ex_all c).2.2.2.2.2.1
  have e0 : He.dicW K (He.ga K "PARTS") = some (He.keysIn w.params ["no", "both", "either"]) := by
    have e : ts.map (fun t => He.dicW K (t.1 K)) = ts.map fun t => some (He.keysIn w.params t.2) := congrArg (fun z : He.AlT => z.2) c.t
    exact (List.cons.inj e).1
  refine ⟨es, n, He.glo_ok X G (c.t.d.fact 24 rfl), D, fun x m hk => ?_, fun x hk => nsIn_out e0 ?_⟩
  · unfold kinds at hk
    by_cases h1 : x = wNo
    · rw [if_pos h1] at hk
      cases hk
      subst h1
      exact He.valsB_ok hv (q := ("no", .int 1)) (by simp)
    · rw [if_neg h1] at hk
      by_cases h2 : x = wBoth
      · rw [if_pos h2] at hk
        cases hk
        subst h2
        exact He.valsB_ok hv (q := ("both", .int 2)) (by simp)
      · rw [if_neg h2] at hk
        by_cases h3 : x = wEither
        · rw [if_pos h3] at hk
          cases hk
          subst h3
          exact He.valsB_ok hv (q := ("either", .int 2)) (by simp)
        · rw [if_neg h3] at hk
          cases hk
  · unfold kinds at hk
    intro hx
    simp only [List.mem_cons, List.not_mem_nil, or_false] at hx
    rcases hx with rfl | rfl | rfl
    · rw [if_pos (show Str.ofString "no" = wNo from rfl)] at hk; cases hk
    · rw [if_neg (show ¬ Str.ofString "both" = wNo from ne_both2), if_pos (show Str.ofString "both" = wBoth from rfl)] at hk; cases hk
    · rw [if_neg (show ¬ Str.ofString "either" = wNo from ne_either2), if_neg (show ¬ Str.ofString "either" = wBoth from ne_either3), if_pos (show Str.ofString "either" = wEither from rfl)] at hk; cases hk
theorem sup_ok (X : K.In h) (G : h.Ns mainGlobals mg) (c : Says w h K) : PySem.SupX.SupTxt LW.prog K mg "BadText" (aT K) (aD K) (aI K) "index" := by
  have e := ex_all c
  exact PySem.SupX.sup_of e.1 e.2.1 c.two plain (He.glo_ok X G (c.t.d.fact 25 rfl)) (He.free_ok X G (c.t.d.fact 48 rfl)) (by decide +kernel) (by decide +kernel) (by decide +kernel) (by decide +kernel) (by decide +kernel) PX.bnd
theorem exf_ok (X : K.In h) (G : h.Ns mainGlobals mg) (c : Says w h K) : ExF K mg (aT K) (He.ga K "LotError") (aP K) := by
  have e := ex_all c
  exact ⟨He.glo_ok X G (c.t.d.fact 28 rfl), He.glo_ok X G (c.t.d.fact 25 rfl), excCB_ok e.2.2.1, xfB_ok e.2.2.2.2.1, (sup_ok X G c).noN, He.exm_ok (c.t.d.fact 53 rfl), by unfold PySem.W.kitOne; simp, He.glo_ok X G (c.t.d.fact 26 rfl), excCB_ok e.2.2.2.1, He.exm_ok (c.t.d.fact 54 rfl), by unfold PySem.W.kitOne; simp⟩
theorem ext_S (X : K.In h) (G : h.Ns mainGlobals mg) (c : Says w h K) : ExT K mg "BadSentence" (He.ga K "BadSentence") := by
  obtain ⟨a, b, d, e⟩ := He.exc_ok (x := "BadSentence") (c.t.d.fact 51 rfl)
  exact ⟨He.glo_ok X G (c.t.d.fact 27 rfl), a, b, d, e⟩
theorem ext_P (X : K.In h) (G : h.Ns mainGlobals mg) (c : Says w h K) : ExT K mg "BadPlaces" (He.ga K "BadPlaces") := by
  obtain ⟨a, b, d, e⟩ := He.exc_ok (x := "BadPlaces") (c.t.d.fact 52 rfl)
  exact ⟨He.glo_ok X G (c.t.d.fact 26 rfl), a, b, d, e⟩
end
end K14
/-! E4: the law's promise from the head's facts. -/
namespace K14
open PySem PySem.Spec PyProof.Rows L2 LamX Cov
theorem funC_of {K : PySem.W.Frag} {x : Str} {st : Stmt} {fd : FuncData} (F : FnP K x st (He.ga K x) fd) : FunC K x st (He.ga K x) fd (He.codeOf K (x, none)) := by
  obtain ⟨oc, od, dV, kV, doc, pm, an, cdv, ct, osl, e, lk, hcd, _, _⟩ := F.ex
  obtain ⟨c, rfl⟩ := He.codeIn_ref hcd
  have ec : He.codeOf K (x, none) = c := He.codeOf_eq (p := (x, none)) lk (by rw [e])
  rw [ec]
  exact ⟨oc, od, dV, kV, doc, pm, an, ct, osl, e, lk, hcd⟩
theorem lawAt {w : World} {K : PySem.W.Frag} {mg : Str → Option Value} {h : Heap} {f : Addr} (X : K.In h) (G : h.Ns mainGlobals mg) (c : Says w h K) (hmg : mg "law" = some (.ref f)) : LawAtS LW w K (L2.CX LW.prog w) 19 63 "script" mg f h := by
  have e0 := hmg.symm.trans (He.glo_ok X G (c.t.d.fact 23 rfl))
  cases e0
  have Z := zs_of X G c
  have XT := sup_ok X G c
  have XF := exf_ok X G c
  have XS := ext_S X G c
  have XP := ext_P X G c
  obtain ⟨es, n, PD⟩ := parts_of X G c
  obtain ⟨t1, g6⟩ := He.int_ok X G (x := "MOST_PLACES") (i := 6) (c.t.d.fact 49 rfl)
  obtain ⟨t2, g8⟩ := He.int_ok X G (x := "MOST_DEEP") (i := 8) (c.t.d.fact 50 rfl)
  obtain ⟨xis_number, Fis_number⟩ := fis_number c
  have Mis_number := mis_number X G c Fis_number
  obtain ⟨xis_between, Fis_between⟩ := fis_between c
  have Mis_between := mis_between X G c Fis_between
  obtain ⟨xsentence_right, Fsentence_right⟩ := fsentence_right c
  have Msentence_right := msentence_right X G c Fsentence_right
  obtain ⟨xneed_sentence, Fneed_sentence⟩ := fneed_sentence c
  have Mneed_sentence := mneed_sentence X G c Fneed_sentence
  obtain ⟨xneed_place_count, Fneed_place_count⟩ := fneed_place_count c
  have Mneed_place_count := mneed_place_count X G c Fneed_place_count
  obtain ⟨xwords_of, Fwords_of⟩ := fwords_of c
  have Mwords_of := mwords_of X G c Fwords_of
  obtain ⟨xsentence_text, Fsentence_text⟩ := fsentence_text c
  have Msentence_text := msentence_text X G c Fsentence_text
  obtain ⟨xread_part, Fread_part⟩ := fread_part c
  have Mread_part := mread_part X G c Fread_part
  obtain ⟨xneed_digit, Fneed_digit⟩ := fneed_digit c
  have Mneed_digit := mneed_digit X G c Fneed_digit
  obtain ⟨xread_sentence, Fread_sentence⟩ := fread_sentence c
  have Mread_sentence := mread_sentence X G c Fread_sentence
  obtain ⟨x_law_begun, F_law_begun⟩ := f_law_begun c
  have M_law_begun := m_law_begun X G c F_law_begun
  obtain ⟨x_law_blended, F_law_blended⟩ := f_law_blended c
  have M_law_blended := m_law_blended X G c F_law_blended
  obtain ⟨x_law_draw, F_law_draw⟩ := f_law_draw c
  have M_law_draw := m_law_draw X G c F_law_draw
  obtain ⟨x_law_pick, F_law_pick⟩ := f_law_pick c
  have M_law_pick := m_law_pick X G c F_law_pick
  obtain ⟨x_law_caught, F_law_caught⟩ := f_law_caught c
  have M_law_caught := m_law_caught X G c F_law_caught
  obtain ⟨x_law_is_whole, F_law_is_whole⟩ := f_law_is_whole c
  have M_law_is_whole := m_law_is_whole X G c F_law_is_whole
  obtain ⟨x_law_said, F_law_said⟩ := f_law_said c
  have M_law_said := m_law_said X G c F_law_said
  obtain ⟨x_law_deep, F_law_deep⟩ := f_law_deep c
  have M_law_deep := m_law_deep X G c F_law_deep
  obtain ⟨x_law_words, F_law_words⟩ := f_law_words c
  have M_law_words := m_law_words X G c F_law_words
  obtain ⟨x_law_part, F_law_part⟩ := f_law_part c
  have M_law_part := m_law_part X G c F_law_part
  obtain ⟨x_law_read, F_law_read⟩ := f_law_read c
  have M_law_read := m_law_read X G c F_law_read
  obtain ⟨x_law_read_right, F_law_read_right⟩ := f_law_read_right c
  have M_law_read_right := m_law_read_right X G c F_law_read_right
  obtain ⟨x_law_bent, F_law_bent⟩ := f_law_bent c
  have M_law_bent := m_law_bent X G c F_law_bent
  obtain ⟨xlaw, Flaw⟩ := flaw c
  have Mlaw := mlaw X G c Flaw
  have hne := (ex_all c).2.2.2.2.2.2
  have Fc := funC_of F_law_read_right
  have Fl := funC_of Flaw
  have KB1 : KBinds K xsentence_text ["places", "sentence"] ["sentence", "places"] kwU kwV := by
    obtain ⟨oc, od, dV, kV, doc, pm, an, cdv, ct, osl, e, lk, hcd, hd, _⟩ := Fsentence_text.ex
    obtain ⟨_, rfl⟩ | ⟨z, _⟩ := hd
    rotate_left
    · exact absurd rfl z
    rw [e]
    exact kb_of fun a b => rfl
  have KB2 : KBinds K xread_sentence ["places", "text"] ["text", "places"] kwU kwV := by
    obtain ⟨oc, od, dV, kV, doc, pm, an, cdv, ct, osl, e, lk, hcd, hd, _⟩ := Fread_sentence.ex
    obtain ⟨_, rfl⟩ | ⟨z, _⟩ := hd
    rotate_left
    · exact absurd rfl z
    rw [e]
    exact kb_of fun a b => rfl
  have bl := FunD.bindsA (ps := ["script"]) Flaw fun _ _ _ _ _ _ us hl => match us, hl with | [_], _ => rfl
  refine ⟨xlaw, [He.cT K ("_law_read_right", none), He.cT K ("law", none)], spLaw K [((He.cT K ("_law_read_right", none)).2, Str.ofString "_law_read_right.<locals>.<lambda>"), ((He.cT K ("law", none)).2, Str.ofString "law.<locals>.<lambda>")], ?_, ?_, ?_, fun s u => bl s [u] rfl, ?_, ?_⟩
  · intro p hp
    simp only [List.mem_cons, List.not_mem_nil, or_false] at hp
    rcases hp with rfl | rfl
    · exact c.empty _ (by simp [tf])
    · exact c.empty _ (by simp [tf])
  · intro p hp
    simp only [List.mem_cons, List.not_mem_nil, or_false] at hp
    rcases hp with rfl | rfl
    · exact c.out _ (by simp [tf])
    · exact c.out _ (by simp [tf])
  · intro p hp
    simp only [List.mem_cons, List.not_mem_nil, or_false] at hp
    rcases hp with rfl | rfl
    · exact PySem.W.codeHd_of_K X (c.hd _ (by simp [tf]))
    · exact PySem.W.codeHd_of_K X (c.hd _ (by simp [tf]))
  · intro H a ns hl _ hH hS
    refine ⟨a, ns, rfl, hS, by omega, fun p hp => ?_, fun _ => rfl⟩
    simp only [List.mem_cons, List.not_mem_nil, or_false] at hp
    rcases hp with rfl | rfl
    · exact TabS.nil (hH _ (by simp))
    · exact TabS.nil (hH _ (by simp))
  · intro base _ _ hT
    have TB1 := hT (He.cT K ("_law_read_right", none)) (by simp)
    have TB2 := hT (He.cT K ("law", none)) (by simp)
    have Gn := ok_is_number (P := LW.prog) (w := w) (base := base) Fis_number Z
    have Gb := ok_is_between Fis_between Gn Mis_number
    have Gr := ok_sentence_right Fsentence_right Z PD Gb Mis_between Msentence_right 8
    have Gns := ok_need_sentence Fneed_sentence g8 Gr Msentence_right XS
    have Gnp := ok_need_place_count Fneed_place_count g6 Gb Mis_between XP
    have Gwo := ok_words_of (P := LW.prog) (w := w) (base := base) Fwords_of Z Mwords_of 8
    have Gst := ok_sentence_text Fsentence_text Gnp Mneed_place_count Gns Mneed_sentence Gwo Mwords_of
    have Gnd := ok_need_digit (P := LW.prog) (w := w) (base := base) Fneed_digit Z XT
    have Grp := ok_read_part Fread_part Z PD XT Gnd Mneed_digit Mread_part 8
    have Grs := ok_read_sentence Fread_sentence Z XT g8 Gnp Mneed_place_count Grp Mread_part
    have Gbl := ok_blended (T := [((He.cT K ("_law_read_right", none)).2, Str.ofString "_law_read_right.<locals>.<lambda>"), ((He.cT K ("law", none)).2, Str.ofString "law.<locals>.<lambda>")]) (P := LW.prog) (w := w) (base := base) F_law_blended Z
    have Gdr := ok_draw F_law_draw Z Gbl M_law_blended
    have Gpi := ok_pick F_law_pick Z Gdr M_law_draw
    have Gbe := ok_begun (P := LW.prog) (w := w) (base := base) F_law_begun Z
    have Gwh := ok_is_whole (P := LW.prog) (w := w) (base := base) F_law_is_whole Z
    have Gsa := ok_said F_law_said Z Gdr M_law_draw M_law_said 8
    have Gde := ok_deep F_law_deep Z Gdr M_law_draw M_law_deep 9
    have Glw := ok_lwords (P := LW.prog) (w := w) (base := base) F_law_words Z M_law_words 9
    have Glp := ok_lpart F_law_part Z Gwh M_law_is_whole M_law_part 8
    have Glr := ok_lread F_law_read Z Gwh M_law_is_whole Glp M_law_part
    have Gbn := ok_bent F_law_bent Z Gdr M_law_draw Gpi M_law_pick
    have Grr := ok_rright (T := [((He.cT K ("_law_read_right", none)).2, Str.ofString "_law_read_right.<locals>.<lambda>"), ((He.cT K ("law", none)).2, Str.ofString "law.<locals>.<lambda>")]) Fc Z XF Gwh M_law_is_whole Glr M_law_read Grs Mread_sentence F_law_caught M_law_caught TB1 (by simp) (fun p hp e => by
      simp only [List.mem_cons, List.not_mem_nil, or_false] at hp
      rcases hp with rfl | rfl
      · rfl
      · exact absurd e.symm hne)
    exact ok_law Fl Z XF F_law_caught M_law_caught TB2 (by simp) (fun p hp e => by
      simp only [List.mem_cons, List.not_mem_nil, or_false] at hp
      rcases hp with rfl | rfl
      · exact absurd e hne
      · rfl) Gbe M_law_begun Gdr M_law_draw Gsa M_law_said Gde M_law_deep Glw M_law_words Glr M_law_read Grr M_law_read_right Gbn M_law_bent Gst Msentence_text KB1 Grs Mread_sentence KB2
end K14
open PySem PySem.W PyProof.Rows
set_option maxHeartbeats 0 in
theorem PySem.Challenge.cw_coverbut_k14_texts_of_sentences_holds : PySem.Challenge.rw_coverbut_k14_texts_of_sentences.Holds := by
  w_on; o_law; k_head; (case hw => w_witness2)
  k_fill
  refine LamX.walk_ofTsE (l := PySem.Challenge.rw_coverbut_k14_texts_of_sentences) (n := 63) (k := 19) (x := "script") (CX := fun w => L2.CX PySem.Challenge.pw_coverbut_k14_texts_of_sentences w) rfl (by decide) rfl ⟨rfl, by decide, by decide⟩ ?F ?C
  case C =>
    intro w H s e s' z
    obtain ⟨_, _, _, _, _, _, _, _, _, _, _, _, z⟩ := z
    exact z.elim
  case F =>
    intro w mg fa h Y G hmg
    have KX := PySem.W.km_in_of Y
    have KT := PySem.W.km_tabs_of Y
    refine ⟨_, KX, K14.lawAt KX G ⟨?t, ?more, ?two, ?hd, ?out, ?empty⟩ hmg⟩
    case t =>
      show He.obsT _ _ _ _ = He.valT _ _ _
      kernel_rfl
    case two => kernel_rfl
    case more => kernel_rfl
    case hd =>
      refine List.all_eq_true.mp ?_
      kernel_rfl
    case out => 
      intro p hp
      simp only [K14.tf, List.mem_cons, List.not_mem_nil, or_false] at hp
      rcases hp with rfl | rfl
      · kernel_rfl
      · kernel_rfl
    case empty =>
      intro p hp
      refine KT _ ?_
      simp only [K14.tf, List.mem_cons, List.not_mem_nil, or_false] at hp
      rcases hp with rfl | rfl
      · exact List.elem_iff.mp (by kernel_rfl)
      · exact List.elem_iff.mp (by kernel_rfl)
