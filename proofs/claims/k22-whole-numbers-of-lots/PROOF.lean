import PyProof.Rows.All
import Wide.All
import OpenK.AllK
import Wide.FinOn
import KE.KExcSuper
import HandS.ForMost
import HandS.Exc
import HandS.WordsExc
import KE.KIsAll
import KE.KTryMore
import HandS.ExcIs
import HandS.ExcField
import HandS.ExcValue
import HandS.TryOnly
import HandS.IsInst
import HandS.Lambda
import HandS.Flow
import HandS.Style
import HandS.Wide
import HandS.CallSlots
import HandS.Defaults
import HandS.TupAny
import HandS.Conv
import HandS.WrittenGet
import HandS.Deep
import HandS.Zip
import HandS.Star
import HandS.Walk
import PySem.Challenge.RW_coverbut_k22_whole_numbers_of_lots
import HandS.DictComp
import HandS.SortOrd
import HandS.SortRule
import HandS.TupSets
import HandS.OwnEq
import PyProof.InstNe
import HandS.Property
import PyProof.Draws
import PyProof.EnumMake
import KE.GoesMore
import KE.KTupSum
import HandS.HeadHook4
import HandS.HeadWalk
import HandS.Head0
import HandS.Head1
import HandS.Head2
import HandS.NestedK
set_option Elab.async false
set_option linter.all false
set_option maxRecDepth 100000
set_option maxHeartbeats 4000000
set_option exponentiation.threshold 2000
/-! C1: an own exception class whose __init__ (its own or a base's) says super().__init__('..') and stores one field. -/
namespace PySem
namespace SupX
open PySem.W PySem.Calls PyProof.Rows PySem.HandSPX
/-! ### the text of __init__ -/
def iA (fld : Str) (p1 p2 : Pos) : Arguments := { posonlyargs := [], args := [{ arg := "self", annotation := none, pos := p1 }, { arg := fld, annotation := none, pos := p2 }], vararg := none, kwonlyargs := [], kw_defaults := [], kwarg := none, defaults := [] }
def iB (fld msg : Str) (a1 a2 a3 a4 a5 a6 q1 q2 q3 q4 : Pos) : List Stmt :=
  [.Expr (.Call (.Attribute (.Call (.Name "super" a1) [] [] a2) "__init__" a3) [.Constant (.str msg) 0 a4] [] a5) a6, .Assign [.Attribute (.Name "self" q1) fld q2] (.Name fld q3) q4]
def iS (fld : Str) : Scope := { kind := .function, names := [("self", .local), (fld, .local), ("__class__", .free), ("super", .globalImplicit)], isGenerator := false, isCoroutine := false, more := [] }
/-- the call super().__init__(msg) is read in the plain way (its row stands on one line) -/
def Plain (msg : Str) (a1 a2 a3 a4 a5 : Pos) : Prop := ∃ pl : Env → Sem Bool, ∀ env : Env, eval (.Call (.Attribute (.Call (.Name "super" a1) [] [] a2) "__init__" a3) [.Constant (.str msg) 0 a4] [] a5) env = (do
      let ov ← attributeBase (.Call (.Name "super" a1) [] [] a2) "__init__" env (eval (.Call (.Name "super" a1) [] [] a2) env)
      standAt a3.atName
      let (f, first) ← holding [ov] (getMethod ov "__init__" (pl env))
      callWith a5 f first (backTo a5 (starEach [.Constant (.str msg) 0 a4] env)) [])
/-- the class x at C, its __init__ the def at fI of its base (or itself) at D, the field fld -/
structure SupTxt (P : Program) (K : Frag) (mg : Str → Option Value) (x : Str) (C D fI : Addr) (fld : Str) : Prop where
  gC : mg x = some (.ref C)
  cls : ∃ nm q N bs bm sn sub ab col dd k0 k1 k2 k3 k5, K.lookup C = some (excClassObj nm q C N bs bm true sn sub ab col dd k0 k1 k2 k3 k5 "ValueError.__new__") ∧ refsVE bm = true
  sup : ks_superIn K C D "__init__" = some (some (.builtin "ValueError.__init__"))
  dcl : (clsIn K D).isSome = true
  sa : findIn K (.ref C) "__setattr__" = some (some (.builtin "object.__setattr__"))
  ga : findIn K (.ref C) "__getattribute__" = some (some (.builtin "BaseException.__getattribute__"))
  gg : findIn K (.ref C) "__getattr__" = some none
  noN : findIn K (.ref C) fld = some none
  iC : findIn K (.ref C) "__init__" = some (some (.ref fI))
  tI : typeIn K (.ref fI) = some (.type "function")
  kC : keepIn K (.ref C) = true
  exC : subIn K (.ref C) (.type "BaseException") = some true
  exV : subIn K (.ref C) (.type "ValueError") = some true
  mrD : mroIn K C (.ref D) = some true
  tyC : typeIn K (.ref C) = some (.type "type")
  hdC : hasDictIn K C = true
  opq : nsIn K cStatics "thirdparty.any" = some none
  zs : mg "super" = none
  top : (P.main.scope.names.lookup ("super" : Str)).isSome = false
  nself : fld ≠ "self"
  ncls : fld ≠ "__class__"
  nsup : fld ≠ "super"
  ndbg : (fld == ("__debug__" : Str)) = false
  bnd : ∀ (qual : Str) (body : List Stmt) (doc pm : Value) (an : Option Addr) (cdv : Value) (cc : Addr) (ct : Value) (p1 p2 : Pos) (a b : Value),
    bindArgs (fnX "__init__" qual (iA fld p1 p2) body (iS fld) [((Str.ofString "__class__"), cc)] .none .none doc pm an cdv ct) ⟨[a, b], []⟩ = pure [((Str.ofString "self"), a), (fld, b)]
  fn : ∃ (qual msg : Str) (oc : Value) (od : Option Addr) (doc pm : Value) (an : Option Addr) (cda cc : Addr) (ct : Value) (osl : Array (Option Value)) (p1 p2 a1 a2 a3 a4 a5 a6 q1 q2 q3 q4 : Pos),
    K.lookup fI = some ⟨oc, od, .func (fnX "__init__" qual (iA fld p1 p2) (iB fld msg a1 a2 a3 a4 a5 a6 q1 q2 q3 q4) (iS fld) [("__class__", cc)] .none .none doc pm an (.ref cda) ct), osl⟩ ∧ codeIn K (.ref cda) qual = true ∧
    (∃ cl cld csl, K.lookup cc = some ⟨cl, cld, .cell (some (.ref D)), csl⟩) ∧
    (∃ ccl cdd ccs vs file tf, K.lookup cda = some ⟨ccl, cdd, .fields vs, ccs⟩ ∧ vs[2]? = some (.str file tf) ∧ ((P.main.file : Str) == file) = true) ∧ Plain msg a1 a2 a3 a4 a5
/-- what __init__ leaves of a fresh exception at x -/
structure InitEnd (h h' : Heap) (x C dx : Addr) (fld : Str) (v : Value) : Prop where
  keep : ∀ b o, b ≠ x → h.get? b = some o → h'.get? b = some o
  obj : ∃ t1, h'.get? x = some { cls := .ref C, dict := some dx, data := .fields #[.ref t1, .none, .none, .none, .bool false, .none] }
  dbig : h.objs.size ≤ dx
  dne : dx ≠ x
  ns : h'.Ns1 dx (fun y => if y = fld then some v else none)
/-- a made exception -/
structure OwnMade (h h' : Heap) (e C d : Addr) (fld : Str) (v : Value) : Prop where
  keep : ∀ b o, h.get? b = some o → h'.get? b = some o
  new : h.objs.size ≤ e
  obj : ∃ oe vs, h'.get? e = some oe ∧ oe.cls = .ref C ∧ oe.dict = some d ∧ oe.data = .fields vs ∧ vs[1]? = some .none
  dbig : h.objs.size ≤ d
  dne : d ≠ e
  ns : h'.Ns1 d (fun y => if y = fld then some v else none)
theorem one_size (v : Value) : [v].length ≤ sizeLine := by
  rw [sizeLine_eq]
  exact (by decide : 1 ≤ 16777216)
section
variable {prog : Program} {w : World} {M : Model} {A : Around} {E : Value → Shared → Prop}
/-- the method-wrapper called: the args are laid anew -/
theorem call_mw {h : Heap} {g : Array GenState} {d : Drawn} {t : Nat} {os : OsState} {nm q : Str} {C N : Addr} {bs bm : List Value} {hdct : Bool} {sn : List Str} {sub : List Value} {ab : Bool} {col : Option Bool} {dd : Option Addr} {k0 k1 k2 k3 k5 : Option Value}
    {u e t0 : Addr} {rest : List Value} {Q : Value → Shared → Prop}
    (hC : h.get? C = some (excClassObj nm q C N bs bm hdct sn sub ab col dd k0 k1 k2 k3 k5 "ValueError.__new__")) (he : h.get? e = some (excO C t0)) (hu : h.get? u = some (kxs_mw "ValueError.__init__" e)) (hrest : rest.length ≤ sizeLine)
    (hq : ∀ h' t1, (∀ b o, b ≠ e → h.get? b = some o → h'.get? b = some o) → h'.get? e = some (excO C t1) → Q .none ⟨h', g, d, t, os⟩) :
    wpAny (model prog w) A (call (.ref u) rest) Q E ⟨h, g, d, t, os⟩ := by
  refine wpAny_call (codeAny_of_tree ?_)
  show wpAny _ A.in1 (callAny (.ref u) ⟨rest, []⟩) _ _ _
  simp only [callAny]
  refine wpAny_bind (wpAny_load hu ?_)
  simp only [kxs_mw, show (Value.type "method-wrapper" == Value.type "method" || Value.type "method-wrapper" == Value.type "builtin_function_or_method" || Value.type "method-wrapper" == Value.type "method-wrapper") = true by decide, if_true]
  refine KFB.if_so (by decide) ?_
  refine wpAny_bind (check_bound_init F.excBase_ValueError.toExcCallFacts hC he rfl ?_)
  refine wpAny_bind (wpAny_pure (wpAny_pure ?_))
  refine ⟨plainId_quiet F.excBase_ValueError.init.plain _, codeAny_builtin F.excBase_ValueError.initEntry ?_⟩
  exact exc_init_tree (cls := .ref C) (t0 := t0) (dv := none) (c2 := .none) (c3 := .none) (b4 := .bool false) he hrest fun h' k e' _ => hq h' _ k e'
end
theorem kept_but {K : Frag} {h h' : Heap} {x : Addr} (X : K.In h) (hx : K.lookup x = none) (k : ∀ b o, b ≠ x → h.get? b = some o → h'.get? b = some o) : K.In h' := fun a o e =>
  k a o (fun z => by rw [z, hx] at e; cases e) (X a o e)
theorem ldC {M : Model} {s : Shared} {env : Env} {A : Around} {E : Value → Shared → Prop} {m : Str → Option Value} {x : Str} {pos : Pos} {v : Value} {Q : Value → Shared → Prop} (hn : s.heap.Ns env.locals m) (hv : m x = some v) (h : Q v s)
    (hk : env.scope.kind = .function) (hl : env.kindOf x = some .local) (hd : (x == ("__debug__" : Str)) = false) :
    wpAny M A (eval (.Name x pos) env) Q E s := wpAny_Name (wpAny_loadName_local hk hl hn hv h) hd
section
variable {prog : Program} {w : World} {A : Around} {R : Result → Shared → Prop} {s : Shared} {K : Frag} {mg : Str → Option Value} {x : Str} {C D fI : Addr} {fld : Str}
theorem sup_init (T : SupTxt prog K mg x C D fI fld) {e t0 : Addr} {v : Value} (X : K.In s.heap) (G : s.heap.Ns mainGlobals mg) (B : ∃ mb, s.heap.Ns builtinsNs mb ∧ ∀ x : Str, x ≠ "__name__" → mb x = bootBuiltins x) (hlim : s.heap.NoLimit) (hx : s.heap.get? e = some (excO C t0)) (hnx : K.lookup e = none) (hroom : A.depth < recursionLimit)
    (hq : ∀ h' tk dx, InitEnd s.heap h' e C dx fld v → R (.ok (.ret .none)) { s with heap := h', toks := tk }) :
    codeAny (model prog w) A (.call (.ref fI) ⟨[.ref e, v], []⟩) R s := by
  obtain ⟨qual, msg, oc, od, doc, pm, an, cda, cc, ct, osl, p1, p2, a1, a2, a3, a4, a5, a6, q1, q2, q3, q4, ho, hcd, ⟨cl, cld, csl, hcc⟩, ⟨ccl, cdd, ccs, vs, file, tf, hcda, hvs, hfile⟩, ⟨pl, hpl⟩⟩ := T.fn
  obtain ⟨nm, q, N, bs, bm, sn, sub, ab, col, dd, k0, k1, k2, k3, k5, hC, hbm⟩ := T.cls
  have hcl : clsIn K C = some { name := nm, bases := bs, mro := .ref C :: bm, ns := N, qualname := q, hasDict := true, slotNames := sn, subclasses := sub, abstract := ab, collection := col, hasDel := false } := by unfold clsIn; rw [hC] <;> rfl
  have nsf : ((fld : Str) == ("self" : Str)) = false := by simpa using T.nself
  have nsf' : (("self" : Str) == fld) = false := by simpa using (Ne.symm T.nself)
  have lself : (iS fld).names.lookup ("self" : Str) = some .local := by simp [iS, List.lookup]
  have lfld : (iS fld).names.lookup fld = some .local := by simp [iS, List.lookup, nsf]
  have ncf : (("__class__" : Str) == fld) = false := by simpa using (Ne.symm T.ncls)
  have nuf : (("super" : Str) == fld) = false := by simpa using (Ne.symm T.nsup)
  have lcls : (iS fld).names.lookup ("__class__" : Str) = some .free := by
    have z : (("__class__" : Str) == ("self" : Str)) = false := by decide
    simp [iS, List.lookup, ncf, z]
  have lsup : (iS fld).names.lookup ("super" : Str) = some .globalImplicit := by
    have z : (("super" : Str) == ("self" : Str)) = false := by decide
    have z2 : (("super" : Str) == ("__class__" : Str)) = false := by decide
    simp [iS, List.lookup, nuf, z, z2]
  obtain ⟨cdD, hD⟩ := Option.isSome_iff_exists.mp T.dcl
  obtain ⟨oD, hD1, hD2⟩ : ∃ oD, K.lookup D = some oD ∧ oD.data = .cls cdD := by
    unfold clsIn at hD
    split at hD
    · rename_i c d cd' sl ho
      cases hD
      exact ⟨_, ho, rfl⟩
    · cases hD
  obtain ⟨mb, hb1, hb2⟩ := B
  have exlt : e < s.heap.objs.size := Heap.lt_size hx
  refine ks_codeAny_call_defAt (fd := fnX "__init__" qual (iA fld p1 p2) (iB fld msg a1 a2 a3 a4 a5 a6 q1 q2 q3 q4) (iS fld) [("__class__", cc)] .none .none doc pm an (.ref cda) ct) (body := iB fld msg a1 a2 a3 a4 a5 a6 q1 q2 q3 q4) (binds := [("self", .ref e), (fld, v)])
    hroom (X _ _ ho) rfl hlim (codeRec_of X hcd) rfl (BindsTo.of_eq ?_) ?_ ?_ (fun h₁ hns hk₁ => ?_) rfl rfl rfl
  · exact T.bnd _ _ _ _ _ _ _ _ _ _ _ _
  · intro y hy
    rcases List.mem_cons.mp hy with rfl | hy
    · exact fun z => nomatch z
    rcases List.mem_cons.mp hy with rfl | hy
    · exact fun z => nomatch z
    rcases List.mem_cons.mp hy with rfl | hy
    · exact fun z => nomatch z
    obtain rfl := List.mem_singleton.mp hy
    exact fun z => nomatch z
  · intro y hy
    rcases List.mem_cons.mp hy with rfl | hy
    · exact lself
    · obtain rfl := List.mem_singleton.mp hy
      exact lfld
  · have ms : (([((Str.ofString "self" : Str), Value.ref e), (fld, v)] : List (Str × Value)).reverse.lookup (Str.ofString "self")) = some (Value.ref e) := by
      show ([(fld, v), ((Str.ofString "self" : Str), Value.ref e)] : List (Str × Value)).lookup (Str.ofString "self") = some (Value.ref e)
      simp [List.lookup, nsf']
    have mf : (([((Str.ofString "self" : Str), Value.ref e), (fld, v)] : List (Str × Value)).reverse.lookup fld) = some v := by
      show ([(fld, v), ((Str.ofString "self" : Str), Value.ref e)] : List (Str × Value)).lookup fld = some v
      simp [List.lookup]
    have X₁ : K.In h₁ := X.keeps hk₁
    have hxL : s.heap.objs.size ≠ e := Nat.ne_of_gt exlt
    -- super().__init__('..')
    show wpAt _ _ _ (execs (iB fld msg a1 a2 a3 a4 a5 a6 q1 q2 q3 q4) _) _ _ _
    refine ks_wpAt_execs_cons (ks_wpAt_Expr_any (ks_wpAt_MethodCall (pl := pl _) ?_ (hpl _)) (by rfl) (by rfl))
    refine ks_wpAt_super_base (f := fI) (cc := cda) (ar := { arg := "self", annotation := none, pos := p1 }) lsup lcls (by decide) rfl (X₁ _ _ ho) rfl rfl rfl (X₁ _ _ hcda) rfl hvs hfile T.top ?_
    refine ks_loadName_global rfl lsup (loadGlobal_builtin (G.keeps hk₁) T.zs (hb1.keeps hk₁) ((hb2 "super" (by decide)).trans PyProof.Rows.Boot.«super») ⟨rfl, ?_⟩)
    refine wpAny_loadName_free rfl lcls rfl ⟨_, X₁ _ _ hcc, rfl⟩ ?_
    refine wpAny_loadName_local rfl lself hns ms ?_
    refine ks_wpAny_isType_cls (X₁ _ _ hD1) hD2 ⟨rfl, ?_⟩
    have hx₁ := hk₁ _ _ hx
    refine ks_wpAny_call_super (X₁ _ _ hD1) hD2 hx₁ rfl (fun c z => by cases z) (looks_mroIn X₁ T.mrD) (fun h₂ hso k₂ => ?_)
    have X₂ : K.In h₂ := X₁.keeps k₂
    have hx₂ := k₂ _ _ hx₁
    have hm : ks_superIn K C D "__init__" = some (some (.builtin "ValueError.__init__")) := T.sup
    unfold ks_superIn at hm
    rw [hcl] at hm
    have hI : Looks (model prog w) h₂ (isInstance (.ref e) (.type "ValueError")) true := (InstAt.mk (od := none) hx₂ rfl rfl trivial : InstAt h₂ e _ C none).type.andThen (looks_subIn X₂ T.exV)
    have eC : e ≠ C := fun z => by
      rw [z] at hx
      have y := X _ _ hC
      rw [hx] at y
      cases y
    refine kxs_getMethod kxs_ValueError hso (looks_opaque X₂ T.opq) (l₀ := .ref C :: bm) ?_ rfl X₂ hm hI eC rfl ?_
    · exact fun A Q E s k q => wpAny_bind ((looks_clsIn X₂ hcl) A _ E s k (wpAny_pure q))
    · -- the wrapper is called
      have k₃ : ∀ b o, h₂.get? b = some o → (h₂.push (kxs_mw "ValueError.__init__" e)).get? b = some o := fun b o z => Heap.get?_push_of_some _ z
      refine kxs_callWith (i := "ValueError.__init__") (u := h₂.objs.size) (x := e) rfl ?_
      refine evalArgs_plain ?_
      refine Calls.spliced_cons ?_
      show wpAny _ _ (eval (.Constant (.str msg) 0 a4) _) _ _ _
      refine Constant_str (pos := a4) ?_
      refine Calls.spliced_nil ⟨Heap.get?_push_size _ rfl, ?_⟩
      refine call_mw (k₃ _ _ (X₂ _ _ hC)) (k₃ _ _ hx₂) (Heap.get?_push_size _ rfl) (one_size _) (fun h₄ t1 k₄ hx₄ => ?_)
      -- self.fld = fld
      have k₀ : ∀ b o, b ≠ e → s.heap.get? b = some o → h₄.get? b = some o := fun b o hb z => k₄ b o hb (k₃ _ _ (k₂ _ _ (hk₁ _ _ z)))
      have X₄ : K.In h₄ := kept_but X hnx k₀
      have ns₄ : h₄.Ns s.heap.objs.size (fun y => ([((Str.ofString "self" : Str), Value.ref e), (fld, v)] : List (Str × Value)).reverse.lookup y) := by
        obtain ⟨o, es, ep, ho', r⟩ := hns
        exact ⟨o, es, ep, k₄ _ _ hxL (k₃ _ _ (k₂ _ _ ho')), r⟩
      show wpAt _ _ _ (execs [.Assign [.Attribute (.Name "self" q1) fld q2] (.Name fld q3) q4] _) _ _ _
      refine ks_wpAt_execs_cons (ks_wpAt_Assign_Attr (wpAt_of_wpAny ?_) (by rfl))
      refine ldC (v := v) ns₄ mf ?_ rfl lfld T.ndbg
      refine ldC (v := .ref e) ns₄ ms ?_ rfl lself (by decide)
      refine set_plain X₄ (ox := excO C t1) (od := none) ⟨hx₄, rfl, rfl, trivial⟩ T.sa ?_
      refine exc_osa X₄ hx₄ hcl (show refsVE (.ref C :: bm) = true from hbm) rfl T.noN (fun h₅ tk₅ dx k₅ dn dne hx₅ hn₅ => ?_)
      refine wpAt_of_wpAny ?_
      show wpAny _ _ (execs [] _) _ _ _
      have z : s.heap.objs.size < h₄.objs.size := by
        obtain ⟨o, es, ep, ho', r⟩ := ns₄
        exact Heap.lt_size ho'
      exact wpAny_execs_nil (hq h₅ tk₅ dx ⟨fun b o hb y => k₅ b o hb (k₀ b o hb y), ⟨t1, hx₅⟩, Nat.le_of_lt (Nat.lt_of_lt_of_le z dn), dne, hn₅⟩)
theorem sup_made (T : SupTxt prog K mg x C D fI fld) {v : Value} (X : K.In s.heap) (G : s.heap.Ns mainGlobals mg) (B : ∃ mb, s.heap.Ns builtinsNs mb ∧ ∀ x : Str, x ≠ "__name__" → mb x = bootBuiltins x) (hlim : s.heap.NoLimit) (hroom : A.depth + 1 < recursionLimit)
    (hq : ∀ h' tk e d, OwnMade s.heap h' e C d fld v → R (.ok (.ret (.ref e))) { s with heap := h', toks := tk }) :
    codeAny (model prog w) A (.call (.ref C) ⟨[v], []⟩) R s := by
  obtain ⟨nm, q, N, bs, bm, sn, sub, ab, col, dd, k0, k1, k2, k3, k5, hC, hbm⟩ := T.cls
  obtain ⟨hp, g, dr, tk, os⟩ := s
  have k : ∀ b o, hp.get? b = some o → ((hp.push (kdv_tup [v])).push (excO C hp.objs.size)).get? b = some o := fun b o e => Heap.get?_push_of_some _ (Heap.get?_push_of_some _ e)
  have hget : ((hp.push (kdv_tup [v])).push (excO C hp.objs.size)).get? (hp.objs.size + 1) = some (excO C hp.objs.size) := by heap_get
  have hnx : K.lookup (hp.objs.size + 1) = none := by
    cases e : K.lookup (hp.objs.size + 1) with
    | none => rfl
    | some o =>
      have z : hp.get? (hp.objs.size + 1) = some o := X _ _ e
      exact absurd (Nat.lt_of_succ_lt (Heap.lt_size z)) (Nat.lt_irrefl _)
  refine call_own F.excBase_ValueError (fun X => refsVE_contains X bm hbm) (X _ _ hC) (looks_findIn X T.iC) (fun self => bind_fn X self T.tI) (one_size v) ?_
  refine sup_init (s := ⟨(hp.push (kdv_tup [v])).push (excO C hp.objs.size), g, dr, tk, os⟩) T (X.keeps k) (G.keeps k) (let ⟨mb, b1, b2⟩ := B; ⟨mb, b1.keeps k, b2⟩) (hlim.keeps k) hget hnx ?_ fun h' tk' dx ⟨k', ⟨t1, hx⟩, dn, dne, hns⟩ => ?_
  · show A.depth + 1 < recursionLimit
    exact hroom
  · have old : ∀ b o, hp.get? b = some o → h'.get? b = some o := fun b o e => k' b o (Nat.ne_of_lt (Nat.lt_succ_of_lt (Heap.lt_size e))) (k b o e)
    have z : hp.objs.size + 1 + 1 ≤ dx := by
      first
        | (simpa only [Heap.size_push] using dn)
        | exact dn
        | (have q := dn; rw [Heap.size_push, Heap.size_push] at q; exact q)
    exact ⟨rfl, hq h' tk' (hp.objs.size + 1) dx ⟨old, Nat.le_succ _, ⟨_, _, hx, rfl, rfl, rfl, rfl⟩, Nat.le_trans (Nat.le_trans (Nat.le_succ _) (Nat.le_succ _)) z, dne, hns⟩⟩
end
end SupX
end PySem
/-! C2: such an exception raised; an exception caught and kept as a value; isinstance of it, its fields. -/
namespace PySem.W
open PySem PySem.Spec PySem.Calls PyProof.Rows
section
variable {prog : Program} {w : World} {A : Around} {E : Value → Shared → Prop} {s : Shared} {K : Frag} {x D : Addr} {ox : Obj} {od : Option Obj}
theorem findObj_dataD {C : Addr} {name : Str} {a g : Value} (hc : (clsIn K C).isSome = true) (ha : findIn K (.ref C) name = some (some a)) (hg : specialIn K a "__get__" = some (some g)) (ht : takesIn K a = some true) : findObj K C od name = some (.bind g a) := by
  obtain ⟨cd, hc⟩ := Option.isSome_iff_exists.mp hc
  unfold findObj
  rw [hc, Option.bind_some, ha, Option.bind_some]
  simp [hg, ht]
theorem kin_classD {Q : Option Value → Shared → Prop} (hga : findIn K (.ref D) "__getattribute__" = some (some (.builtin "BaseException.__getattribute__"))) (hgt : findIn K (.ref D) "__getattr__" = some none) (hsub : subIn K (.ref D) (.type "BaseException") = some true)
    (hdct : hasDictIn K D = true) (ha : findIn K (.ref D) "__class__" = some (some (.builtin "object.__class__")))
    (hn : specialIn K (.builtin "object.__class__") "__get__" = some (some (.builtin "getset_descriptor.__get__"))) (htk : takesIn K (.builtin "object.__class__") = some true) (hm : mroIn K D (.type "object") = some true)
    (X : K.In s.heap) (I : InstAt s.heap x ox D od) (h : Q (some (.ref D)) { s with toks := s.toks + 1 }) : wpAny (model prog w) A (getAttr? (.ref x) "__class__") Q E s := by
  have hf : findObj K D od "__class__" = some (.bind (.builtin "getset_descriptor.__get__") (.builtin "object.__class__")) := findObj_dataD (by obtain ⟨cd, hc, _⟩ := any_some hdct; rw [hc]; rfl) ha hn htk
  obtain ⟨hp, g, d, t, os⟩ := s
  have L0 := I.type (M := model prog w)
  have L1 := looks_findIn (M := model prog w) X hga
  have L2 := looks_findIn (M := model prog w) X hgt
  have L3 := looks_find (M := model prog w) X I hf
  have sub : Looks (model prog w) hp (isInstance (.ref x) (.type "BaseException")) true := L0.andThen (looks_subIn X hsub)
  have hx0 : (false && onTheHeap (Value.builtin "BaseException.__getattribute__")) = false := rfl
  have hx2 : (Value.builtin "BaseException.__getattribute__" == Value.builtin "object.__getattribute__") = false := by decide +kernel
  have hx1 : (onTheHeap (Value.ref D) && Value.builtin "BaseException.__getattribute__" == Value.builtin "object.__getattribute__") = false := by rw [hx2]; rfl
  unfold getAttr? getAttrBy? getAttrBy
  refine wpAny_bind (wpAny_mkText (wpAny_bind (wpAny_attempt (wpAny_holding (wpAny_bind (L0.at (wpAny_bind (L1.at ?_))))))))
  show wpAny _ _ (if (onTheHeap (Value.ref D) && Value.builtin "BaseException.__getattribute__" == Value.builtin "object.__getattribute__") = true then _ else _) _ _ _
  rw [hx1, if_neg Bool.false_ne_true]
  unfold getAttrByItsOwn hookBefore
  refine wpAny_bind ?_
  rw [if_pos (show onTheHeap (Value.ref D) = true from rfl)]
  refine L2.at ?_
  refine wpAny_bind (wpAny_attempt (wpAny_holding ?_))
  unfold callGetattribute
  rw [hx0, if_neg Bool.false_ne_true]
  unfold boundAndCalled
  rw [PySem.F.excAttr_ValueError.ga.bind (.ref x)]
  refine wpAny_bind (wpAny_pure ?_)
  show wpAny _ _ (call (.builtin "BaseException.__getattribute__") [.ref x, .str "__class__" t]) _ _ _
  refine wpAny_call (codeAny_call_builtin PySem.F.excAttr_ValueError.ga.plain PySem.F.entry_bexc_ga ?_)
  refine @check_slot (model prog w) _ _ ⟨hp, g, d, t + 1, os⟩ "BaseException.__getattribute__" "BaseException" "__getattribute__" (.ref x) [.str "__class__" t] [] _ (by decide +kernel) (by decide +kernel) sub (PySem.F.args_bexc_ga (.ref x) (.str "__class__" t)) ?_
  unfold Builtin.«object.__getattribute__»
  refine wpAny_bind (wpAny_of_eq (a := ((Value.ref x : Value), [Value.str "__class__" t])) (by first | rfl | (simp only [slotArgs]; rfl)) ?_)
  refine wpAny_bind (wpAny_pure (wpAny_bind (L0.at (wpAny_bind (L3.at ?_)))))
  show wpAny _ _ (holding [Value.builtin "object.__class__"] (call (.builtin "getset_descriptor.__get__") [.builtin "object.__class__", .ref x, .ref D]) >>= ret) _ _ _
  refine wpAny_bind (wpAny_holding (wpAny_call (class_get (s := ⟨hp, g, d, t + 1, os⟩) (ox := ox) (od := od) X I hm ?_)))
  refine wpAny_pure ?_
  show wpAny _ _ (handedOut (.ref D)) _ _ _
  rw [handedOut_of (v := .ref D) rfl]
  first
    | exact wpAny_pure (wpAny_pure h)
    | exact wpAny_pure h
    | exact wpAny_pure (wpAny_bind (wpAny_pure (wpAny_pure h)))
theorem kitx_excD (hga : findIn K (.ref D) "__getattribute__" = some (some (.builtin "BaseException.__getattribute__"))) (hgt : findIn K (.ref D) "__getattr__" = some none) (hsub : subIn K (.ref D) (.type "BaseException") = some true) (hdct : hasDictIn K D = true) (ha : findIn K (.ref D) "__class__" = some (some (.builtin "object.__class__")))
    (hn : specialIn K (.builtin "object.__class__") "__get__" = some (some (.builtin "getset_descriptor.__get__"))) (htk : takesIn K (.builtin "object.__class__") = some true) (hm : mroIn K D (.type "object") = some true) :
    KitX K (.ref x) (.ref D) (fun h => ∃ ox od, InstAt h x ox D od) where
  ty := fun _ _ _ ⟨_, _, I⟩ => I.type
  it := fun _ _ X _ => by
    obtain ⟨cdD, hcD, _⟩ := any_some hdct
    unfold clsIn at hcD
    split at hcD
    · rename_i c' d' cd' sl' ho
      intro A' Q' E' s' k q
      unfold isType loadHead
      exact wpAny_bind (wpAny_loadPart (k _ _ (X _ _ ho)) (wpAny_pure q))
    · cases hcD
  ne := fun h tp dd its n sl X htp => by
    obtain ⟨cdD, hcD, _⟩ := any_some hdct
    refine Bool.eq_false_iff.mpr fun q => ?_
    have e : D = tp := Value.ref.inj (beq_iff_eq.mp q)
    subst e
    unfold clsIn at hcD
    split at hcD
    · rename_i c' d' cd' sl' ho
      have z := (X _ _ ho).symm.trans htp
      cases z
    · cases hcD
  ca := fun X ⟨_, _, I⟩ k => kin_classD hga hgt hsub hdct ha hn htk hm X I k
end
end PySem.W
namespace L2
open PySem PySem.Spec PyProof.Rows
/-! ### raise X(e) -/
theorem relO_one {fld : Str} {v : V} {v' : Value} (r : RelV v v') (f : Str) : RelO (List.lookup f [((fld : Str), v)]) (if f = fld then some v' else none) := by
  by_cases hw : f = fld
  · subst hw
    rw [if_pos rfl]
    have q : List.lookup f [((f : Str), v)] = some v := by simp [List.lookup]
    rw [q]
    exact r
  · rw [if_neg hw]
    have qw : (f == fld) = false := by simpa using hw
    have q2 : List.lookup f [((fld : Str), v)] = none := by simp [List.lookup, qw]
    rw [q2]
    trivial
/-- X(e) -/
def tMkSup (C : Addr) (fld : Str) (ta : TA) : St → Hp → XK → Prop := fun σ H Q => ta σ H fun vs H1 => ∃ v, vs = [v] ∧ ∀ d, H1 d = none → Q (.ref C) (some d) (upd H1 d (.xd [(fld, v)]))
section
variable {X : Cx} {x : Str} {C D fI : Addr} {fld : Str}
theorem pmk_sup {a : Expr} {ta : TA} {p pos : Pos} {k : Nat} (T : PySem.SupX.SupTxt X.prog X.K X.mg x C D fI fld) (hr : Room (k + 1) X.A) (ha : PA X [a] ta) (hg : Gl X x)
    (hdb : (x == ("__debug__" : Str)) = false := by decide)
    (he : starEach (a :: []) X.env = (false, eval a X.env) :: starEach [] X.env := by rfl) (hpl : (backTo pos (starEach [] X.env)).any (·.1) = false := by rfl) :
    PMk X (.Call (.Name x p) [a] [] pos) (tMkSup C fld ta) := by
  intro pins s σ H Q I h
  refine wpAny_Call_Name_kw (ld_glob I hg T.gC ?_ hdb)
  refine PySem.W.callWith_K (h₀ := X.base) I.ok.mod.kin T.kC (thn (ha.run pos pins s σ H _ I h) fun us s1 hh => ?_) he hpl
  obtain ⟨vs, H1, I1, r1, v, ev, q1⟩ := hh
  subst ev
  refine ⟨I1.kIn, ?_⟩
  cases r1 with
  | cons rv rn =>
    rename_i v' us'
    cases rn
    show wpAny _ _ (call (.ref C) [v']) _ _ _
    have hlim := I1.nolimit
    have hG : s1.heap.Ns mainGlobals X.mg := I1.mod.glob.keeps I1.bk
    have hB : ∃ mb, s1.heap.Ns builtinsNs mb ∧ ∀ x : Str, x ≠ "__name__" → mb x = bootBuiltins x := let ⟨mb, h1, h2⟩ := I1.mod.blt; ⟨mb, h1.keeps I1.bk, h2⟩
    obtain ⟨hp, g, dr, tk, os⟩ := s1
    refine wpAny_call (PySem.SupX.sup_made T I1.kIn hG hB hlim (by have := hr.dp; omega) fun h' tk' e d M => ?_)
    show MkP X pins σ Q (.ref e) ⟨h', g, dr, tk', os⟩
    obtain ⟨oe, fv, hoe, hc, hd, hdat, h1⟩ := M.obj
    have hns := M.ns
    obtain ⟨G', g1, g2⟩ := restrict h' fun b => decide (b ≠ e)
    have gk : ∀ b, b ≠ e → G'.get? b = h'.get? b := fun b hb => g1 b (decide_eq_true hb)
    have ge : G'.get? e = none := g2 e (by simp)
    have old : ∀ b o, hp.get? b = some o → G'.get? b = some o := fun b o q => (gk b (Nat.ne_of_lt (Nat.lt_of_lt_of_le (Heap.lt_size q) M.new))).trans (M.keep b o q)
    have ob : ObjOk X.prog X.w (upd H1 d (.xd [((fld : Str), v)])) G' d (.xd [((fld : Str), v)]) :=
      ⟨_, hns.at (fun o q => (gk d M.dne).trans q), fun f => relO_one rv f⟩
    have J : Inv X pins σ (upd H1 d (.xd [((fld : Str), v)])) ⟨G', g, dr, tk', os⟩ := I1.laid (t' := tk') old M.dbig ob
    refine ⟨e, oe, fv, ⟨G', g, dr, tk', os⟩, _, .ref C, some d, rfl, J, fun b o q => ?_, ge, hoe, ⟨hc, hd⟩, hdat, h1, ?_, rfl, I1.bare, raises_own T.exC T.tyC, q1 d (I1.hok.fresh M.dbig)⟩
    · by_cases hb : b = e
      · have q' : G'.get? b = some o := q
        rw [hb, ge] at q'; cases q'
      · exact (gk b hb).symm.trans q
    · rw [upd_ne (Ne.symm M.dne)]
      exact I1.hok.fresh M.new
/-- raise X(e) -/
def tRaiseSup (C : Addr) (fld : Str) (W : WX) (ta : TA) : TS := fun _ σ H => tMkSup C fld ta σ H fun cls d H' => W cls d σ H'
theorem ps_raiseSup {a : Expr} {ta : TA} {W : WX} {p pos pos2 : Pos} {k : Nat} (hc : X.calm = true) (T : PySem.SupX.SupTxt X.prog X.K X.mg x C D fI fld) (hr : Room (k + 1) X.A) (tk : Takes X W) (ha : PA X [a] ta) (hg : Gl X x)
    (hdb : (x == ("__debug__" : Str)) = false := by decide)
    (he : starEach (a :: []) X.env = (false, eval a X.env) :: starEach [] X.env := by rfl) (hpl : (backTo pos (starEach [] X.env)).any (·.1) = false := by rfl) :
    PS X (.Raise (some (.Call (.Name x p) [a] [] pos)) none pos2) (tRaiseSup C fld W ta) := ps_raise hc tk (pmk_sup T hr ha hg hdb he hpl)
end
/-! ### an exception as a value -/
/-- at a: an exception (made, perhaps raised and caught) of the class cls, its dict d -/
def ExV (a : Addr) (cls : Value) (d : Option Addr) : HO := .ext fun h => ∃ (oe : Obj) (vs : Array Value), h.get? a = some oe ∧ Zc cls d oe ∧ oe.data = .fields vs
theorem exV_ok {P : Program} {w : World} {H : Hp} {h : Heap} {a : Addr} {cls : Value} {d : Option Addr} {oe : Obj} {vs : Array Value} (e : h.get? a = some oe) (z : Zc cls d oe) (hd : oe.data = .fields vs) : ObjOk P w H h a (ExV a cls d) :=
  ⟨⟨oe, vs, e, z, hd⟩, ⟨oe, e⟩, fun _ _ ⟨o, v, q, r⟩ k => ⟨o, v, k o q, r⟩⟩
section
variable {X : Cx} {pins : List (Addr × Obj)} {σ : St} {H : Hp} {s : Shared}
/-- an object of ours that nobody tracks is tracked from now on -/
theorem Inv.track {a : Addr} {o : HO} {oe : Obj} (I : Inv X pins σ H s) (ha : s.heap.get? a = some oe) (hn : H a = none) (h0 : X.s_0.heap.get? a = none) (hL : a ≠ X.env.locals) (hcl : ∀ v, oe.data ≠ .cell v) (hp : ∀ p ∈ X.pn ++ pins, p.1 ≠ a)
    (new : ObjOk X.prog X.w (upd H a o) s.heap a o) : Inv X pins σ (upd H a o) s := by
  have ne0 : ∀ b ob, X.s_0.heap.get? b = some ob → b ≠ a := fun b ob e z => by
    rw [z, h0] at e
    cases e
  refine ⟨I.ok, I.os, I.bare, ⟨I.base.keep, I.base.slot, fun b ob e n hx => ?_, I.base.there, fun b xs e => ?_, fun b ob u e => ?_, fun b ps e => ?_⟩, I.loc, I.cell, ?_, fun x c e => ?_, fun p hpp => ?_, fun b u e => ?_, I.len⟩
  · rw [upd_ne (ne0 b ob e)]
    exact I.base.free b ob e n hx
  · rw [upd_ne (ne_of_none (I.base.tups b xs e) hn)]
    exact I.base.tups b xs e
  · rw [upd_ne (ne_of_none (I.base.frzs b ob u e) hn)]
    exact I.base.frzs b ob u e
  · obtain ⟨m, q⟩ := I.base.tbls b ps e
    exact ⟨m, by rw [upd_ne (ne_of_none q hn)]; exact q⟩
  · rw [upd_ne (Ne.symm hL)]
    exact I.free
  · obtain ⟨v, oc, hoc, hdc⟩ := I.cell x c e
    have : c ≠ a := fun z => by
      rw [z, ha] at hoc
      cases hoc
      exact hcl _ hdc
    rw [upd_ne this]
    exact I.freeC x c e
  · obtain ⟨e, n, ne, nf, d⟩ := I.pin p hpp
    exact ⟨e, by rw [upd_ne (hp p hpp)]; exact n, ne, nf, d⟩
  · by_cases hb : b = a
    · subst hb
      rw [upd_same] at e
      cases e
      exact new
    · rw [upd_ne hb] at e
      exact (I.hok b u e).stay (fun c v _ q => q) (fun c q => by rw [upd_ne (ne_of_none q hn)]; exact q) fun c xs q => by rw [upd_ne (ne_of_none q hn)]; exact q
end
end L2
/-! C3: try: body / except X as n: m = n: the caught exception is kept. isinstance of an exception that is kept, its fields. -/
namespace L2
open PySem PySem.Spec PyProof.Rows
/-- what the clause 'except x as n: m = n' wishes of an exception of the body: slot i is n's, slot j m's -/
def wKept (K : PySem.W.Frag) (c : Value) (i j : Nat) (D : Ends) : WX := fun cls d σ H =>
  PySem.W.exmOne K cls c = some true ∧ ∀ a, H a = none → D.nx (((σ.set i (some (.ref a))).set j (some (.ref a))).set i none) (upd H a (ExV a cls d))
section
variable {X : Cx} {x n m : Str} {c : Value} {i j : Nat} {body : List Stmt} {np pos pos' q1 q2 q3 : Pos} {tb : WX → TS}
theorem ps_catch (hs : X.stack = X.env :: X.outer) (hf : X.env.frame = some X.env.locals) (hex : X.ex = []) (hN : X.N.Nodup) (hi : X.N[i]? = some n) (hj : X.N[j]? = some m) (hij : i ≠ j) (hln : X.env.kindOf n = some .local) (hlm : X.env.kindOf m = some .local) (hc : Names X x c)
    (hnd : (n == ("__debug__" : Str)) = false := by decide) (hncd : (n == ("__classdict__" : Str)) = false := by decide)
    (hb : ∀ (W : WX) (pn : List (Addr × Obj)) (xe : Value → Shared → Prop), Takes (X.tr pn xe) W → PassesOwn (model X.prog X.w) X.A X.env xe → PSs (X.tr pn xe) body (tb W)) :
    PS X (.Try body [.ExceptHandler (some (.Name x np)) (some n) [.Assign [.Name m q1] (.Name n q2) q3] pos'] [] [] pos) (fun D σ H => tb (wKept X.K c i j D) D σ H) := by
  refine ⟨fun pins s σ H D I h => ?_⟩
  have ok := I.ok
  have hfr : X.A.frames = some (X.env :: X.outer) := by rw [ok.frames, hs]
  have hloc : Loc X.env.scope n := .inl hln
  refine wpAny_Try_except ?_
  refine wpAny_mono ((hb (wKept X.K c i j D) (X.pn ++ pins) (fun e s₁ => wpAny (model X.prog X.w) X.A (noteFrame e X.env) (fun _ s₂ => wpAny (model X.prog X.w) X.A (setFlight e none) (fun _ s₃ =>
    wpAny (model X.prog X.w) X.A (handleBy e X.env [.ExceptHandler (some (.Name x np)) (some n) [.Assign [.Name m q1] (.Name n q2) q3] pos']) (SP X pins D) X.xe s₃) X.xe s₂) X.xe s₁) (fun u s' xx => ?_) PassesOwn.looking).run [] s σ H D (I.toTry _) h) (fun f s1 hsp => ?_) (fun e s1 he => he)
  · -- the catch
    obtain ⟨a, B, sI, pins', σ', H', cls, d, rfl, J', nb, up, sky, na, os, ag, hb1, hyes⟩ := xx
    have J : Inv X pins σ' H' sI := J'.ofTry ok
    have sky' : Sky B (X.env :: X.outer) a (Zc cls d) X.env.locals s'.heap := by rw [← hs]; exact sky
    show wpAny (model X.prog X.w) X.A (noteFrame (.ref a) X.env) _ _ _
    refine Sky.land Zc.steady hfr hf sky' fun h3 fl3 up3 => ?_
    have J3 : Inv X pins σ' H' { s' with heap := h3 } := J.landed nb fl3.1 (up.trans up3) os ag
    obtain ⟨oe3, vs3, he3, hz3, hd3⟩ := fl3.there
    have notFr : ∀ {h : Heap} {o : Obj} {vs : Array Value}, h.FunFrames B (X.env :: X.outer) → h.get? a = some o → o.data = .fields vs → a ∉ frs (X.env :: X.outer) := fun {h o vs} ff e dd hm => by
      obtain ⟨_, o', e', hnf⟩ := ff.mem hm
      rw [e] at e'; cases e'
      exact hnf _ dd
    have nfr := notFr fl3.2.2.1 he3 hd3
    have nL : a ≠ X.env.locals := fun z => nfr (List.mem_filterMap.mpr ⟨X.env, List.mem_cons_self, by rw [hf, z]⟩)
    have nF : a ∉ X.fs := fun hm => by
      obtain ⟨e, he, q⟩ := List.mem_filterMap.mp hm
      exact nfr (List.mem_filterMap.mpr ⟨e, List.mem_cons_of_mem _ he, q⟩)
    have nfs : a ∉ frs X.stack := by rw [hs]; exact nfr
    have nB : B.get? a = none := fl3.2.1
    have newI : sI.heap.get? a = none := by
      cases e : sI.heap.get? a with
      | none => rfl
      | some o =>
        have z := nb a o e nfs
        rw [nB] at z
        cases z
    have new0 : X.s_0.heap.get? a = none := by
      cases e : X.s_0.heap.get? a with
      | none => rfl
      | some o =>
        obtain ⟨o', z⟩ := J.base.there a o e (by rw [hex]; simp)
        rw [newI] at z
        cases z
    have npin : ∀ p ∈ X.pn ++ pins, p.1 ≠ a := fun p hp z => by
      have y := (J.pin p hp).1
      rw [z, newI] at y
      cases y
    have S3 := J3.suite he3 hd3 na nL nF
    refine wpAny_handleBy_cons (codeAny_handlers_test ?_) (by intro q; cases q)
    have LT : PySem.W.Looks (model X.prog X.w) h3 (typeOf (.ref a)) cls := fun A Q E s k q => wpAny_typeOf_ref (k _ _ he3) (by rw [hz3.1]; exact q)
    have LM := PySem.W.exm_one (M := model X.prog X.w) (J3.kIn) LT hb1
    have test : ∀ {Q : Value → Shared → Prop} {E : Value → Shared → Prop}, Q c { s' with heap := h3 } → wpAny (model X.prog X.w) (X.A.mark (some (.ref a))) (eval (.Name x np) X.env) Q E { s' with heap := h3 } := fun {Q E} q => by
      obtain ⟨hg, hdbg, hm | ⟨hm, hv, hnn⟩⟩ := hc
      · exact ld_glob (X := X.suite a ((a, oe3) :: (X.pn ++ pins))) S3 hg hm q hdbg
      · exact ld_blt (X := X.suite a ((a, oe3) :: (X.pn ++ pins))) S3 hg hm hv q hnn hdbg
    refine test (LM.here ?_)
    refine codeAny_handlers_suite_as ?_
    refine HandSPX.lands_againZ fl3 fun h4 fl4 up4 => ?_
    have J4 : Inv X pins σ' H' { s' with heap := h4 } := J.landed nb fl4.1 ((up.trans up3).trans up4) os ag
    obtain ⟨oe4, vs4, he4, hz4, hd4⟩ := fl4.there
    have S4 := J4.suite he4 hd4 na nL nF
    refine store_ok (X := X.suite a ((a, oe4) :: (X.pn ++ pins))) (v := .ref a) S4 hN hi hloc rfl (fun s5 S5 => ?_) (.inr hln)
    have hil : i < (σ'.set i (some (V.ref a))).length := by rw [S5.len]; exact (List.getElem?_eq_some_iff.mp hi).1
    have hsu : PSs (X.suite a ((a, oe4) :: (X.pn ++ pins))) [.Assign [.Name m q1] (.Name n q2) q3] (tAsg (tVar i) (gName j)) :=
      pss_one (ps_set (X := X.suite a ((a, oe4) :: (X.pn ++ pins))) (i := j) hN hj (.inl hlm) (pe_var hi (.inl hln) hnd hncd) (by rfl) (.inr hlm))
    refine wpAny_mono (hsu.run [] s5 _ H' { nx := fun σ6 H6 => σ6 = (σ'.set i (some (.ref a))).set j (some (.ref a)) ∧ H6 = H', rt := fun _ _ => False } S5 ?_) (fun f s6 hsp => ?_) (fun _ _ z => False.elim z)
    · refine ⟨.ref a, ?_, rfl, rfl⟩
      rw [List.length_set] at hil
      rw [List.getElem?_set_self hil]
    · cases f with
      | next =>
        obtain ⟨σ6, H6, S6, rfl, rfl⟩ := hsp
        have hpin := S6.pin (a, oe4) (List.mem_append_left _ List.mem_cons_self)
        have J6 := S6.unsuite ok
        have J7 : Inv X pins _ (upd H6 a (ExV a cls d)) s6 := J6.track hpin.1 na new0 nL (fun v z => by rw [hd4] at z; cases z) npin (exV_ok hpin.1 hz4 hd4)
        exact gone_ok J7 hN hi hln fun s7 J8 => ⟨_, _, J8, hyes a na⟩
      | brk =>
        obtain ⟨σ6, H6, S6, q6⟩ := hsp
        exact q6.elim
      | cont =>
        obtain ⟨σ6, H6, S6, q6⟩ := hsp
        exact q6.elim
      | ret u =>
        obtain ⟨v6, σ6, H6, S6, r6, q6⟩ := hsp
        exact q6.elim
  · cases f with
    | next =>
      obtain ⟨σ', H', J', q⟩ := hsp
      exact wpAny_execs_nil ⟨σ', H', J'.ofTry ok, q⟩
    | brk =>
      obtain ⟨σ', H', J', q⟩ := hsp
      exact ⟨σ', H', J'.ofTry ok, q⟩
    | cont =>
      obtain ⟨σ', H', J', q⟩ := hsp
      exact ⟨σ', H', J'.ofTry ok, q⟩
    | ret u =>
      obtain ⟨v, σ', H', J', r, q⟩ := hsp
      exact ⟨v, σ', H', J'.ofTry ok, r, q⟩
end
/-! ### isinstance of a kept exception, its fields -/
/-- isinstance(e, c), e a kept exception of the class at D -/
def rIsV (K : PySem.W.Frag) : List V → Hp → VK → Prop := fun xs H Q => ∃ (a D : Addr) (d : Option Addr) (c : V) (cv : Value) (b : Bool), xs = [.ref a, c] ∧ H a = some (ExV a (.ref D) d) ∧ (∀ o, d = some o → ∃ fs, H o = some (.xd fs)) ∧ ExcC K D ∧ ClsV c cv ∧ PySem.W.kitOne K (.ref D) cv = some b ∧ Q (.bl b) H
section
variable {X : Cx} {pins : List (Addr × Obj)} {σ : St} {H : Hp} {s : Shared}
theorem call_isV : CallR X (.builtin "isinstance") (rIsV X.K) := by
  intro pins s σ H xs us Q I r h
  obtain ⟨a, D, d, c, cv, b, rfl, ha, hd, C, k, e, q⟩ := h
  obtain ⟨u1, u2, rfl, r1, r2⟩ := vals2 r
  cases (show u1 = Value.ref a from r1)
  have e2 := k.eq r2
  subst e2
  have J : ∃ ox od, PySem.W.InstAt s.heap a ox D od := by
    obtain ⟨⟨oe, vs, ho, hz, hv⟩, _, _⟩ := I.hok a _ ha
    obtain ⟨oc, odd, oda, osl⟩ := oe
    obtain ⟨h1, h2⟩ := hz
    dsimp only at h1 h2 hv
    subst h1 h2 hv
    cases odd with
    | none => exact ⟨_, none, ho, rfl, rfl, trivial⟩
    | some dd =>
      obtain ⟨fs, hfs⟩ := hd dd rfl
      have hx : ObjOk X.prog X.w H s.heap dd (.xd fs) := I.hok dd _ hfs
      obtain ⟨mA, ⟨od, es, ep, ho2, _⟩, _⟩ := hx
      exact ⟨_, some od, ho, rfl, rfl, ho2⟩
  exact PySem.W.kia_one (PySem.W.kitx_excD C.hg C.hk C.hs C.hd C.ha C.hn C.ht C.hm) I.kIn J e (fun z => nomatch z) fun tk => ⟨.bl b, H, I.tok tk, rfl, q⟩
end
/-- e.f, e a kept exception -/
def tVf (K : PySem.W.Frag) (f : Str) (te : TE) : TE := fun σ H Q => te σ H fun x H1 => ∃ (a C dd : Addr) (fs : List (Str × V)) (v : V), x = .ref a ∧ H1 a = some (ExV a (.ref C) (some dd)) ∧ XfC K C ∧ PySem.W.findIn K (.ref C) f = some none ∧ H1 dd = some (.xd fs) ∧ fs.lookup f = some v ∧ Q v H1
theorem pe_vf {X : Cx} {e : Expr} {te : TE} {pos : Pos} {n : Str} (he : PE X e te) (hb : attributeBase e n X.env (eval e X.env) = eval e X.env := by rfl) : PE X (.Attribute e n pos) (tVf X.K n te) := by
  refine ⟨fun pins s σ H Q I h => ?_⟩
  refine attr_of hb (thn (he.run pins s σ H _ I h) fun u s1 hh => ?_)
  obtain ⟨x, H1, I1, rx, a, C, dd, fs, v, ex, ea, T, hno, ed, l, q⟩ := hh
  subst ex
  obtain rfl : u = Value.ref a := rx
  obtain ⟨⟨oe, vs, ho, hz, hv⟩, _, _⟩ := I1.hok a _ ea
  have hx : ObjOk X.prog X.w H1 s1.heap dd (.xd fs) := I1.hok dd _ ed
  obtain ⟨mA, hns, hr⟩ := hx
  obtain ⟨od, ho2, hl⟩ := lookIn_ns hns
  obtain ⟨u, hu, ru⟩ := RelO.some_of (v := v) (o := mA n) (by rw [← l]; exact hr n)
  have J : PySem.W.InstAt s1.heap a oe C (some od) := ⟨ho, hz.1, by unfold PySem.W.notCls; rw [hv] <;> rfl, by rw [hz.2]; exact ho2⟩
  exact HandSPX.exc_get I1.kIn J T.ga T.gg T.exC (PySem.W.findObj_own T.hdC hno rfl (by rw [hl, hu])) (handed_of ru) ⟨v, H1, I1.tok _, ru, q⟩
end L2
/-! C4: helpers: defs by facts, calls, what stays of a heap. -/
namespace Cov
open PySem PySem.Spec PyProof.Rows L2 LamX
/-- the names of built-ins are free at the module -/
structure Zs (mg : Str → Option Value) : Prop where
  len_ : mg "len" = none
  isinstance_ : mg "isinstance" = none
  str_ : mg "str" = none
  int_ : mg "int" = none
  bool_ : mg "bool" = none
  tuple_ : mg "tuple" = none
  list_ : mg "list" = none
  dict_ : mg "dict" = none
  all_ : mg "all" = none
  any_ : mg "any" = none
  sum_ : mg "sum" = none
  range_ : mg "range" = none
  min_ : mg "min" = none
  max_ : mg "max" = none
  abs_ : mg "abs" = none
  sorted_ : mg "sorted" = none
  enumerate_ : mg "enumerate" = none
  zip_ : mg "zip" = none
  set_ : mg "set" = none
/-- a def of the module -/
structure Dat (K : PySem.W.Frag) (mg : Str → Option Value) (x : Str) (f : Addr) (fd : FuncData) (ps : List Str) : Prop where
  g : mg x = some (.ref f)
  k : PySem.W.keepIn K (.ref f) = true
  b : Binds K fd ps []
/-- an own class of error without own __init__ -/
structure ExT (K : PySem.W.Frag) (mg : Str → Option Value) (x : Str) (C : Addr) : Prop where
  g : mg x = some (.ref C)
  q : PySem.W.excIn K C [.type "ValueError", .type "Exception", .type "BaseException", .type "object"] "ValueError.__new__" = true
  k : PySem.W.keepIn K (.ref C) = true
  b : PySem.W.subIn K (.ref C) (.type "BaseException") = some true
  t : PySem.W.typeIn K (.ref C) = some (.type "type")
section
variable {X : Cx} {k : Nat} {f : Addr} {fd : FuncData} {ps : List Str} {sp : Sp} {x : Str} {p pos : Pos} {e : Expr} {es : List Expr} {t : TA} {W : WX}
theorem pe_fn (G : FnOk X.prog X.w X.K X.mg X.base (L2.CX X.prog X.w) k f fd ps sp) (M : Dat X.K X.mg x f fd ps) (hr : Room k X.A) (ha : PA X (e :: es) t) (hg : Gl X x := by rfl)
    (hdb : (x == ("__debug__" : Str)) = false := by decide) (he : starEach (e :: es) X.env = (false, eval e X.env) :: starEach es X.env := by rfl) (hpl : (backTo pos (starEach es X.env)).any (·.1) = false := by rfl) :
    PE X (.Call (.Name x p) (e :: es) [] pos) (tCall sp [] E0 t) := pe_call G hr hg M.g M.k M.b .nil passL ha hdb he hpl
theorem pe_fx (G : FnOk X.prog X.w X.K X.mg X.base (L2.CX X.prog X.w) k f fd ps sp) (M : Dat X.K X.mg x f fd ps) (hr : Room k X.A) (tk : Takes X W) (ha : PA X (e :: es) t) (hg : Gl X x := by rfl)
    (hdb : (x == ("__debug__" : Str)) = false := by decide) (he : starEach (e :: es) X.env = (false, eval e X.env) :: starEach es X.env := by rfl) (hpl : (backTo pos (starEach es X.env)).any (·.1) = false := by rfl) :
    PE X (.Call (.Name x p) (e :: es) [] pos) (tCallS sp (WE W) t) := pe_callS G hr hg M.g M.k M.b (fun σ => passAt tk σ) ha hdb he hpl
/-- f(k = v, ..), all by name; E: what is wanted of an exception -/
theorem pe_fk0 {E : XK} {ks : List Str} {kws : List Keyword} {tk : TA} {g : List Value → List Value → List Value} {gV : List V → List V → List V}
    (F : FnOk X.prog X.w X.K X.mg X.base (L2.CX X.prog X.w) k f fd ps sp) (M : Dat X.K X.mg x f fd ps) (hb : KBinds X.K fd ps ks g gV) (hr : Room k X.A) (hx : Passes (L2.CX X.prog X.w) X E) (hkw : PK X kws tk) (hg : Gl X x := by rfl)
    (hall : (backToKw pos (keywordEach kws X.env)).all (·.1.isSome) = true := by rfl) (hks : (backToKw pos (keywordEach kws X.env)).filterMap (·.1) = ks := by rfl)
    (hdb : (x == ("__debug__" : Str)) = false := by decide) (hpl : ((backTo pos (starEach [] X.env)).any (·.1) || (backToKw pos (keywordEach kws X.env)).any (·.1.isNone)) = false := by rfl) :
    PE X (.Call (.Name x p) [] kws pos) (fun σ H Q => tk σ H fun zs H2 => sp (gV [] zs) H2 Q E) := by
  refine ⟨fun pins s σ H Q I h => ?_⟩
  refine wpAny_Call_Name_kw (ld_glob I hg M.g ?_ hdb)
  refine PySem.W.callWith_KW0 (h₀ := X.base) I.ok.mod.kin M.k hall (thn (hkw.run pos pins s σ H _ I h) fun ws s2 ⟨zs, H2, I2, rz, q2⟩ => ⟨I2.kIn, ?_⟩) hpl
  rw [hks]
  exact run_fnk F hr hb hx I2 .nil rz q2
theorem pe_globR {a : Addr} (hm : X.mg x = some (.ref a)) (hg : Gl X x := by rfl) (hd : (x == ("__debug__" : Str)) = false := by decide) : PE X (.Name x pos) (tC (.ref a)) := pe_glob hg hm rfl hd
theorem pe_globI {i : Int} {t0 : Tok} (hm : X.mg x = some (.int i t0)) (hg : Gl X x := by rfl) (hd : (x == ("__debug__" : Str)) = false := by decide) : PE X (.Name x pos) (tC (.int i)) := pe_glob hg hm ⟨_, rfl⟩ hd
/-- X('..') -/
theorem pmk_x {m : Str} {j : Nat} {C : Addr} {p2 : Pos} (T : ExT X.K X.mg x C) (hg : Gl X x := by rfl) (hdb : (x == ("__debug__" : Str)) = false := by decide) :
    PMk X (.Call (.Name x p) [.Constant (.str m) j p2] [] pos) (fun _ H Q => Q (.ref C) none H) :=
  pmk_own PySem.F.excBase_ValueError T.q T.g T.k (raises_own T.b T.t) hg hdb
end
/-! ### what stays of a heap -/
/-- all but F and the tables of code objects is as it was; tuples and the tables T hold on -/
structure Ext (T : List (Addr × Str)) (F : Addr → Prop) (H H' : Hp) : Prop where
  keep : ∀ b o, H b = some o → ¬ F b → (∀ ps, o ≠ .tbl ps) → H' b = some o
  tups : ∀ b xs, H b = some (.tup xs) → H' b = some (.tup xs)
  tabs : Tabs T H → Tabs T H'
theorem same_new {H : Hp} {p : Addr} (h : H p = none) (o : HO) : Same H (upd H p o) := fun b u q => by rw [upd_ne (ne_of_none q h)]; exact q
theorem Ext.same {T : List (Addr × Str)} {F : Addr → Prop} {H H' : Hp} (s : Same H H') : Ext T F H H' := ⟨fun b o h _ _ => s b o h, fun b xs h => s b _ h, fun t => t.ext s⟩
theorem Ext.refl {T : List (Addr × Str)} {F : Addr → Prop} {H : Hp} : Ext T F H H := Ext.same (Same.refl H)
theorem Ext.trans {T : List (Addr × Str)} {F : Addr → Prop} {H H1 H2 : Hp} (a : Ext T F H H1) (b : Ext T F H1 H2) : Ext T F H H2 :=
  ⟨fun c o h n t => b.keep c o (a.keep c o h n t) n t, fun c xs h => b.tups c xs (a.tups c xs h), fun t => b.tabs (a.tabs t)⟩
theorem Ext.wk {T : List (Addr × Str)} {F G : Addr → Prop} {H H' : Hp} (a : Ext T F H H') (h : ∀ b, F b → G b) : Ext T G H H' := ⟨fun b o e n t => a.keep b o e (fun z => n (h b z)) t, a.tups, a.tabs⟩
/-- an object that is no table, no tuple and no code object is written -/
def MutO (u : HO) : Prop := (∀ ps, u ≠ .tbl ps) ∧ (∀ xs, u ≠ .tup xs) ∧ ∀ φ, u ≠ .ext φ
theorem mut_lst {xs : List V} : MutO (.lst xs) := ⟨(fun _ z => by cases z), (fun _ z => by cases z), (fun _ z => by cases z)⟩
theorem mut_dK {xs : List (Key × V)} : MutO (.dK xs) := ⟨(fun _ z => by cases z), (fun _ z => by cases z), (fun _ z => by cases z)⟩
theorem tabs_upd {T : List (Addr × Str)} {H : Hp} {a : Addr} {o u : HO} (h : H a = some u) (hu : MutO u) (t : Tabs T H) : Tabs T (upd H a o) := fun p hp => by
  obtain ⟨ps, h1, h2, h3⟩ := t p hp
  refine ⟨ps, ?_, h2, fun pos cv hc => ?_⟩
  · rw [upd_ne (fun z => by rw [z, h] at h1; exact hu.1 _ (Option.some.inj h1))]
    exact h1
  · obtain ⟨c, e1, e2⟩ := h3 pos cv hc
    refine ⟨c, e1, ?_⟩
    rw [upd_ne (fun z => by rw [z, h] at e2; exact hu.2.2 _ (Option.some.inj e2))]
    exact e2
theorem Ext.upd {T : List (Addr × Str)} {F : Addr → Prop} {H : Hp} {a : Addr} {o u : HO} (ha : F a) (h : H a = some u) (hu : MutO u) : Ext T F H (L2.upd H a o) :=
  ⟨fun b v e n _ => by rw [upd_ne (fun z => n (by rw [z]; exact ha))]; exact e, fun b xs e => by
    rw [upd_ne (fun z => by rw [z, h] at e; exact hu.2.1 _ (Option.some.inj e))]
    exact e, tabs_upd h hu⟩
/-- what was written is new -/
theorem Ext.out {T : List (Addr × Str)} {F : Addr → Prop} {H H1 H' : Hp} {p : Addr} (s : Same H H1) (hp : H p = none) (e : Ext T (fun b => F b ∨ b = p) H1 H') : Ext T F H H' :=
  ⟨fun b o h n t => e.keep b o (s b o h) (fun z => z.elim n fun q => by rw [q, hp] at h; cases h) t, fun b xs h => e.tups b xs (s b _ h), fun t => e.tabs (t.ext s)⟩
theorem sameT {K : PySem.W.Frag} {H H' : Hp} {a : Addr} {xs : List V} (s : Same H H') (h : SqT K H a xs) : SqT K H' a xs := by
  rcases h with (h | ⟨o, h⟩) | h
  · exact .inl (.inl (s _ _ h))
  · exact .inl (.inr ⟨o, s _ _ h⟩)
  · exact .inr h
/-- a tuple that stands by itself, or in the written part -/
def Tu (K : PySem.W.Frag) (H : Hp) (a : Addr) (xs : List V) : Prop := H a = some (.tup xs) ∨ ∃ (o : Obj) (its : Array Value) (n : Nat), K.lookup a = some o ∧ o.cls = .type "tuple" ∧ o.data = .seq its n ∧ its.size ≤ sizeLine ∧ Vals xs its.toList
theorem Tu.sq {K : PySem.W.Frag} {H : Hp} {a : Addr} {xs : List V} (h : Tu K H a xs) : SqT K H a xs := h.elim (fun h => .inl (.inl h)) .inr
theorem Tu.ext {K : PySem.W.Frag} {T : List (Addr × Str)} {F : Addr → Prop} {H H' : Hp} {a : Addr} {xs : List V} (e : Ext T F H H') (h : Tu K H a xs) : Tu K H' a xs := h.imp (e.tups _ _) id
theorem Tu.same {K : PySem.W.Frag} {H H' : Hp} {a : Addr} {xs : List V} (e : Same H H') (h : Tu K H a xs) : Tu K H' a xs := h.imp (e _ _) id
/-- a list that nobody of F writes -/
def Li (F : Addr → Prop) (H : Hp) (a : Addr) (xs : List V) : Prop := H a = some (.lst xs) ∧ ¬ F a
theorem Li.ext {T : List (Addr × Str)} {F : Addr → Prop} {H H' : Hp} {a : Addr} {xs : List V} (e : Ext T F H H') (h : Li F H a xs) : Li F H' a xs := ⟨e.keep _ _ h.1 h.2 (fun _ z => nomatch z), h.2⟩
theorem Li.sq {F : Addr → Prop} {K : PySem.W.Frag} {H : Hp} {a : Addr} {xs : List V} (h : Li F H a xs) : SqL K H a xs := SqL.of h.1
theorem small {n : Nat} (h : n ≤ 1000000) : n ≤ sizeLine := Nat.le_trans h (by decide)
theorem smallt {n : Nat} (h : n ≤ 1000000) : n < sizeLine := Nat.lt_of_le_of_lt h (by decide)
end Cov
/-! KX: rules whose readings name the written part by itself (within a comprehension); enumerate(tuple). -/
namespace KK
open PySem PySem.Spec PyProof.Rows L2 LamX Cov
theorem units65 {k : Nat} {A : Around} (r : Room k A) : A.units + 65 < cLine := by have := r.un; omega
section
variable {X : Cx} (K : PySem.W.Frag) (h : X.K = K)
include h
theorem ix_listK : IxR X (rIxL K) := h ▸ ix_list
theorem ix_tupK : IxR X (rIxT K) := h ▸ ix_tup
theorem op_catAK : OpR X (binaryOp .Add) (rCatA K) := h ▸ op_catA
theorem op_eqDK (hu : X.A.units + 64 < cLine) : OpR X (compareOp .Eq) (rEqD K) := h ▸ op_eqD hu
theorem op_neDK (hu : X.A.units + 64 < cLine) : OpR X (compareOp .NotEq) (rNeD K) := h ▸ op_neD hu
theorem op_in_seqK : OpR X (compareOp .In) (rIn K false) := h ▸ op_in_seq
theorem op_notIn_seqK : OpR X (compareOp .NotIn) (rIn K true) := h ▸ op_notIn_seq
theorem op_inDK (hu : X.A.units + 65 < cLine) : OpR X (compareOp .In) (rInD K) := h ▸ op_inD hu
theorem op_notInDK (hu : X.A.units + 65 < cLine) : OpR X (compareOp .NotIn) (rNotInD K) := h ▸ op_notInD hu
theorem call_len_seqK : CallR X (.builtin "len") (fun xs H Q => ∃ p ys, xs = [.ref p] ∧ (SqL K H p ys ∨ SqT K H p ys) ∧ Q (.int ys.length) H) := h ▸ call_len_seq
theorem call_isiK : CallR X (.builtin "isinstance") (rIsi K) := h ▸ call_isi
theorem call_tuple_ofK : CallR X (.type "tuple") (fun xs H Q => ∃ p ys, xs = [.ref p] ∧ ((SqL K H p ys ∧ ∀ l, H l = none → Q (.ref l) (upd H l (.tup ys))) ∨ (SqT K H p ys ∧ Q (.ref p) H))) := h ▸ call_tuple_of
theorem cr_sumK (hc : X.calm = true) : CallR X (.builtin "sum") (rSum K) := h ▸ cr_sum hc
theorem cr_allK (hc : X.calm = true) : CallR X (.builtin "all") (rAll K) := h ▸ cr_all hc
theorem sl_listK : SlR X (rSlL K) := h ▸ sl_list
theorem sl_tupK : SlR X (rSlT K) := h ▸ sl_tup
theorem pi_tupK {tg l : Expr} {tl : TE} (hl : PE X l tl) : PI X tg l (iTup K tl) := h ▸ pi_tup hl
theorem pi_listK {tg l : Expr} {tl : TE} (hl : PE X l tl) : PI X tg l (iList K tl) := h ▸ pi_list hl
theorem pi_zipAK {e e2 : Expr} {ta : TA} {p pos tpos : Pos} {elts : List Expr} {kk : Nat} (hg : Gl X "zip") (hm : X.mg "zip" = none) (ha : PA X [e, e2] ta)
    (hs : starEach [e, e2] X.env = (false, eval e X.env) :: starEach [e2] X.env := by rfl) (hpl : (backTo pos (starEach [e2] X.env)).any (·.1) = false := by rfl) :
    PI X (.Tuple elts kk tpos) (.Call (.Name "zip" p) [e, e2] [] pos) (RZ.iZipA K ta) := h ▸ RZ.pi_zipA hg hm ha hs hpl
theorem pa_starK {e : Expr} {es : List Expr} {te : TE} {t : TA} {p : Pos} (he : PE X e te) (hr : PA X es t) (hs : starEach (.Starred e p :: es) X.env = (true, eval e X.env) :: starEach es X.env := by rfl) : PA X (.Starred e p :: es) (StX.tStar K te t) := h ▸ StX.pa_star he hr hs
end
/-- the outer turns of a comprehension with two fors -/
theorem lc2_out {J : It} {n : Nat} {G : Hp → Prop} {Y : Nat → Hp → V → Hp → Prop} (wk : Walk J n G Y) {B : V → Hp → (Hp → Prop) → Prop} {H1 : Hp} {D : Addr} {End : Hp → Prop} (Kv : Nat → Hp → Prop) (start : Kv 0 (upd H1 D (.lst []))) (stands : ∀ i H, i ≤ n → Kv i H → G H)
    (turn : ∀ i x H H', i < n → Kv i H → Y i H x H' → B x H' (Kv (i + 1))) (fin : ∀ H, Kv n H → End H) :
    ∃ W : Nat → Nat → Hp → Prop, (∃ m, W 0 m (upd H1 D (.lst []))) ∧ ∀ i m H, W i m H →
      (J.stop i H ∧ End H) ∨ (J.go i H ∧ ∃ Nx : Hp → Prop, (∀ H', Nx H' → ∃ m', m' < m ∧ W (i + 1) m' H') ∧ ∀ x H', J.yld i H x H' → B x H' Nx) := by
  refine ⟨fun i m H => i + m = n ∧ Kv i H, ⟨n, Nat.zero_add n, start⟩, fun i m H ⟨e, k⟩ => ?_⟩
  have gh := stands i H (by omega) k
  cases m with
  | zero =>
    obtain rfl : i = n := by omega
    exact .inl ⟨wk.stops H gh, fin H k⟩
  | succ m =>
    have lt : i < n := by omega
    exact .inr ⟨wk.goes i H lt gh, Kv (i + 1), fun H' k' => ⟨m, Nat.lt_succ_self m, by omega, k'⟩, fun x H' y => turn i x H H' lt k (wk.yields i H x H' lt gh y)⟩
/-- the inner ones -/
theorem lc2_in {J : It} {n : Nat} {G : Hp → Prop} {Y : Nat → Hp → V → Hp → Prop} (wk : Walk J n G Y) {B : V → Hp → (Hp → Prop) → Prop} {H1 : Hp} {End : Hp → Prop} (Kv : Nat → Hp → Prop) (start : Kv 0 H1) (stands : ∀ i H, i ≤ n → Kv i H → G H)
    (turn : ∀ i x H H', i < n → Kv i H → Y i H x H' → B x H' (Kv (i + 1))) (fin : ∀ H, Kv n H → End H) :
    ∃ W : Nat → Nat → Hp → Prop, (∃ m, W 0 m H1) ∧ ∀ i m H, W i m H →
      (J.stop i H ∧ End H) ∨ (J.go i H ∧ ∃ Nx : Hp → Prop, (∀ H', Nx H' → ∃ m', m' < m ∧ W (i + 1) m' H') ∧ ∀ x H', J.yld i H x H' → B x H' Nx) := by
  refine ⟨fun i m H => i + m = n ∧ Kv i H, ⟨n, Nat.zero_add n, start⟩, fun i m H ⟨e, k⟩ => ?_⟩
  have gh := stands i H (by omega) k
  cases m with
  | zero =>
    obtain rfl : i = n := by omega
    exact .inl ⟨wk.stops H gh, fin H k⟩
  | succ m =>
    have lt : i < n := by omega
    exact .inr ⟨wk.goes i H lt gh, Kv (i + 1), fun H' k' => ⟨m, Nat.lt_succ_self m, by omega, k'⟩, fun x H' y => turn i x H H' lt k (wk.yields i H x H' lt gh y)⟩
end KK
/-! T0: the text's defs, small facts. -/
namespace KK
open PySem PySem.Spec PyProof.Rows L2 LamX Cov
abbrev LW : PySem.W.OpenLaw := PySem.Challenge.rw_coverbut_k22_whole_numbers_of_lots
def topS (i : Nat) : Stmt := PySem.Challenge.pw_coverbut_k22_whole_numbers_of_lots.main.body.getD i (.Pass ⟨0, 0, 0, 0⟩)
/-- the j-th statement of a class's body -/
def methS (s : Stmt) (j : Nat) : Stmt := match s with
  | .ClassDef _ _ _ body _ _ _ _ _ _ _ => body.getD j (.Pass ⟨0, 0, 0, 0⟩)
  | _ => .Pass ⟨0, 0, 0, 0⟩
abbrev sis_number : Stmt := topS 11
abbrev sis_between : Stmt := topS 12
abbrev sis_list : Stmt := topS 13
abbrev sis_rising : Stmt := topS 14
abbrev sis_tuple_of : Stmt := topS 15
abbrev sis_row : Stmt := topS 18
abbrev sneed_rows : Stmt := topS 19
abbrev sneed_lot : Stmt := topS 21
abbrev sis_asked : Stmt := topS 22
abbrev sneed_asked : Stmt := topS 23
abbrev sneed_lot_asked : Stmt := topS 24
abbrev sall_answers : Stmt := topS 25
abbrev srest_lot : Stmt := topS 26
abbrev sflipped_row : Stmt := topS 27
abbrev sflipped_lot : Stmt := topS 28
abbrev sneed_two : Stmt := topS 29
abbrev sbeside : Stmt := topS 30
abbrev sneed_place_count : Stmt := topS 32
abbrev spower_of_two : Stmt := topS 34
abbrev slot_number : Stmt := topS 35
abbrev slots_many : Stmt := topS 36
abbrev slot_by_number : Stmt := topS 37
abbrev slot_at : Stmt := topS 38
abbrev snext_lot : Stmt := topS 39
abbrev s_law_begun : Stmt := topS 41
abbrev s_law_blended : Stmt := topS 42
abbrev s_law_draw : Stmt := topS 43
abbrev s_law_pick : Stmt := topS 44
abbrev s_law_caught : Stmt := topS 45
abbrev s_law_rows : Stmt := topS 46
abbrev s_law_sets : Stmt := topS 47
abbrev s_law_at : Stmt := topS 48
abbrev s_law_fits : Stmt := topS 49
abbrev s_law_share : Stmt := topS 50
abbrev s_law_lot : Stmt := topS 51
abbrev s_law_lot_refused : Stmt := topS 52
abbrev s_law_number : Stmt := topS 53
abbrev s_law_many : Stmt := topS 54
abbrev s_law_lot_right : Stmt := topS 55
abbrev s_law_made_right : Stmt := topS 56
abbrev s_law_errors_right : Stmt := topS 57
abbrev slaw : Stmt := topS 58
abbrev sPartError___init__ : Stmt := methS (topS 2) 0
abbrev sItemError___init__ : Stmt := methS (topS 3) 0
abbrev sLot___init__ : Stmt := methS (topS 20) 0
abbrev sLot_places : Stmt := methS (topS 20) 1
abbrev sLot_rows : Stmt := methS (topS 20) 2
abbrev sLot_has : Stmt := methS (topS 20) 3
abbrev sLot_many : Stmt := methS (topS 20) 4
abbrev sLot___eq__ : Stmt := methS (topS 20) 5
abbrev FnP (K : PySem.W.Frag) (x : Str) (st : Stmt) (f : Addr) (fd : FuncData) : Prop := FunD K x x (defArgs st) (defBody st) (defScope st) [] [] f fd
abbrev FnM (K : PySem.W.Frag) (x q : Str) (st : Stmt) (f : Addr) (fd : FuncData) : Prop := FunD K x q (defArgs st) (defBody st) (defScope st) [] [] f fd
section
variable {K : PySem.W.Frag}
theorem isi_int {H : Hp} (i : Int) : TyX K H (.int i) (.type "int") := .base (.int i)
theorem isi_bl {H : Hp} (i : Bool) : TyX K H (.bl i) (.type "bool") := .base (.bl i)
theorem isi_non {H : Hp} : TyX K H .non (.type "NoneType") := .base .non
theorem isi_str {H : Hp} (x : Str) : TyX K H (.str x) (.type "str") := .base (.str x)
theorem isi_tup {H : Hp} {a : Addr} {xs : List V} (e : H a = some (.tup xs)) : TyX K H (.ref a) (.type "tuple") := .base (.tup e)
theorem isi_lst {H : Hp} {a : Addr} {xs : List V} (e : H a = some (.lst xs)) : TyX K H (.ref a) (.type "list") := .base (.lst e)
end
theorem if_t {c : Bool} {A B : Prop} (h : c = true) (a : A) : if c = true then A else B := by rw [if_pos h]; exact a
theorem if_f {c : Bool} {A B : Prop} (h : c = false) (b : B) : if c = true then A else B := by rw [h, if_neg Bool.false_ne_true]; exact b
theorem nw {H : Hp} {p q : Addr} {o u : HO} (hp : H p = none) (e : H q = some u) : upd H p o q = some u := same_new hp o q u e
theorem same_over {H H' : Hp} {p : Addr} (h : H p = none) (s : Same H H') (o : HO) : Same H (upd H' p o) := fun b u q => by rw [upd_ne (ne_of_none q h)]; exact s b u q
theorem none_of {H H' : Hp} {p : Addr} (s : Same H H') (h : H' p = none) : H p = none := by
  cases e : H p with
  | none => rfl
  | some o => rw [s _ _ e] at h; cases h
theorem new_any {H J : Hp} {p : Addr} {o : HO} (hJ : upd H p o = J) (hp : H p = none) : Same H J ∧ J p = some o := by
  subst hJ
  exact ⟨same_new hp _, upd_same⟩
theorem seq_by {a b : TS} {D : Ends} {σ : L2.St} {H : Hp} (Mid : L2.St → Hp → Prop) (ha : ∀ N, (∀ σ' H', Mid σ' H' → N σ' H') → a { D with nx := N } σ H) (hb : ∀ σ' H', Mid σ' H' → b D σ' H') : tSeq a b D σ H := ha (b D) hb
theorem gn {i : Nat} {v : V} {σ : L2.St} {H : Hp} {Q : L2.St → Hp → Prop} (h : Q (σ.set i (some v)) H) : gName i v σ H Q := h
theorem tn {D : Ends} {σ : L2.St} {H : Hp} (h : D.nx σ H) : tNext D σ H := h
theorem nd_self (a : V) : (!decide (a = a)) = false := by simp
theorem tup_upd {H : Hp} {p b : Addr} {u : HO} {xs : List V} {o : HO} (h : H p = some u) (hu : ∀ ys, u ≠ .tup ys) (e : H b = some (.tup xs)) : upd H p o b = some (.tup xs) := by
  rw [upd_ne (fun z => by rw [z, h] at e; exact hu _ (Option.some.inj e))]
  exact e
theorem sameL {K : PySem.W.Frag} {H H' : Hp} {a : Addr} {xs : List V} (s : Same H H') (h : SqL K H a xs) : SqL K H' a xs := by
  rcases h with (h | ⟨o, h⟩) | h
  · exact .inl (.inl (s _ _ h))
  · exact .inl (.inr ⟨o, s _ _ h⟩)
  · exact .inr h
theorem get_lt {α : Type} {l : List α} {i : Nat} {x : α} (h : l[i]? = some x) : i < l.length := (List.getElem?_eq_some_iff.mp h).1
theorem Ext.ofN {T : List (Addr × Str)} {F : Addr → Prop} {H H' : Hp} (x : ExtN H H') (t : Tabs T H') : Ext T F H H' := ⟨fun b o e _ n => x b o e n, fun b xs e => x b _ e (fun _ z => by cases z), fun _ => t⟩
end KK
/-! T1: the draws; the deed that is caught. -/
namespace KK
open PySem PySem.Spec PyProof.Rows L2 LamX Cov
/-- one step of a reading -/
local macro_rules | `(tactic| walk_at "s") => `(tactic| first | refine ⟨_, rfl, ?_⟩ | refine ⟨_, _, rfl, rfl, ?_⟩ | refine ⟨rfl, ?_⟩ | refine ⟨⟨_, rfl⟩, ?_⟩)
local macro_rules | `(tactic| walk_at "ss") => `(tactic| repeat walk_at "s")
section
variable {P : Program} {w : World} {K : PySem.W.Frag} {mg : Str → Option Value} {base : Heap} {T : List (Addr × Str)}
def stD (g c : Addr) (l t : Int) : HO := .dK [(.inr "great", .ref g), (.inr "cells", .ref c), (.inr "left", .int l), (.inr "turn", .int t)]
/-- the state of the draws -/
structure Stt (st g c : Addr) (B : Nat) (H : Hp) : Prop where
  cg : c ≠ g
  d : ∃ l t : Int, t.natAbs ≤ B ∧ H st = some (stD g c l t)
  gl : ∃ gs : List Int, H g = some (.lst (gs.map .int))
  cl : ∃ cs : List Int, H c = some (.lst (cs.map .int))
abbrev Fs (st g : Addr) : Addr → Prop := fun b => b = st ∨ b = g
theorem Stt.ext {st g c : Addr} {B : Nat} {F : Addr → Prop} {H H' : Hp} (h : Stt st g c B H) (e : Ext T F H H') (n1 : ¬ F st) (n2 : ¬ F g) (n3 : ¬ F c) : Stt st g c B H' := by
  obtain ⟨cg, ⟨l, t, ht, hd⟩, ⟨gs, hg⟩, ⟨cs, hc⟩⟩ := h
  exact ⟨cg, ⟨l, t, ht, e.keep _ _ hd n1 (fun _ z => by cases z)⟩, ⟨gs, e.keep _ _ hg n2 (fun _ z => by cases z)⟩, ⟨cs, e.keep _ _ hc n3 (fun _ z => by cases z)⟩⟩
theorem Stt.same {st g c : Addr} {B : Nat} {H H' : Hp} (h : Stt st g c B H) (e : Same H H') : Stt st g c B H' := by
  obtain ⟨cg, ⟨l, t, ht, hd⟩, ⟨gs, hg⟩, ⟨cs, hc⟩⟩ := h
  exact ⟨cg, ⟨l, t, ht, e _ _ hd⟩, ⟨gs, e _ _ hg⟩, ⟨cs, e _ _ hc⟩⟩
theorem Stt.mono {st g c : Addr} {B B' : Nat} {H : Hp} (h : Stt st g c B H) (e : B ≤ B') : Stt st g c B' H := by
  obtain ⟨cg, ⟨l, t, ht, hd⟩, hg, hc⟩ := h
  exact ⟨cg, ⟨l, t, by omega, hd⟩, hg, hc⟩
theorem get_great {H : Hp} {st g c : Addr} {l t : Int} (e : H st = some (stD g c l t)) : DGet H st (.str "great") (some (.ref g)) := .inl ⟨_, .inr "great", .inl e, rfl, rfl⟩
theorem get_cells {H : Hp} {st g c : Addr} {l t : Int} (e : H st = some (stD g c l t)) : DGet H st (.str "cells") (some (.ref c)) := .inl ⟨_, .inr "cells", .inl e, rfl, rfl⟩
theorem get_left {H : Hp} {st g c : Addr} {l t : Int} (e : H st = some (stD g c l t)) : DGet H st (.str "left") (some (.int l)) := .inl ⟨_, .inr "left", .inl e, rfl, rfl⟩
theorem get_turn {H : Hp} {st g c : Addr} {l t : Int} (e : H st = some (stD g c l t)) : DGet H st (.str "turn") (some (.int t)) := .inl ⟨_, .inr "turn", .inl e, rfl, rfl⟩
theorem put_left {H : Hp} {st g c : Addr} {l t : Int} (e : H st = some (stD g c l t)) (i : Int) : DPut H st (.str "left") (.int i) (upd H st (stD g c i t)) := .inl ⟨_, .inr "left", e, rfl, smallt (show 4 ≤ _ by decide), rfl⟩
theorem put_turn {H : Hp} {st g c : Addr} {l t : Int} (e : H st = some (stD g c l t)) (i : Int) : DPut H st (.str "turn") (.int i) (upd H st (stD g c l i)) := .inl ⟨_, .inr "turn", e, rfl, smallt (show 4 ≤ _ by decide), rfl⟩
/-- the state's dict is written -/
theorem Stt.put {st g c : Addr} {B B' : Nat} {H : Hp} {l t l' t' : Int} (h : Stt st g c B H) (e : H st = some (stD g c l t)) (ht : t'.natAbs ≤ B') : Stt st g c B' (upd H st (stD g c l' t')) := by
  obtain ⟨cg, _, ⟨gs, hg⟩, ⟨cs, hc⟩⟩ := h
  refine ⟨cg, ⟨l', t', ht, upd_same⟩, ⟨gs, ?_⟩, ⟨cs, ?_⟩⟩
  · rw [upd_ne (fun z => by rw [z, e] at hg; cases hg)]; exact hg
  · rw [upd_ne (fun z => by rw [z, e] at hc; cases hc)]; exact hc
theorem Stt.put_ext {st g c : Addr} {H : Hp} {l t : Int} (e : H st = some (stD g c l t)) (o : HO) : Ext T (Fs st g) H (upd H st o) := Ext.upd (.inl rfl) e mut_dK

theorem sc_law_blended : FnScope ["state", "turn", "found", "prime", "blend", "cell"] ["state"] (defScope s_law_blended) := ⟨rfl, rfl, rfl, by decide +kernel, rfl, by decide +kernel, by decide +kernel⟩
def spBl (T : List (Addr × Str)) : Sp := fun vs H Q _ => ∃ (st g c : Addr) (B : Nat), vs = [.ref st] ∧ Stt st g c B H ∧ B + 1 ≤ 2 ^ 40 ∧ ∀ H' i, Ext T (Fs st g) H H' → Stt st g c (B + 1) H' → Q (.int i) H'
theorem ok_blended {f : Addr} {fd : FuncData} (F : FnP K "_law_blended" s_law_blended f fd) (Z : Zs mg) : FnOk P w K mg base (L2.CX P w) 1 f fd ["state"] (spBl T) := by
  refine F.ok sc_law_blended (fun vs H Q E h => ?_) (fun cdv A outer s H vs Q E hr h => ?_)
  · obtain ⟨_, _, _, _, rfl, _⟩ := h
    rfl
  obtain ⟨st, g, c, B, rfl, hS, hB, h⟩ := h
  refine ⟨_, (pss_cons (ps_par (i := 1) (j := 2) (by rfl) sc_law_blended.nd rfl rfl (by decide) rfl rfl (pa_cons (pe_op op_add (pe_dget (hu_of hr) (pv 0) pe_str (fun _ _ => rfl)) pe_int) (pa_cons pe_int pa_nil)) (by rfl))
    (pss_cons (ps_dput (hu_of hr) (pv 0) pe_str (pv 1) rfl)
    (pss_cons (ps_for (passes_of rfl) rfl (pi_list (pe_lst (pa_cons pe_int (pa_cons pe_int (pa_cons pe_int pa_nil))))) (pg_name (i := 3) sc_law_blended.nd rfl (Or.inl rfl)) (pss_cons (ps_set (i := 4) sc_law_blended.nd rfl (Or.inl rfl) (pe_op op_add (pe_op op_mul pe_int (pv 1)) (pe_op op_fdiv (pv 3) pe_int)))
    (pss_cons (ps_for (passes_of rfl) rfl (pi_list (pe_dget (hu_of hr) (pv 0) pe_str (fun _ _ => rfl))) (pg_name (i := 5) sc_law_blended.nd rfl (Or.inl rfl)) (pss_one (ps_set (i := 4) sc_law_blended.nd rfl (Or.inl rfl) (pe_op op_mod (pe_callTy call_int1 (by rfl) Z.int_ (by decide +kernel) (pa_cons (pe_op op_add (pe_op op_add (pe_op op_mul (pv 4) pe_int) (pv 5)) (pv 1)) pa_nil)) (pv 3)))))
    (pss_one (ps_set (i := 2) sc_law_blended.nd rfl (Or.inl rfl) (pe_op op_add (pe_op op_mul (pv 2) pe_int) (pe_op op_mod (pe_callTy call_int1 (by rfl) Z.int_ (by decide +kernel) (pa_cons (pe_op op_pow (pv 4) pe_int) pa_nil)) (pv 3))))))))
    (pss_one (ps_ret (pv 2)))))), ?_⟩
  have hS0 := hS
  obtain ⟨cg, ⟨l, tn, ht, hd⟩, ⟨gs, hg⟩, ⟨cs, hc⟩⟩ := hS
  walk_at "ss"
  refine ⟨_, _, rfl, get_turn hd, ?_⟩
  walk_at "ss"
  refine ⟨_, _, rfl, ?_⟩
  walk_at "ss"
  refine ⟨_, _, rfl, put_turn hd _, ?_⟩
  have x1 : Ext T (Fs st g) H (upd H st (stD g c l (tn + 1))) := Stt.put_ext hd _
  have S1 : Stt st g c (B + 1) (upd H st (stD g c l (tn + 1))) := hS0.put hd (by omega)
  have hc1 : upd H st (stD g c l (tn + 1)) c = some (.lst (cs.map .int)) := by rw [upd_ne (fun z => by rw [z, hd] at hc; cases hc)]; exact hc
  have hd1 : upd H st (stD g c l (tn + 1)) st = some (stD g c l (tn + 1)) := upd_same
  generalize upd H st (stD g c l (tn + 1)) = H1 at x1 S1 hc1 hd1 ⊢
  walk_at "ss"
  refine ⟨small (by simp), fun p0 hp0 => ?_⟩
  have hc2 := same_new hp0 (.lst [.int 2147482063, .int 2147482021, .int 2147481997]) _ _ hc1
  have hd2 := same_new hp0 (.lst [.int 2147482063, .int 2147482021, .int 2147481997]) _ _ hd1
  have x2 : Ext T (Fs st g) H (upd H1 p0 (.lst [.int 2147482063, .int 2147482021, .int 2147481997])) := x1.trans (.same (same_new hp0 _))
  have S2 := S1.same (same_new hp0 (.lst [.int 2147482063, .int 2147482021, .int 2147481997]))
  have hl2 : upd H1 p0 (.lst [.int 2147482063, .int 2147482021, .int 2147481997]) p0 = _ := upd_same
  generalize upd H1 p0 (.lst [.int 2147482063, .int 2147482021, .int 2147481997]) = H2 at x2 S2 hc2 hd2 hl2 ⊢
  refine ⟨_, rfl, ⟨_, SqL.of hl2⟩, ?_⟩
  refine for_list (xs := [.int 2147482063, .int 2147482021, .int 2147481997]) (fun i σ H' => (∃ fo y1 y2 y3, σ = [some (.ref st), some (.int (tn + 1)), some (.int fo), y1, y2, y3]) ∧ H' = H2) ⟨⟨0, none, none, none, rfl⟩, rfl⟩ (fun i σ H' _ hv => by rw [hv.2]; exact SqL.of hl2) (fun i x σ H' hx hv => ?_) (fun σ H' hv => ?_)
  · obtain ⟨⟨fo, y1, y2, y3, rfl⟩, rfl⟩ := hv
    have hx2 : ∃ pr : Int, x = .int pr ∧ 0 < pr ∧ pr < 2 ^ 32 := by
      have := List.mem_of_getElem? hx
      simp only [List.mem_cons, List.not_mem_nil, or_false] at this
      rcases this with rfl | rfl | rfl <;> exact ⟨_, rfl, by decide, by decide⟩
    obtain ⟨pr, rfl, hp1, hp2⟩ := hx2
    walk_at "ss"
    refine ⟨.inl ⟨by decide, by decide⟩, ?_⟩
    walk_at "ss"
    refine ⟨⟨by decide, by decide⟩, ?_⟩
    walk_at "ss"
    refine ⟨_, _, rfl, get_cells hd2, ?_⟩
    refine ⟨_, rfl, ⟨_, SqL.of hc2⟩, ?_⟩
    have hb0 : (40127 * (tn + 1) + pr / 71).natAbs < 2 ^ 64 := by omega
    refine for_list (xs := cs.map .int) (fun i σ H3 => (∃ b : Int, ∃ y3, σ = [some (.ref st), some (.int (tn + 1)), some (.int fo), some (.int pr), some (.int b), y3] ∧ b.natAbs < 2 ^ 64) ∧ H3 = H') ⟨⟨_, _, rfl, hb0⟩, rfl⟩ (fun i σ H' _ hv => by rw [hv.2]; exact SqL.of hc2) (fun i x σ H3 hx hv => ?_) (fun σ H3 hv => ?_)
    · obtain ⟨⟨b, y4, rfl, hb⟩, rfl⟩ := hv
      have hx2 : ∃ ce : Int, x = .int ce := by
        obtain ⟨ce, _, rfl⟩ := List.mem_map.mp (List.mem_of_getElem? hx)
        exact ⟨ce, rfl⟩
      obtain ⟨ce, rfl⟩ := hx2
      walk_at "ss"
      refine ⟨.inr ⟨by decide, by decide⟩, ?_⟩
      walk_at "ss"
      refine .inl ⟨_, rfl, ?_⟩
      walk_at "ss"
      refine ⟨hp1, ?_⟩
      refine ⟨⟨_, _, rfl, ?_⟩, rfl⟩
      have h1 := Int.emod_nonneg (b * 69621 + ce + (tn + 1)) (show pr ≠ 0 by omega)
      have h2 := Int.emod_lt_of_pos (b * 69621 + ce + (tn + 1)) hp1
      show ((b * 69621 + ce + (tn + 1)) % pr).natAbs < 2 ^ 64
      omega
    · obtain ⟨⟨b, y4, rfl, hb⟩, rfl⟩ := hv
      walk_at "ss"
      refine ⟨.inr ⟨by decide, by decide⟩, ?_⟩
      walk_at "ss"
      refine ⟨⟨by decide, by decide, hb⟩, ?_⟩
      walk_at "ss"
      refine .inl ⟨_, rfl, ?_⟩
      walk_at "ss"
      refine ⟨hp1, ?_⟩
      walk_at "ss"
      exact ⟨⟨_, _, _, _, rfl⟩, rfl⟩
  · obtain ⟨⟨fo, y1, y2, y3, rfl⟩, rfl⟩ := hv
    walk_at "ss"
    exact h _ _ x2 S2
theorem ints_all {K : PySem.W.Frag} {H : Hp} : ∀ gs : List Int, DpAll K H (gs.map .int) (gs.map PyData.int)
  | [] => .nil
  | g :: gs => .cons (.int g) (ints_all gs)
theorem ints_lay : ∀ gs : List Int, PyData.canLayAll0 (gs.map PyData.int) = true ∧ PyData.depthAll (gs.map PyData.int) ≤ 1
  | [] => ⟨rfl, by simp [PyData.depthAll]⟩
  | g :: gs => by
    obtain ⟨h1, h2⟩ := ints_lay gs
    constructor
    · simp [PyData.canLayAll0, PyData.canLay0, h1]
    · simp [PyData.depthAll, PyData.depth]
      omega
theorem ints_shaped (gs : List Int) : SeqAt.shaped (.list (gs.map PyData.int)) = true := by
  obtain ⟨h1, h2⟩ := ints_lay gs
  unfold SeqAt.shaped
  simp [PyData.canLay0, h1, PyData.depth]
  omega
theorem ints_nil (gs : List Int) : PyData.eqv (.list (gs.map PyData.int)) (.list []) = gs.isEmpty := by
  cases gs <;> simp [PyData.eqv, PyData.eqvAll]
theorem sc_law_draw : FnScope ["state", "size", "found"] ["state", "size"] (defScope s_law_draw) := ⟨rfl, rfl, rfl, by decide +kernel, rfl, by decide +kernel, by decide +kernel⟩
def spDr (T : List (Addr × Str)) : Sp := fun vs H Q _ => ∃ (st g c : Addr) (B n : Nat), vs = [.ref st, .int n] ∧ 0 < n ∧ n ≤ 1000000 ∧ Stt st g c B H ∧ B + 1 ≤ 2 ^ 40 ∧ ∀ H' k, k < n → Ext T (Fs st g) H H' → Stt st g c (B + 1) H' → Q (.int (k : Nat)) H'
theorem ok_draw {f f_law_blended : Addr} {fd fdb : FuncData} (F : FnP K "_law_draw" s_law_draw f fd) (Z : Zs mg) (G_law_blended : FnOk P w K mg base (L2.CX P w) 1 f_law_blended fdb ["state"] (spBl T)) (M_law_blended : Dat K mg "_law_blended" f_law_blended fdb ["state"]) :
    FnOk P w K mg base (L2.CX P w) 2 f fd ["state", "size"] (spDr T) := by
  refine F.ok sc_law_draw (fun vs H Q E h => ?_) (fun cdv A outer s H vs Q E hr h => ?_)
  · obtain ⟨_, _, _, _, _, rfl, _⟩ := h
    rfl
  obtain ⟨st, g, c, B, n, rfl, hn, hn2, hS, hB, h⟩ := h
  refine ⟨_, (pss_cons (ps_if (pt_cmpR op_eq (pe_dget (hu_of hr) (pv 0) pe_str (fun _ _ => rfl)) pe_int (nomark _)) (pss_one (ps_dput (hu_of hr) (pv 0) pe_str (pe_ifExp (pt_cmpR (op_neD hr.units) (pe_dget (hu_of hr) (pv 0) pe_str (fun _ _ => rfl)) (pe_lst pa_nil) (nomark _)) (pe_bm PySem.F.plainAttrs_list PySem.F.slot_list_pop PySem.F.type_list_pop mt_popAt (pe_dget (hu_of hr) (pv 0) pe_str (fun _ _ => rfl)) (pa_cons pe_int pa_nil)) (pe_fn G_law_blended M_law_blended (hr.mono (by omega)) (pa_cons (pv 0) pa_nil))) rfl)) pss_nil)
    (pss_cons (ps_set (i := 2) sc_law_draw.nd rfl (Or.inl rfl) (pe_op op_mod (pe_callTy call_int1 (by rfl) Z.int_ (by decide +kernel) (pa_cons (pe_dget (hu_of hr) (pv 0) pe_str (fun _ _ => rfl)) pa_nil)) (pv 1)))
    (pss_cons (ps_dput (hu_of hr) (pv 0) pe_str (pe_op op_fdiv (pe_callTy call_int1 (by rfl) Z.int_ (by decide +kernel) (pa_cons (pe_dget (hu_of hr) (pv 0) pe_str (fun _ _ => rfl)) pa_nil)) (pv 1)) rfl)
    (pss_one (ps_ret (pv 2)))))), ?_⟩
  have hS0 := hS
  obtain ⟨cg, ⟨l, tn, ht, hd⟩, ⟨gs, hg⟩, ⟨cs, hc⟩⟩ := hS
  refine seq_by (fun σ' H' => σ' = [some (.ref st), some (.int n), none] ∧ Ext T (Fs st g) H H' ∧ Stt st g c (B + 1) H') (fun N hN => ?_) (fun σ' H1 hm => ?_)
  · walk_at "ss"
    refine ⟨_, _, rfl, get_left hd, ?_⟩
    walk_at "ss"
    refine ite2 (fun c1 => ?_) (fun c1 => ?_)
    · walk_at "ss"
      refine ⟨_, _, rfl, get_great hd, ?_⟩
      walk_at "ss"
      refine ⟨small (by simp), fun p0 hp0 => ?_⟩
      refine ⟨_, _, .lst (SqL.of (nw hp0 hg)) (ints_all gs), .lst (SqL.of upd_same) .nil, ints_shaped gs, by decide +kernel, ?_⟩
      rw [ints_nil]
      have s1 := same_new hp0 (.lst [])
      cases gs with
      | nil =>
        walk_at "ss"
        refine ⟨st, g, c, B, rfl, hS0.same s1, hB, fun H2 i x2 S2 => ?_⟩
        walk_at "ss"
        obtain ⟨_, ⟨l1, tn1, ht1, hd1⟩, _, _⟩ := id S2
        refine ⟨_, _, rfl, put_left hd1 _, hN _ _ ⟨rfl, ((Ext.same s1).trans x2).trans (Stt.put_ext hd1 _), S2.put hd1 ht1⟩⟩
      | cons g0 gs =>
        walk_at "ss"
        refine ⟨_, _, rfl, get_great (nw hp0 hd), ?_⟩
        walk_at "ss"
        refine ⟨.inl ⟨rfl, _, SqL.of (nw hp0 hg)⟩, ?_⟩
        walk_at "ss"
        refine ⟨_, _, _, 0, _, rfl, rfl, nw hp0 hg, by decide, by decide, ?_, rfl, ?_⟩
        · unfold seqIndex?
          simp
        walk_at "ss"
        have hgs : g ≠ st := fun z => by rw [z, hd] at hg; cases hg
        have hd1 : upd (upd H p0 (.lst [])) g (.lst (gs.map .int)) st = some (stD g c l tn) := by
          rw [upd_ne (Ne.symm hgs)]
          exact nw hp0 hd
        have S1 : Stt st g c B (upd (upd H p0 (.lst [])) g (.lst (gs.map .int))) := ⟨cg, ⟨l, tn, ht, hd1⟩, ⟨gs, upd_same⟩, ⟨cs, by rw [upd_ne cg]; exact nw hp0 hc⟩⟩
        have x1 : Ext T (Fs st g) H (upd (upd H p0 (.lst [])) g (.lst (gs.map .int))) := (Ext.same s1).trans (Ext.upd (.inr rfl) (nw hp0 hg) mut_lst)
        refine ⟨_, _, rfl, put_left hd1 _, hN _ _ ⟨rfl, x1.trans (Stt.put_ext hd1 _), S1.put hd1 (by omega)⟩⟩
    · exact hN _ _ ⟨rfl, .refl, hS0.mono (by omega)⟩
  · obtain ⟨rfl, x1, S1⟩ := hm
    have S10 := S1
    obtain ⟨_, ⟨l1, tn1, ht1, hd1⟩, _, _⟩ := S1
    walk_at "ss"
    refine ⟨_, _, rfl, get_left hd1, ?_⟩
    walk_at "ss"
    refine .inl ⟨_, rfl, ?_⟩
    walk_at "ss"
    refine ⟨by omega, ?_⟩
    walk_at "ss"
    refine ⟨_, _, rfl, get_left hd1, ?_⟩
    walk_at "ss"
    refine .inl ⟨_, rfl, ?_⟩
    walk_at "ss"
    refine ⟨⟨by omega, by omega⟩, ?_⟩
    walk_at "ss"
    refine ⟨_, _, rfl, put_left hd1 _, ?_⟩
    walk_at "ss"
    have h1 := Int.emod_nonneg l1 (show (n : Int) ≠ 0 by omega)
    have h2 := Int.emod_lt_of_pos l1 (show (0 : Int) < n by omega)
    have h3 := h (upd H1 st (stD g c (l1 / n) tn1)) (l1 % n).toNat (by omega) (x1.trans (Stt.put_ext hd1 _)) (S10.put hd1 ht1)
    rw [Int.toNat_of_nonneg h1] at h3
    exact h3

theorem sc_law_pick : FnScope ["state", "several"] ["state", "several"] (defScope s_law_pick) := ⟨rfl, rfl, rfl, by decide +kernel, rfl, by decide +kernel, by decide +kernel⟩
def spPi (T : List (Addr × Str)) : Sp := fun vs H Q _ => ∃ (st g c sl : Addr) (B : Nat) (xs : List V), vs = [.ref st, .ref sl] ∧ Stt st g c B H ∧ B + 1 ≤ 2 ^ 40 ∧ Li (Fs st g) H sl xs ∧ 0 < xs.length ∧ xs.length ≤ 1000000 ∧
  ∀ (H' : Hp) (k : Nat) (x : V), xs[k]? = some x → Ext T (Fs st g) H H' → Stt st g c (B + 1) H' → Q x H'
theorem ok_pick {f f_law_draw : Addr} {fd fdb : FuncData} (F : FnP K "_law_pick" s_law_pick f fd) (Z : Zs mg) (G_law_draw : FnOk P w K mg base (L2.CX P w) 2 f_law_draw fdb ["state", "size"] (spDr T)) (M_law_draw : Dat K mg "_law_draw" f_law_draw fdb ["state", "size"]) :
    FnOk P w K mg base (L2.CX P w) 3 f fd ["state", "several"] (spPi T) := by
  refine F.ok sc_law_pick (fun vs H Q E h => ?_) (fun cdv A outer s H vs Q E hr h => ?_)
  · obtain ⟨_, _, _, _, _, _, rfl, _⟩ := h
    rfl
  obtain ⟨st, g, c, sl, B, xs, rfl, hS, hB, hl, h0, h1, h⟩ := h
  refine ⟨_, (pss_one (ps_ret (pe_ix ix_list (pv 1) (pe_fn G_law_draw M_law_draw (hr.mono (by omega)) (pa_cons (pv 0) (pa_cons (pe_callB call_len_seq (by rfl) Z.len_ (by decide +kernel) (pa_cons (pv 1) pa_nil)) pa_nil))) (fun _ _ => rfl)))), ?_⟩
  walk_at "ss"
  refine ⟨_, _, rfl, .inl (SqL.of hl.1), ?_⟩
  walk_at "ss"
  refine ⟨st, g, c, B, xs.length, rfl, h0, h1, hS, hB, fun H1 k hk x1 S1 => ?_⟩
  walk_at "ss"
  have hk2 : xs[k]? = some xs[k] := List.getElem?_eq_getElem hk
  refine ⟨_, _, _, _, rfl, rfl, (hl.ext x1).sq, atI_nat hk2, ?_⟩
  exact h _ k _ hk2 x1 S1
theorem sc_law_begun : FnScope ["script", "great", "cell"] ["script"] (defScope s_law_begun) := ⟨rfl, rfl, rfl, by decide +kernel, rfl, by decide +kernel, by decide +kernel⟩
def spBe : Sp := fun vs H Q _ => ∃ (sc : Addr) (ns : List Int), vs = [.ref sc] ∧ SqL K H sc (ns.map .int) ∧ ns.length ≤ 100000 ∧ ∀ H' st g c, Same H H' → H st = none → H g = none → H c = none → Stt st g c 0 H' → Q (.ref st) H'
theorem ok_begun {f : Addr} {fd : FuncData} (F : FnP K "_law_begun" s_law_begun f fd) (Z : Zs mg) : FnOk P w K mg base (L2.CX P w) 1 f fd ["script"] (spBe (K := K)) := by
  refine F.ok sc_law_begun (fun vs H Q E h => ?_) (fun cdv A outer s H vs Q E hr h => ?_)
  · obtain ⟨_, _, rfl, _⟩ := h
    rfl
  obtain ⟨sc, ns, rfl, hs, hn, h⟩ := h
  refine ⟨_, (pss_cons (ps_setLc (i := 1) (own := [("cell", 2)]) (g := gName 2) rfl sc_law_begun.nd rfl rfl (sw_true rfl rfl rfl (by decide +kernel)) (pi_list (pv 0)) (blkOk_by (own := [("cell", 2)]) (N := ["script", "great", "cell"]) (sc := defScope s_law_begun) (by decide +kernel)) (fun _ _ _ _ _ => pg_name (i := 2) sc_law_begun.nd rfl (Or.inl rfl)) (fun _ _ _ _ _ => (pts_one (pt_cmpR op_ge (pe_callB call_abs (by rfl) Z.abs_ (by decide +kernel) (pa_cons (pv 2) pa_nil)) (pe_op op_pow pe_int pe_int) (nomark _)))) (fun _ _ _ _ _ => (pe_op op_sub (pe_callB call_abs (by rfl) Z.abs_ (by decide +kernel) (pa_cons (pv 2) pa_nil)) (pe_op op_pow pe_int pe_int))))
    (pss_one (ps_ret (pe_disp (pps_cons pe_str (pv 1) (pps_cons pe_str (pe_lc (own := [("cell", 2)]) (g := gName 2) (tt := tYes) rfl sc_law_begun.nd (pi_list (pv 0)) (blkOk_by (own := [("cell", 2)]) (N := ["script", "great", "cell"]) (sc := defScope s_law_begun) (by decide +kernel)) (fun _ _ _ _ _ => pg_name (i := 2) sc_law_begun.nd rfl (Or.inl rfl)) (fun _ _ _ _ _ => pts_nil) (fun _ _ _ _ _ => (pe_callB call_abs (by rfl) Z.abs_ (by decide +kernel) (pa_cons (pv 2) pa_nil)))) (pps_cons pe_str pe_int (pps_cons pe_str pe_int pps_nil)))) (by rfl) (by rfl) (fun z => by cases z) (by decide))))), ?_⟩
  walk_at "ss"
  refine ⟨⟨_, hs⟩, fun D hD => ?_⟩
  refine lc_list (xs := ns.map .int) (fun i H' => Same H H' ∧ ∃ gs : List Int, gs.length ≤ i ∧ H' D = some (.lst (gs.map .int))) ⟨same_new hD _, [], Nat.le_refl 0, upd_same⟩ (fun i H' _ hv => sameL hv.1 hs) (fun i x H' hx hv => ?_) (fun H' hv => ?_)
  · obtain ⟨s1, gs, hg, hl⟩ := hv
    have hi : i < (ns.map V.int).length := get_lt hx
    rw [List.length_map] at hi
    obtain ⟨ce, _, rfl⟩ := List.mem_map.mp (List.mem_of_getElem? hx)
    walk_at "ss"
    refine ⟨⟨by decide, by decide, by decide⟩, ?_⟩
    walk_at "ss"
    refine ite2 (fun c1 => ?_) (fun c1 => ?_)
    · walk_at "ss"
      refine ⟨⟨by decide, by decide, by decide⟩, ?_⟩
      walk_at "ss"
      refine ⟨_, hl, smallt (by rw [List.length_map]; omega), same_over hD s1 _, gs ++ [(if ce < 0 then -ce else ce) - 10 ^ Int.toNat 18], by rw [List.length_append, List.length_singleton]; omega, ?_⟩
      rw [upd_same, List.map_append]
      rfl
    · exact ⟨s1, gs, by omega, hl⟩
  · obtain ⟨s1, gs, hg, hl⟩ := hv
    walk_at "ss"
    intro p hp
    walk_at "ss"
    have s2 := same_new hp (.dK [])
    refine ⟨⟨_, sameL (s1.trans s2) hs⟩, fun D2 hD2 => ?_⟩
    refine lc_list (xs := ns.map .int) (fun i H3 => Same (upd H' p (.dK [])) H3 ∧ ∃ cs : List Int, cs.length ≤ i ∧ H3 D2 = some (.lst (cs.map .int))) ⟨same_new hD2 _, [], Nat.le_refl 0, upd_same⟩ (fun i H3 _ hv => sameL ((s1.trans s2).trans hv.1) hs) (fun i x H3 hx hv => ?_) (fun H3 hv => ?_)
    · obtain ⟨s3, cs, hc, hl3⟩ := hv
      have hi : i < (ns.map V.int).length := get_lt hx
      rw [List.length_map] at hi
      obtain ⟨ce, _, rfl⟩ := List.mem_map.mp (List.mem_of_getElem? hx)
      walk_at "ss"
      refine ⟨_, hl3, smallt (by rw [List.length_map]; omega), same_over hD2 s3 _, cs ++ [if ce < 0 then -ce else ce], by rw [List.length_append, List.length_singleton]; omega, ?_⟩
      rw [upd_same, List.map_append]
      rfl
    · obtain ⟨s3, cs, hc, hl3⟩ := hv
      walk_at "ss"
      refine ⟨s3 _ _ upd_same, [(.inr "great", .ref D), (.inr "cells", .ref D2), (.inr "left", .int 0), (.inr "turn", .int 0)], rfl, (show 4 ≤ 15 by decide), ?_⟩
      have nD : H' p ≠ H' D := by rw [hp, hl]; exact fun z => by cases z
      have hpD : D ≠ p := fun z => by rw [z, hp] at hl; cases hl
      have hDD : D ≠ D2 := fun z => by
        have := (s2 _ _ hl)
        rw [z, hD2] at this
        cases this
      have hpD2 : D2 ≠ p := fun z => by rw [z, upd_same] at hD2; cases hD2
      have hS : Stt p D D2 0 (upd H3 p (.dK (mergeK [] [(.inr "great", .ref D), (.inr "cells", .ref D2), (.inr "left", .int 0), (.inr "turn", .int 0)]))) := by
        refine ⟨Ne.symm hDD, ⟨0, 0, Nat.le_refl 0, upd_same⟩, ⟨gs, ?_⟩, ⟨cs, ?_⟩⟩
        · rw [upd_ne hpD]; exact s3 _ _ (s2 _ _ hl)
        · rw [upd_ne hpD2]; exact hl3
      have hnone : ∀ b, H' b = none → H b = none := fun b z => by
        cases e : H b with
        | none => rfl
        | some o => rw [s1 _ _ e] at z; cases z
      refine h _ p D D2 ?_ (hnone _ hp) hD ?_ hS
      · exact same_over (hnone _ hp) ((s1.trans s2).trans s3) _
      · have : H' D2 = none := by
          cases e : H' D2 with
          | none => rfl
          | some o => rw [s2 _ _ e] at hD2; cases hD2
        exact hnone _ this

theorem sc_law_caught : FnScope ["work", "caught", "error"] ["work"] (defScope s_law_caught) := ⟨rfl, rfl, rfl, by decide +kernel, rfl, by decide +kernel, by decide +kernel⟩
theorem takes_len {X : Cx} {W : WX} (t : Takes X W) : Takes X (fun c d σ H => σ.length = X.N.length → W c d σ H) := fun u s' ⟨a, B, sI, pins, σ, H, cls, d, e, I, nb, up, sky, na, os, ag, w⟩ => t u s' ⟨a, B, sI, pins, σ, H, cls, d, e, I, nb, up, sky, na, os, ag, w I.len⟩
/-- what _law_caught makes of its deed -/
def TTc (K : PySem.W.Frag) (CE : Addr) : (XK → Hp → VK → Prop) → Hp → VK → Prop := fun tl H Q =>
  ∀ N : Hp → Prop, (∀ H', Q .non H' → N H') → tl (fun cls d H' => PySem.W.exmOne K cls (.ref CE) = some true ∧ ∀ a, H' a = none → Q (.ref a) (upd H' a (ExV a cls d))) H (fun _ H' => N H')
theorem caught_gives {X : Cx} {g CE : Addr} {cdg : Value} {q : Str} (hme : X.mg "LotError" = some (.ref CE)) :
    GivesTo X ["work", "caught", "error"] "_law_caught" (defScope s_law_caught) g cdg (defBody s_law_caught) "work" q (TTc X.K CE) := by
  intro f c' s H Q tl act hc h
  refine ⟨_, pss_cons (ps_set (i := 1) sc_law_caught.nd rfl (Or.inl rfl) pe_non) (pss_cons (ps_catch (X := (cxOf C8.CX0 X.prog X.w X.K X.mg X.base ["work", "caught", "error"] "_law_caught" (defScope s_law_caught) g cdg X.A X.stack s H C8.E0).nox) (i := 2) (j := 1) (c := .ref CE)
      (tb := fun W D σ H => ∃ Ech : XK, (∀ cls d σ' H', Ech cls d H' → σ'.length = 3 → W cls d σ' H') ∧ σ[0]? = some (some (.ref f)) ∧ H c' = some (CodeO c' q) ∧ tl Ech H (fun _ H' => D.nx σ H'))
      rfl rfl rfl sc_law_caught.nd rfl rfl (by decide) rfl rfl ⟨rfl, rfl, .inl hme⟩ (by decide) (by decide) (fun W pn xe tk _ => ?_)) (pss_one (ps_ret (pv 1)))), ?_⟩
  · refine ⟨fun pins s' σ H' D I h' => ?_⟩
    obtain ⟨Ech, hW, h1, h2, h3⟩ := h'
    exact (pss_one (ps_expr (act (fun c d σ H => σ.length = 3 → W c d σ H) pn xe Ech _ _ (takes_len tk) hW))).run pins s' σ H' D I ⟨h1, h2, h3⟩
  · walk_at "ss"
    refine ⟨fun cls d H' => PySem.W.exmOne X.K cls (.ref CE) = some true ∧ ∀ a, H' a = none → Q (.ref a) (upd H' a (ExV a cls d)), fun cls d σ' H' e hl => ⟨e.1, fun a ha => ?_⟩, rfl, hc, h _ fun H' hq => ?_⟩
    rotate_left
    · walk_at "ss"
      exact hq
    match σ', hl with
    | [x0, x1, x2], _ =>
      walk_at "ss"
      exact e.2 a ha
/-- a def whose code object is known -/
structure FunC (K : PySem.W.Frag) (x : Str) (st : Stmt) (f : Addr) (fd : FuncData) (c : Addr) : Prop where
  ex : ∃ (oc : Value) (od : Option Addr) (dV kV doc pm : Value) (an : Option Addr) (ct : Value) (osl : Array (Option Value)),
    fd = PySem.W.fnOf x x (defArgs st) (defBody st) (defScope st) dV kV doc pm an (.ref c) ct ∧ K.lookup f = some ⟨oc, od, .func fd, osl⟩ ∧ PySem.W.codeIn K (.ref c) x = true
theorem FunC.ok {CX : CXT} {N ps : List Str} {k : Nat} {sp : Sp} {x : Str} {st : Stmt} {f c : Addr} {fd : FuncData} (F : FunC K x st f fd c) (S : FnScope N ps (defScope st)) (len : ∀ vs H Q E, sp vs H Q E → vs.length = ps.length)
    (hbody : ∀ (A : Around) (outer : List Env) (s : Shared) (H : Hp) (vs : List V) (Q : VK) (E : XK), Room k (A.deeper (envOfC x (defScope st) s.heap.objs.size f (.ref c))) → sp vs H Q E →
      ∃ t, PSs (cxOf CX P w K mg base N x (defScope st) f (.ref c) A outer s H E) (defBody st) t ∧ t { nx := fun _ H' => Q .non H', rt := Q } (L2.start N vs) H) : FnOk P w K mg base CX (k + 1) f fd ps sp := by
  obtain ⟨oc, od, dV, kV, doc, pm, an, ct, osl, rfl, lk, hcd⟩ := F.ex
  exact fn_of lk hcd S len fun A outer s H vs Q E hr hsp => hbody A outer s H vs Q E hr hsp
theorem pe_caught {X : Cx} {f c Pt CE : Addr} {fd : FuncData} {k : Nat} {params : Arguments} {body : Expr} {scope : Scope} {t : XK → TE} {p lpos pos : Pos} (F : FnP X.K "_law_caught" s_law_caught f fd) (M : Dat X.K X.mg "_law_caught" f fd ["work"]) (hme : X.mg "LotError" = some (.ref CE))
    (TB : TabB X.base X.mg c Pt) (hcode : X.env.code = .ref c) (hmT : (Pt, X.env.qual ++ "<lambda>") ∈ T) (hu : ∀ p ∈ T, p.1 = Pt → p.2 = X.env.qual ++ "<lambda>") (hr : Room (k + 2) X.A) (L : LamS X.env.scope scope)
    (hbody : ∀ (A : Around) (outer : List Env) (s : Shared) (H : Hp) (E : XK) (f c' : Addr), Room k (A.deeper (lamEnv X scope s.heap.objs.size f c')) → PE (lamCx X A outer s H E scope f c') body (t E)) (hg : Gl X "_law_caught" := by rfl) (hdef : defaultsOf params X.env = ([], []) := by rfl)
    (hbind : ∀ (q : Str) (cl : List (Str × Addr)) (pm cv ctv : Value), bindArgs (PySem.W.kla_fn "<lambda>" q params body scope cl pm cv ctv) ⟨[], []⟩ = pure [] := by intros; rfl) :
    PE X (.Call (.Name "_law_caught" p) [.Lambda params body scope lpos] [] pos) (tLam T (TTc X.K CE) t) := by
  obtain ⟨oc, od, dV, kV, doc, pm, an, cdv, ct, osl, rfl, lk, hcd, _, _⟩ := F.ex
  exact pe_lamcall (Ng := ["work", "caught", "error"]) hg M.g M.k lk hcd M.b sc_law_caught rfl (.inl rfl) (caught_gives hme) TB hcode hmT hu hr L hdef hbind hbody
end
end KK
/-! G1: a dict comprehension whose keys are tuples. -/
namespace KK
open PySem PySem.Spec PyProof.Rows L2
theorem dsetT {X : Cx} {pins : List (Addr × Obj)} {σ : L2.St} {H : Hp} {s : Shared} {E : Value → Shared → Prop} {D b : Addr} {kvs : List (List Key × V)} {k : List Key} {v : V} {r : Value} {Q : Unit → Shared → Prop} (hu : X.A.units < cLine) (I : Inv X pins σ H s) (hD : H D = some (.dT kvs)) (hb : H b = some (.tup (k.map kV)))
    (hz : kvs.length < sizeLine) (rv : RelV v r) (go : ∀ s', Inv X pins σ (upd H D (.dT (putK kvs k v))) s' → Q () s') : wpAny (model X.prog X.w) X.A (dictSet D (.ref b) r) Q E s := by
  obtain ⟨z, hd, xs, rel, dd⟩ := dt_of I.hok hD
  have hx : xs.length ≤ sizeLine := by rw [← Paired.length rel]; exact z
  have hp : (putK kvs k v).length ≤ sizeLine := by have := length_putK kvs k v; omega
  refine wpAny_dictSet_heap (hsz := hx) (show (tupleKind _).room _ from hu) (key_of I.hok hb) dd fun h2 d2 sb => go _ ?_
  obtain ⟨q, es, ep, e1, e2, e3, e4, _, e5⟩ := d2
  refine d_write I (by rw [hD]; exact True.intro) sb ⟨q, e1⟩ ⟨hp, hd, _, (rel.put k hb rv).keeps fun c ys ec => ?_, q, es, ep, e1, e2, e3, e4, e5⟩
  rw [upd_ne (ne_of ec hD (fun z => by cases z))]
  exact ec
/-- {k: v for target in iter if ..}, the keys tuples of ints and texts: D the new dict -/
def tDcT (wi : TI) (g : TG) (tt : TT) (tk tv : TE) (vs : List Nat) : TE := fun σ H Q => wi σ H fun J H1 => ∀ D, H1 D = none → ∃ W : Nat → Nat → Hp → Prop, (∃ m, W 0 m (upd H1 D (.dT []))) ∧ ∀ i m H, W i m H →
  (J.stop i H ∧ Q (.ref D) H) ∨ (J.go i H ∧ ∃ Nx : Hp → Prop, (∀ H', Nx H' → ∃ m', m' < m ∧ W (i + 1) m' H') ∧ ∀ x H', J.yld i H x H' → g x (wipe σ vs) H' fun σ2 H2 => wipe σ2 vs = wipe σ vs ∧ tt σ2 H2 fun b H3 =>
    if b = true then tk σ2 H3 fun y H4 => tv σ2 H4 fun z H5 => ∃ kvs k b, y = .ref b ∧ H5 b = some (.tup (k.map kV)) ∧ H5 D = some (.dT kvs) ∧ kvs.length < sizeLine ∧ Nx (upd H5 D (.dT (putK kvs k z))) else Nx H3)
section
variable {X : Cx}
/-- all that a part of the comprehension's block is read in -/
abbrev InBlk (X : Cx) (scope : Scope) (p : Cx → Prop) : Prop := ∀ (s : Shared) (H : Hp) (C : Addr) (cl : List (Str × Addr)) (fp : List Addr), p (X.blk s H scope (compEnvC scope cl C X.env) fp)
theorem pe_dcT {kx vx tg iter : Expr} {ifs : List Expr} {scope : Scope} {own : List (Str × Nat)} {pos : Pos} {wi : TI} {g : TG} {tt : TT} {tk tv : TE} (hu : X.A.units < cLine) (hc : X.calm = true) (hN : X.N.Nodup) (hi : PI X tg iter wi) (ok : BlkOk X.N X.env.scope scope own)
    (hg : InBlk X scope fun Y => PG Y tg g) (ht : InBlk X scope fun Y => PTs Y ifs tt) (hk : InBlk X scope fun Y => PE Y kx tk) (he : InBlk X scope fun Y => PE Y vx tv) (hs : ∀ x, foldedSetIterable iter X.env x = pure x := by intro _; rfl) :
    PE X (.DictComp kx vx [⟨tg, iter, ifs, 0⟩] scope pos) (tDcT wi g tt tk tv (own.map (·.2))) := by
  refine ⟨fun pins s σ H Q I h => ?_⟩
  rw [arm_eval_DictComp]
  have clo : ∀ y ∈ scope.names, y.2 = .free → ∃ c, X.env.cells.lookup y.1 = some c := fun y hy e => (ok.free y hy e).elim (fun k => I.ok.has _ (.inl k)) (fun k => I.ok.has _ (.inr k))
  refine wpAny_comprehension_free (use := none) rfl hs (closure_ok clo) ok.kind (fun y hy e => by rw [ok.uniq y hy, e]) (thn (hi.run pins s σ H _ I h) fun xv sa hx => thn hx fun itv sb hb => ?_)
  obtain ⟨it, fp, tn, J, Hb, ei, Ib, T, stb, fb, q⟩ := hb
  subst ei
  refine wpAny_newObj_type (newEnv_comp ?_)
  generalize eD : sb.heap.objs.size = D
  have nD : Hb D = none := Ib.hok.fresh (Nat.le_of_eq eD)
  obtain ⟨W, ⟨m0, w0⟩, turn⟩ := q D nD
  generalize es : ({ sb with heap := sb.heap.push { cls := .type "dict", data := .dict #[] } } : Shared) = sc
  have esh : sc.heap = sb.heap.push { cls := .type "dict", data := .dict #[] } := by rw [← es]
  have Ic : Inv X pins σ (upd Hb D (.dT [])) sc := by
    subst es eD
    exact Ib.laid (t' := sb.toks) (fun b o e => Heap.get?_push_of_some _ e) (Nat.le_refl _) (dt_empty sb.heap Ib.big)
  have small_ : ∀ b ∈ fp, b < sb.heap.objs.size := fun b hb => let ⟨_, e, _⟩ := T.obj _ _ stb b hb; Heap.lt_size e
  have fc : ∀ b ∈ fp, FpOk X pins (upd Hb D (.dT [])) b ∧ b < sc.heap.objs.size := fun b hb => by
    have lt := small_ b hb
    refine ⟨⟨?_, (fb b hb).2⟩, by rw [esh, Heap.size_push]; exact Nat.lt_succ_of_lt lt⟩
    rw [upd_ne (fun z => Nat.ne_of_lt lt (z.trans eD.symm))]
    exact (fb b hb).1
  have stc : tn 0 sc.heap := T.keep _ _ _ stb fun b _ o e => by
    rw [esh]
    exact Heap.get?_push_of_some _ e
  have Id := block_start Ic ok hN fc
  have rg := hg sc (upd Hb D (.dT [])) sc.heap.objs.size (cellsFrom (sc.heap.objs.size + 1) scope.names (cloFrom X.env.cells scope.names [])) fp
  have rt := ht sc (upd Hb D (.dT [])) sc.heap.objs.size (cellsFrom (sc.heap.objs.size + 1) scope.names (cloFrom X.env.cells scope.names [])) fp
  have rk := hk sc (upd Hb D (.dT [])) sc.heap.objs.size (cellsFrom (sc.heap.objs.size + 1) scope.names (cloFrom X.env.cells scope.names [])) fp
  have rv := he sc (upd Hb D (.dT [])) sc.heap.objs.size (cellsFrom (sc.heap.objs.size + 1) scope.names (cloFrom X.env.cells scope.names [])) fp
  show codeAny _ _ (.compStart (.DictComp kx vx [⟨tg, iter, ifs, 0⟩] scope pos) 0 (.ref it) (.ref D) (compEnvC scope (cellsFrom (sc.heap.objs.size + 1) scope.names (cloFrom X.env.cells scope.names [])) sc.heap.objs.size X.env)) _ { sc with heap := pushCells (sc.heap.push { cls := .type "dict", data := .dict #[] }) scope.names }
  have nfp : ∀ b ∈ fp, (upd Hb D (.dT [])) b = none := fun b hb => (fc b hb).1.1
  generalize ece : compEnvC scope (cellsFrom (sc.heap.objs.size + 1) scope.names (cloFrom X.env.cells scope.names [])) sc.heap.objs.size X.env = ce at Id rg rt rk rv ⊢
  have ceL : ce.locals = sc.heap.objs.size := by subst ece; rfl
  generalize upd Hb D (.dT []) = Hc at Ic Id rg rt rk rv w0 nfp fc
  generalize ed : ({ sc with heap := pushCells (sc.heap.push { cls := .type "dict", data := .dict #[] }) scope.names } : Shared) = sd at Id ⊢
  have std : tn 0 sd.heap := T.keep _ _ _ stc fun b _ o e => by
    rw [← ed]
    exact pushCells_keeps _ _ _ _ (Heap.get?_push_of_some _ e)
  have stay : ∀ {σ' : L2.St} {H' : Hp} {s' : Shared}, Inv (X.blk sc Hc scope ce fp) [] σ' H' s' → (∀ b ∈ fp, H' b = none) → ∀ b ∈ fp, FpOk (X.blk sc Hc scope ce fp) [] H' b := fun {σ' H' s'} I' hn b hb =>
    ⟨hn b hb, (I'.ok.exf b hb).1, I'.ok.exfs b hb, .inl hb, fun x c e => (I'.ok.exf b hb).2 x c e, fun p hp => absurd (show p ∈ ([] : List (Addr × Obj)) ++ [] from hp) (by simp)⟩
  suffices loop : codeAny (model X.prog X.w) X.A (.compLoop (.DictComp kx vx [⟨tg, iter, ifs, 0⟩] scope pos) 0 (.ref it) (.ref D) ce) (compPost (model X.prog X.w) X.A X.xe none (EP X pins σ Q) (.ref D) sc.heap.objs.size) sd from
    codeAny_compStart_dict loop (T.self X.A 0 _ _ _ std loop)
  refine compLoop_anyD (fun n s' => ∃ i H', Inv (X.blk sc Hc scope ce fp) [] (wipe σ (own.map (·.2))) H' s' ∧ tn i s'.heap ∧ (∀ b ∈ fp, H' b = none) ∧ W i n H') ?_ m0 ⟨0, Hc, Id, std, nfp, w0⟩
  rintro n se ⟨i, He, Ie, ste, ne, we⟩
  rcases turn i n He we with ⟨stop, done⟩ | ⟨go, Nx, lower, step⟩
  · refine thnF (T.done (X.blk sc Hc scope ce fp) rfl rfl rfl hc i [] se _ He (fun _ _ => False) Ie (stay Ie ne) ste stop) fun r sf ⟨er, If⟩ => ?_
    subst er
    have Ig : Inv X pins σ He sf := Ic.call' (ch := fp) If.os If.base If.hok If.bare fun b hb => ⟨(fc b hb).1.2.2.2.1, (fc b hb).1.2.1, (fc b hb).1.2.2.2.2.1, (fc b hb).1.2.2.2.2.2⟩
    have nC : He sc.heap.objs.size = none := ceL ▸ If.free
    obtain ⟨m, hn, _⟩ := If.loc
    have hn2 : sf.heap.Ns sc.heap.objs.size m := ceL ▸ hn
    obtain ⟨f0, f1, _, f3, f4, f5⟩ := Ic.fpOk (Nat.le_refl _) nC
    exact ⟨m, hn2, fun hz sb => ⟨.ref D, He, Ig.turned (t' := sf.toks) (fun b o hb e => (sb.2 b hb).trans e) f0 f1 f3 f4 f5, rfl, done⟩⟩
  · refine thnF (T.item (X.blk sc Hc scope ce fp) rfl rfl rfl hc i [] se _ He (fun _ _ => False) Ie (stay Ie ne) ste go) fun r sf ⟨u, er, hf⟩ => ?_
    subst er
    refine thnF hf fun _ sg ⟨x, Hg, Ig, ru, yl, stg, ng⟩ => ?_
    refine thnF (rg.run _ sg _ Hg x u _ (Ig.pinned (stay Ig ng) (T.obj _ _ stg)) ru (step x Hg yl)) fun _ sh ⟨σh, Hh, Ih, hw, qh⟩ => ?_
    refine thnF (rt.run _ sh σh Hh _ Ih qh) fun b si ⟨Hi, Ii, qi⟩ => ?_
    have onward : ∀ {s' : Shared} {H' : Hp}, Inv (X.blk sc Hc scope ce fp) ([] ++ pinsAt fp sg.heap) σh H' s' → Nx H' → ∃ m, m < n ∧ ∃ i H', Inv (X.blk sc Hc scope ce fp) [] (wipe σ (own.map (·.2))) H' s' ∧ tn i s'.heap ∧ (∀ b ∈ fp, H' b = none) ∧ W i m H' := by
      intro s' H' I' nx
      obtain ⟨m', lt, w'⟩ := lower H' nx
      have held : ∀ b ∈ fp, ∀ o, sg.heap.get? b = some o → s'.heap.get? b = some o ∧ H' b = none := fun b hb o e =>
        have z := I'.pin (b, o) (List.mem_append_right _ (List.mem_append_right _ (mem_pinsAt hb e)))
        ⟨z.1, z.2.1⟩
      have len : (wipe σ (own.map (·.2))).length = σh.length := by rw [← hw, wipe_length]
      refine ⟨m', lt, i + 1, H', (I'.unpinned (pins := [])).weak len (fun j v e => ?_), T.keep _ _ _ stg fun b hb o e => (held b hb o e).1, fun b hb => ?_, w'⟩
      · rw [← hw] at e
        exact (wipe_some e).1
      · obtain ⟨o, e, _⟩ := T.obj _ _ stg b hb
        exact (held b hb o e).2
    cases b with
    | false =>
      simp only [Bool.false_eq_true, if_false] at qi ⊢
      exact onward Ii qi
    | true =>
      simp only [if_true] at qi ⊢
      refine thnF (rk.run _ si σh Hi _ Ii qi) fun z sj ⟨yk, Hj, Ij, rj, qj⟩ => ?_
      refine thnF (rv.run _ sj σh Hj _ Ij qj) fun z2 sk ⟨yv, Hk, Ik, rkv, kvs, k, ba, ek, hba, hD, hz, nx⟩ => ?_
      subst ek
      cases (show z = Value.ref ba from rj)
      exact dsetT (X := X.blk sc Hc scope ce fp) hu Ik hD hba hz rkv fun sl Il => onward Il nx
end
/-- its reading over anything that is walked: Kv by the turn, the heap -/
theorem dcT_it {J : It} {n : Nat} {G : Hp → Prop} {Y : Nat → Hp → V → Hp → Prop} (wk : Walk J n G Y) {g : TG} {tt : TT} {tk tv : TE} {vs : List Nat} {σ : L2.St} {H1 : Hp} {D : Addr} {End : Hp → Prop} (Kv : Nat → Hp → Prop) (start : Kv 0 (upd H1 D (.dT []))) (stands : ∀ i H, i ≤ n → Kv i H → G H)
    (turn : ∀ i x H H', i < n → Kv i H → Y i H x H' → g x (wipe σ vs) H' fun σ2 H2 => wipe σ2 vs = wipe σ vs ∧ tt σ2 H2 fun b H3 =>
      if b = true then tk σ2 H3 fun y H4 => tv σ2 H4 fun z H5 => ∃ kvs k b, y = .ref b ∧ H5 b = some (.tup (k.map kV)) ∧ H5 D = some (.dT kvs) ∧ kvs.length < sizeLine ∧ Kv (i + 1) (upd H5 D (.dT (putK kvs k z))) else Kv (i + 1) H3) (fin : ∀ H, Kv n H → End H) :
    ∃ W : Nat → Nat → Hp → Prop, (∃ m, W 0 m (upd H1 D (.dT []))) ∧ ∀ i m H, W i m H →
      (J.stop i H ∧ End H) ∨ (J.go i H ∧ ∃ Nx : Hp → Prop, (∀ H', Nx H' → ∃ m', m' < m ∧ W (i + 1) m' H') ∧ ∀ x H', J.yld i H x H' → g x (wipe σ vs) H' fun σ2 H2 => wipe σ2 vs = wipe σ vs ∧ tt σ2 H2 fun b H3 =>
        if b = true then tk σ2 H3 fun y H4 => tv σ2 H4 fun z H5 => ∃ kvs k b, y = .ref b ∧ H5 b = some (.tup (k.map kV)) ∧ H5 D = some (.dT kvs) ∧ kvs.length < sizeLine ∧ Nx (upd H5 D (.dT (putK kvs k z))) else Nx H3) := by
  refine ⟨fun i m H => i + m = n ∧ Kv i H, ⟨n, Nat.zero_add n, start⟩, fun i m H ⟨e, k⟩ => ?_⟩
  have gh := stands i H (by omega) k
  cases m with
  | zero =>
    obtain rfl : i = n := by omega
    exact .inl ⟨wk.stops H gh, fin H k⟩
  | succ m =>
    have lt : i < n := by omega
    exact .inr ⟨wk.goes i H lt gh, Kv (i + 1), fun H' k' => ⟨m, Nat.lt_succ_self m, by omega, k'⟩, fun x H' y => turn i x H H' lt k (wk.yields i H x H' lt gh y)⟩
end KK
/-! G2: sorted of a list of tuples of ints, any number of them. -/
namespace KK
open PySem PySem.Spec PyProof.Rows
/-- the order of lists of ints -/
def lexI : List Int → List Int → Bool
  | [], [] => false
  | [], _ :: _ => true
  | _ :: _, [] => false
  | x :: xs, y :: ys => if x = y then lexI xs ys else decide (x < y)
theorem lexI_irr : ∀ xs : List Int, lexI xs xs = false
  | [] => rfl
  | x :: xs => by
    unfold lexI
    rw [if_pos rfl]
    exact lexI_irr xs
theorem lexI_asym : ∀ xs ys : List Int, lexI xs ys = true → lexI ys xs = false
  | [], [], h => by cases h
  | [], _ :: _, _ => rfl
  | _ :: _, [], h => by cases h
  | x :: xs, y :: ys, h => by
    unfold lexI at h ⊢
    by_cases e : x = y
    · rw [if_pos e] at h
      rw [if_pos e.symm]
      exact lexI_asym xs ys h
    · rw [if_neg e] at h
      rw [if_neg (Ne.symm e)]
      have := of_decide_eq_true h
      exact decide_eq_false (by omega)
theorem lexI_tr : ∀ xs ys zs : List Int, lexI ys xs = false → lexI zs ys = false → lexI zs xs = false
  | [], [], zs, _, h => h
  | [], _ :: _, [], _, _ => rfl
  | [], _ :: _, _ :: _, _, _ => rfl
  | _ :: _, [], zs, h, _ => by cases h
  | _ :: _, _ :: _, [], _, h => by cases h
  | x :: xs, y :: ys, z :: zs, h1, h2 => by
    unfold lexI at h1 h2 ⊢
    by_cases e1 : y = x
    · subst e1
      rw [if_pos rfl] at h1
      by_cases e2 : z = y
      · subst e2
        rw [if_pos rfl] at h2 ⊢
        exact lexI_tr xs ys zs h1 h2
      · rw [if_neg e2] at h2 ⊢
        exact h2
    · rw [if_neg e1] at h1
      have a1 := of_decide_eq_false h1
      by_cases e2 : z = y
      · subst e2
        rw [if_neg e1]
        exact h1
      · rw [if_neg e2] at h2
        have a2 := of_decide_eq_false h2
        rw [if_neg (by omega)]
        exact decide_eq_false (by omega)
theorem lexI_swo (k : Value → List Int) : SrtO.Swo fun v u => lexI (k v) (k u) := ⟨fun x y h => lexI_asym _ _ h, fun x y z h1 h2 => lexI_tr _ _ _ h1 h2⟩
section
variable {prog : Program} {w : World} {A : Around} {s : Shared}
theorem kat_ints {c fin : Bool} {Q : Bool → Shared → Prop} : ∀ (xs ys : List Value) (ns ms : List Int) (i : Nat), IntsAre xs ns → IntsAre ys ms → fin = decide (ns.length < ms.length) → Q (lexI ns ms) s → PySem.W.KatLex prog w A c fin Q (xs.zip ys) i s
  | [], [], _, _, _, .nil, .nil, hf, h => PySem.W.kat_nil (by rw [hf]; exact h)
  | [], _ :: _, _, _, _, .nil, .cons _ _ _, hf, h => PySem.W.kat_nil (by rw [hf, decide_eq_true (by simp)]; exact h)
  | _ :: _, [], _, _, _, .cons _ _ _, .nil, hf, h => PySem.W.kat_nil (by rw [hf, decide_eq_false (by simp)]; exact h)
  | _ :: xs, _ :: ys, _, _, i, .cons n t r1, .cons m u r2, hf, h => by
    unfold lexI at h
    refine PySem.W.kat_cons (SeqAt.EqAt.int_int n t m u prog w _ _ ?_)
    refine PySem.W.kat_go (fun e => ?_) (fun e => ?_)
    · have ex : n = m := by simpa using e
      rw [if_pos ex] at h
      exact PySem.W.kat_yes (kat_ints xs ys _ _ (i + 1) r1 r2 (by rw [hf]; simp) h)
    · have ex : ¬ n = m := by simpa using e
      rw [if_neg ex] at h
      exact PySem.W.kat_no (TS.oneLt_ints _ h)
theorem tups_cmp {vs : List Value} {k : Value → List Int} (hp : ∀ v ∈ vs, TS.TupInts s.heap v (k v)) : SrtO.Cmp prog w A s (tuples' true) (fun p => p.1 ∈ vs) (SrtO.lt2 fun v u => lexI (k v) (k u)) := by
  intro p q mp mq
  show wpAny (model prog w) A (keyLt' (tuples' true) p.1 q.1) (fun r s' => s' = s ∧ r = lexI (k p.1) (k q.1)) (fun _ _ => False) s
  obtain ⟨a, xs, e, ⟨o, ho, _, n, hd⟩, ix⟩ := hp _ mp
  obtain ⟨b, ys, e', ⟨o', ho', _, n', hd'⟩, iy⟩ := hp _ mq
  rw [e, e']
  have l1 : xs.size = (k p.1).length := by rw [← Array.length_toList]; exact ix.length
  have l2 : ys.size = (k q.1).length := by rw [← Array.length_toList]; exact iy.length
  exact PySem.W.kat_lt ho hd ho' hd' (kat_ints _ _ _ _ 0 ix iy (by rw [l1, l2]) ⟨rfl, by rw [e, e']⟩)
theorem tups_firsts {h : Heap} {k : Value → List Int} : ∀ {vs : List Value}, (∀ v ∈ vs, TS.TupInts h v (k v) ∧ k v ≠ []) → ∃ fs : List Value, PySem.W.KatTups h vs fs ∧ fs.length = vs.length ∧ ∀ f ∈ fs, ∃ x t, f = Value.int x t
  | [], _ => ⟨[], PySem.W.KatTups.nil, rfl, fun _ m => nomatch m⟩
  | v :: vs, hp => by
    obtain ⟨fs, g1, g2, g3⟩ := tups_firsts (vs := vs) fun u m => hp u (List.mem_cons_of_mem _ m)
    obtain ⟨⟨a, xs, e, ⟨o, ho, hc, n, hd⟩, ix⟩, ne⟩ := hp v List.mem_cons_self
    generalize k v = ns at ix ne
    generalize el : xs.toList = l at ix
    cases ix with
    | nil => exact absurd rfl ne
    | @cons x t l' ns' r =>
      subst e
      have h0 : xs[0]? = some (.int x t) := by rw [← Array.getElem?_toList, el]; rfl
      refine ⟨.int x t :: fs, PySem.W.KatTups.cons ho hc hd h0 g1, by simp [g2], fun f m => ?_⟩
      rcases List.mem_cons.mp m with rfl | m
      · exact ⟨x, t, rfl⟩
      · exact g3 f m
theorem tups_sortable {a : Addr} {vs : List Value} {k : Value → List Int} (h0 : 0 < vs.length) (hp : ∀ v ∈ vs, TS.TupInts s.heap v (k v) ∧ k v ≠ []) (ha : ∀ o, s.heap.get? a = some o → o.cls ≠ .type "tuple") : SrtO.SortableO prog w A s a vs fun v u => lexI (k v) (k u) := by
  intro h' keep
  have hp' : ∀ v ∈ vs, TS.TupInts h' v (k v) ∧ k v ≠ [] := fun v m => ⟨(hp v m).1.keeps fun b o e c => keep b o (fun z => by subst z; exact ha o e c) e, (hp v m).2⟩
  obtain ⟨fs, g1, g2, g3⟩ := tups_firsts hp'
  refine ⟨tuples' true, fun Q E hq => ?_, tups_cmp fun v m => (hp' v m).1⟩
  refine PySem.W.kat_kind (T := .type "int") g1 (by omega) (fun f m => ?_) (by rfl) ?_
  · obtain ⟨x, t, rfl⟩ := g3 f m
    exact PySem.W.Looks.now
  · rw [show (Value.type "int" != Value.type "tuple") = true by first | decide +kernel | rfl]
    exact hq
end
end KK
namespace L2
open PySem PySem.Spec PyProof.Rows
/-- sorted(xs), xs a list of tuples of ints (k says which), none of them empty -/
def rSortTI (K : PySem.W.Frag) : List V → Hp → VK → Prop := fun vs H Q => ∃ (a : Addr) (xs : List V) (k : V → List Int), vs = [V.ref a] ∧ SqL K H a xs ∧ (∀ x ∈ xs, TupI K H x (k x) ∧ k x ≠ []) ∧
  ∀ ys p, SrtO.Srtd (fun x y => KK.lexI (k x) (k y)) ys → SrtO.Stb (fun x y => KK.lexI (k x) (k y)) ys xs → H p = none → Q (.ref p) (upd H p (.lst ys))
theorem lexV_swo (k : V → List Int) : SrtO.Swo fun x y => KK.lexI (k x) (k y) := ⟨fun _ _ h => KK.lexI_asym _ _ h, fun _ _ _ h1 h2 => KK.lexI_tr _ _ _ h1 h2⟩
theorem cr_sortedTI {X : Cx} : CallR X (.builtin "sorted") (rSortTI X.K) := by
  intro pins s σ H vs us Q I r h
  obtain ⟨a, xs, k, rfl, hs, hx, q⟩ := h
  obtain ⟨its, rv, hl, hz⟩ := I.list hs
  obtain ⟨u, rfl, ru⟩ := vals1 r
  obtain rfl : u = Value.ref a := ru
  obtain ⟨e1, e2⟩ := refs_back rv fun x m => let ⟨⟨t, e, _⟩, _⟩ := hx x m; ⟨t, e⟩
  have raw : ∀ v ∈ its, TS.TupInts s.heap v (k (backV v)) ∧ k (backV v) ≠ [] := fun v m => by
    obtain ⟨t, rfl⟩ := e2 v m
    have hm : V.ref t ∈ xs := by
      rw [e1]
      exact List.mem_map.mpr ⟨_, m, rfl⟩
    obtain ⟨⟨t', e, ht⟩, ne⟩ := hx _ hm
    cases e
    exact ⟨tupI_raw I ht, ne⟩
  refine SrtO.sorted_ord (KK.lexI_swo fun v => k (backV v)) hl.isList (by rw [← rv.length]; exact hz) (fun h2 h1 b hb kk => ?_) fun out o1 o2 => ?_
  · refine KK.tups_sortable (s := { s with heap := h1 }) (by omega) (fun v m => ⟨(raw v m).1.keeps fun c o e _ => (kk c o e).2, (raw v m).2⟩) fun o e => ?_
    cases Option.some.inj (e.symm.trans hb)
    exact fun c => absurd (Value.type.inj c) (by decide)
  · have refs : ∀ u ∈ out, ∃ a, u = Value.ref a := fun u hu => e2 u (o2.perm.mem_iff.mp hu)
    have st : SrtO.Stb (fun x y => KK.lexI (k x) (k y)) (out.map backV) xs := by
      rw [e1]
      exact SrtO.Stb.map (lexV_swo k) backV o2
    obtain ⟨n, hn⟩ := sortedAll_at s.heap its out.toArray
    refine ⟨.ref (s.heap.objs.size + 1), upd H (s.heap.objs.size + 1) (.lst (out.map backV)), I.laid (t' := s.toks) (fun _ _ => sortedAll_old) (Nat.le_succ _) ⟨?_, out, n, vals_back refs, hn⟩, rfl, q _ _ (SrtO.srtd_map o1) st (I.hok.fresh (Nat.le_succ _))⟩
    rw [st.len]
    exact hz
end L2
/-! G3: == and != of instances by an own __eq__, both answers. -/
namespace L2
open PySem PySem.Spec PyProof.Rows
/-- what a class with an own == and no != says -/
structure EqK (K : PySem.W.Frag) (C f : Addr) : Prop where
  at_ : PySem.W.findIn K (.ref C) "__eq__" = some (some (.ref f))
  fn : PySem.W.isFn K (.ref f) = true
  cls : ∃ nm q N bs hdct sn sub ab col dd k0 k1 k2 k3 k5 newId, K.lookup C = some (excClassObj nm q C N bs [.type "object"] hdct sn sub ab col dd k0 k1 k2 k3 k5 newId) ∧ PySem.W.nsOkIn K N = true ∧ PySem.W.nsIn K N "__eq__" = some (some (.ref f)) ∧ PySem.W.nsIn K N "__ne__" = some none
  fo : PySem.W.typeIn K (.ref f) = some (.type "function")
section
variable {X : Cx} {n : Nat} {C f : Addr} {fd : FuncData} {ps : List Str} {sp : Sp}
/-- the own == called at the two -/
theorem eq_called {A : Around} {pins : List (Addr × Obj)} {s : Shared} {σ : L2.St} {H : Hp} {a b : Addr} {Q : VK} (F : FnOk X.prog X.w X.K X.mg X.base (L2.CX X.prog X.w) n f fd ps sp) (hb : Binds X.K fd ps []) (sb : Sub X n A) (I : Inv X pins σ H s) (h : sp [.ref a, .ref b] H Q E0) :
    wpAny (model X.prog X.w) A (call (.ref f) [.ref a, .ref b]) (EP X pins σ Q) X.xe s := by
  have e0 : Env0 X.prog X.w X.K X.mg X.base A X.stack s H := by
    have e := I.env0
    exact ⟨by rw [sb.fr]; exact e.frames, e.mod, e.bs, e.bsz, e.funs, e.frf, e.hok, e.bare⟩
  have hl := F.len _ _ _ _ h
  have r2 : Vals [V.ref a, V.ref b] [Value.ref a, Value.ref b] := .cons rfl (.cons rfl .nil)
  refine wpAny_call (codeAny_mono (F.run A X.stack s H ⟨[.ref a, .ref b], []⟩ [.ref a, .ref b] [.ref a, .ref b] _ E0 sb.room e0 (by
    have := hb s [.ref a, .ref b] I.kIn (by simpa using hl)
    simpa using this) r2 h) fun r s' hq => ?_)
  cases r with
  | error e => exact passL pins σ H s e s' I hq
  | ok fl =>
    cases fl with
    | ret u => exact I.after hq
    | next => exact False.elim hq
    | brk => exact False.elim hq
    | cont => exact False.elim hq
/-- x == y, x != y, both instances of the class at C -/
def rEqO (C : Addr) (sp : Sp) (neg : Bool) : R2 := fun x y H Q => ∃ a b dx dy fs gs, x = .ref a ∧ y = .ref b ∧ H a = some (.ins C dx fs) ∧ H b = some (.ins C dy gs) ∧ sp [.ref a, .ref b] H (fun v H' => ∃ c, v = .bl c ∧ Q (.bl (if neg then !c else c)) H') E0
theorem op_eqO (k : EqK X.K C f) (F : FnOk X.prog X.w X.K X.mg X.base (L2.CX X.prog X.w) n f fd ps sp) (hb : Binds X.K fd ps []) (hr : Room n X.A) : OpR X (compareOp .Eq) (rEqO C sp false) := by
  intro pins s σ H x y v u Q I rx ry h
  obtain ⟨a, b, dx, dy, fs, gs, rfl, rfl, ha, hb', hs⟩ := h
  cases rx
  cases ry
  obtain ⟨mA, J, _⟩ := ins_get I.hok ha
  obtain ⟨mB, J', _⟩ := ins_get I.hok hb'
  obtain ⟨od, J, _⟩ := J.look
  obtain ⟨od', J', _⟩ := J'.look
  obtain ⟨m, hF⟩ := I.fr
  show wpAny (model X.prog X.w) X.A (richCompare .Eq (.ref a) (.ref b)) (EP X pins σ Q) X.xe s
  refine PySem.W.cmp_K (op := .Eq) (tb := .ref C) hr.units0 hF I.ok.mod.kin J J'.type (by simp [PySem.W.notFirst]) k.at_ k.fn ?_
  refine wpAny_mono (eq_called F hb ⟨hr, rfl⟩ I hs) (fun r s' q => ?_) fun _ _ e => e
  obtain ⟨z, H', I', rz, c, ez, q⟩ := q
  subst ez
  cases rz
  exact ⟨.bl c, H', I', rfl, q⟩
/-- a namespace's name in the written part -/
theorem ns_val {K : PySem.W.Frag} {h : Heap} {N : Addr} {m : Str → Option Value} {x : Str} {v : Value} (X : K.In h) (G : h.Ns N m) (e : PySem.W.nsIn K N x = some (some v)) : m x = some v := by
  obtain ⟨o, es, ep, ho, hd, _, hf⟩ := G
  unfold PySem.W.nsIn at e
  split at e
  · rename_i c d es' n sl hk
    have z := X _ _ hk
    rw [ho] at z
    cases z
    cases hd
    split at e
    · rename_i q hq
      cases e
      rw [← hf x]
      unfold nsFind findBy
      rw [← Array.find?_toList, hq] <;> rfl
    · split at e <;> cases e
  · cases e
theorem op_neO (k : EqK X.K C f) (F : FnOk X.prog X.w X.K X.mg X.base (L2.CX X.prog X.w) n f fd ps sp) (hb : Binds X.K fd ps []) (hr : Room (n + 1) X.A) : OpR X (compareOp .NotEq) (rEqO C sp true) := by
  intro pins s σ H x y v u Q I rx ry h
  obtain ⟨a, b, dx, dy, fs, gs, rfl, rfl, ha, hb', hs⟩ := h
  cases rx
  cases ry
  obtain ⟨mA, J, _⟩ := ins_get I.hok ha
  obtain ⟨mB, J', _⟩ := ins_get I.hok hb'
  obtain ⟨od, J, _⟩ := J.look
  obtain ⟨od', J', _⟩ := J'.look
  obtain ⟨nm, q, N, bs, hdct, sn, sub, ab, col, dd, k0, k1, k2, k3, k5, newId, lkC, hN, heq, hne⟩ := k.cls
  have kin := I.kIn
  obtain ⟨of, lkf, ef⟩ := Option.map_eq_some_iff.mp (show (X.K.lookup f).map (·.cls) = some (.type "function") from k.fo)
  have ns := Heap.Ns.of_isNs (PySem.W.isNs_of_in kin hN)
  have own : s.heap.OwnEqNoNe a C f "object" [.type "object"] := ⟨_, of, nm, q, N, bs, hdct, sn, sub, ab, col, dd, k0, k1, k2, k3, k5, newId, _, _, J.at_, J.cls, kin _ _ lkC, ns, ns_val kin ns heq, kin _ _ lkf, ef, PySem.F.cmp_object.mro, rfl, PySem.W.nsMap_none_of_in kin hN hne⟩
  refine compareOp_ne_ownEq PySem.F.cmp_object own J'.at_ J'.cls (Nat.lt_of_le_of_lt (Nat.add_le_add_left (by decide : 1 ≤ 64) _) hr.units) ?_
  refine wpAny_mono (eq_called F hb (Sub.in1 ⟨hr, rfl⟩) I hs) (fun r s' q => ?_) fun _ _ e => e
  obtain ⟨z, H', I', rz, c, ez, q⟩ := q
  subst ez
  cases rz
  exact ⟨c, rfl, .bl (!c), H', I', rfl, q⟩
end
end L2
/-! T2: numbers, rows. -/
namespace KK
open PySem PySem.Spec PyProof.Rows L2 LamX Cov
/-- one step of a reading -/
local macro_rules | `(tactic| walk_at "s") => `(tactic| first | refine ⟨_, rfl, ?_⟩ | refine ⟨_, _, rfl, rfl, ?_⟩ | refine ⟨rfl, ?_⟩ | refine ⟨⟨_, rfl⟩, ?_⟩)
local macro_rules | `(tactic| walk_at "ss") => `(tactic| repeat walk_at "s")
section
variable {P : Program} {w : World} {K : PySem.W.Frag} {mg : Str → Option Value} {base : Heap} {T : List (Addr × Str)}
/-- a value whose type is told -/
def Av (K : PySem.W.Frag) (H : Hp) (x : V) (b1 b2 : Bool) : Prop := ∃ z, TyX K H x z ∧ PySem.W.kitOne K z (.type "int") = some b1 ∧ PySem.W.kitOne K z (.type "bool") = some b2
theorem av_int {H : Hp} (i : Int) : Av K H (.int i) true false := ⟨_, isi_int i, kit_ty (by decide +kernel), kit_ty (by decide +kernel)⟩
theorem av_bl {H : Hp} (i : Bool) : Av K H (.bl i) true true := ⟨_, isi_bl i, kit_ty (by decide +kernel), kit_ty (by decide +kernel)⟩
theorem av_non {H : Hp} : Av K H .non false false := ⟨_, isi_non, kit_ty (by decide +kernel), kit_ty (by decide +kernel)⟩
theorem av_str {H : Hp} (x : Str) : Av K H (.str x) false false := ⟨_, isi_str x, kit_ty (by decide +kernel), kit_ty (by decide +kernel)⟩
theorem av_tup {H : Hp} {a : Addr} {xs : List V} (e : H a = some (.tup xs)) : Av K H (.ref a) false false := ⟨_, isi_tup e, kit_ty (by decide +kernel), kit_ty (by decide +kernel)⟩
theorem av_lst {H : Hp} {a : Addr} {xs : List V} (e : H a = some (.lst xs)) : Av K H (.ref a) false false := ⟨_, isi_lst e, kit_ty (by decide +kernel), kit_ty (by decide +kernel)⟩
theorem scis_number : FnScope ["thing"] ["thing"] (defScope sis_number) := ⟨rfl, rfl, rfl, by decide +kernel, rfl, by decide +kernel, by decide +kernel⟩
def spNum (K : PySem.W.Frag) : Sp := fun vs H Q _ => ∃ x b1 b2, vs = [x] ∧ Av K H x b1 b2 ∧ Q (.bl (b1 && !b2)) H
theorem ok_is_number {f : Addr} {fd : FuncData} (F : FnP K "is_number" sis_number f fd) (Z : Zs mg) : FnOk P w K mg base (L2.CX P w) 1 f fd ["thing"] (spNum K) := by
  refine F.ok scis_number (fun vs H Q E h => ?_) (fun cdv A outer s H vs Q E hr h => ?_)
  · obtain ⟨x, _, _, rfl, _⟩ := h
    rfl
  obtain ⟨x, b1, b2, rfl, ⟨z, ty, k1, k2⟩, h⟩ := h
  refine ⟨_, (pss_one (ps_ret (pe_and (pe_callB call_isi (by rfl) Z.isinstance_ (by decide +kernel) (pa_cons (pv 0) (pa_cons (pe_bltn (v := .ty "int") (by rfl) Z.int_ (by decide +kernel) rfl) pa_nil))) (pe_one (pe_not (pe_callB call_isi (by rfl) Z.isinstance_ (by decide +kernel) (pa_cons (pv 0) (pa_cons (pe_bltn (v := .ty "bool") (by rfl) Z.bool_ (by decide +kernel) rfl) pa_nil)))))))), ?_⟩
  walk_at "ss"
  refine ⟨_, _, _, _, b1, rfl, .ty _, ty, k1, ?_⟩
  walk_at "ss"
  refine ite2 (fun c => ?_) (fun c => ?_)
  · rw [c, Bool.true_and] at h
    walk_at "ss"
    refine ⟨_, _, _, _, b2, rfl, .ty _, ty, k2, ?_⟩
    walk_at "ss"
    exact h
  · rw [Bool.eq_false_iff.mpr c, Bool.false_and] at h
    exact h
theorem scis_between : FnScope ["thing", "low", "high"] ["thing", "low", "high"] (defScope sis_between) := ⟨rfl, rfl, rfl, by decide +kernel, rfl, by decide +kernel, by decide +kernel⟩
def spBet (K : PySem.W.Frag) : Sp := fun vs H Q _ => ∃ x lo hi, vs = [x, .int lo, .int hi] ∧ ((∃ i, x = .int i ∧ Q (.bl (decide (lo ≤ i) && decide (i ≤ hi))) H) ∨ (∃ b1 b2, Av K H x b1 b2 ∧ (b1 && !b2) = false ∧ Q (.bl false) H))
theorem ok_is_between {f fis_number : Addr} {fd fdn : FuncData} (F : FnP K "is_between" sis_between f fd) (Gis_number : FnOk P w K mg base (L2.CX P w) 1 fis_number fdn ["thing"] (spNum K)) (Mis_number : Dat K mg "is_number" fis_number fdn ["thing"]) :
    FnOk P w K mg base (L2.CX P w) 2 f fd ["thing", "low", "high"] (spBet K) := by
  refine F.ok scis_between (fun vs H Q E h => ?_) (fun cdv A outer s H vs Q E hr h => ?_)
  · obtain ⟨x, lo, hi, rfl, _⟩ := h
    rfl
  obtain ⟨x, lo, hi, rfl, h⟩ := h
  refine ⟨_, (pss_one (ps_ret (pe_and (pe_fn Gis_number Mis_number (hr.mono (by omega)) (pa_cons (pv 0) pa_nil)) (pe_one (pe_chain op_le op_le (pv 1) (pv 0) (pv 2)))))), ?_⟩
  rcases h with ⟨i, rfl, h⟩ | ⟨b1, b2, av, e, h⟩
  · walk_at "ss"
    refine ⟨_, _, _, rfl, av_int i, ?_⟩
    walk_at "ss"
    refine ite2 (fun c => ?_) (fun c => ?_)
    · walk_at "ss"
      rw [c, Bool.true_and] at h
      exact h
    · rw [Bool.eq_false_iff.mpr c, Bool.false_and] at h
      exact h
  · walk_at "ss"
    refine ⟨_, _, _, rfl, av, ?_⟩
    rw [e]
    walk_at "ss"
    exact h
/-- a row: n places, each 0 or 1 -/
def IsRow (n : Nat) (r : List Int) : Prop := r.length = n ∧ ∀ b ∈ r, 0 ≤ b ∧ b ≤ 1
theorem scis_tuple_of : FnScope ["thing", "many", "low", "high", "item"] ["thing", "many", "low", "high"] (defScope sis_tuple_of) := ⟨rfl, rfl, rfl, by decide +kernel, rfl, by decide +kernel, by decide +kernel⟩
def spTO : Sp := fun vs H Q _ => ∃ (a : Addr) (r : List Int) (n : Nat), vs = [.ref a, .int n, .int 0, .int 1] ∧ H a = some (.tup (r.map .int)) ∧ IsRow n r ∧ n ≤ 1000 ∧ ∀ H', Same H H' → Q (.bl true) H'
theorem ok_is_tuple_of {f fis_between : Addr} {fd fdb : FuncData} (F : FnP K "is_tuple_of" sis_tuple_of f fd) (Z : Zs mg) (Gis_between : FnOk P w K mg base (L2.CX P w) 2 fis_between fdb ["thing", "low", "high"] (spBet K)) (Mis_between : Dat K mg "is_between" fis_between fdb ["thing", "low", "high"]) :
    FnOk P w K mg base (L2.CX P w) 3 f fd ["thing", "many", "low", "high"] spTO := by
  refine F.ok scis_tuple_of (fun vs H Q E h => ?_) (fun cdv A outer s H vs Q E hr h => ?_)
  · obtain ⟨_, _, _, rfl, _⟩ := h
    rfl
  obtain ⟨a, r, n, rfl, ea, ⟨hl, hb⟩, hn, h⟩ := h
  refine ⟨_, (pss_one (ps_ret (pe_and (pe_callB call_isi (by rfl) Z.isinstance_ (by decide +kernel) (pa_cons (pv 0) (pa_cons (pe_bltn (v := .ty "tuple") (by rfl) Z.tuple_ (by decide +kernel) rfl) pa_nil))) (pe_and (pe_cmpR op_eq (pe_callB call_len_seq (by rfl) Z.len_ (by decide +kernel) (pa_cons (pv 0) pa_nil)) (pv 1) (nomark _)) (pe_one (pe_callB (cr_all rfl) (by rfl) Z.all_ (by decide +kernel) (pa_cons (pe_lc (own := [("item", 4)]) (g := gName 4) (tt := tYes) rfl scis_tuple_of.nd (pi_tup (pv 0)) (blkOk_by (own := [("item", 4)]) (N := ["thing", "many", "low", "high", "item"]) (sc := defScope sis_tuple_of) (by decide +kernel)) (fun _ _ _ _ _ => pg_name (i := 4) scis_tuple_of.nd rfl (Or.inl rfl)) (fun _ _ _ _ _ => pts_nil) (fun _ _ _ _ _ => (pe_fn Gis_between Mis_between (hr.mono (by omega)) (pa_cons (pv 4) (pa_cons (pv 2) (pa_cons (pv 3) pa_nil)))))) pa_nil))))))), ?_⟩
  walk_at "ss"
  refine ⟨_, _, _, _, true, rfl, .ty _, isi_tup ea, kit_ty (by decide +kernel), ?_⟩
  walk_at "ss"
  refine ⟨_, _, rfl, .inr (SqT.of ea), ?_⟩
  walk_at "ss"
  refine if_t (decide_eq_true (by rw [List.length_map, hl])) ?_
  walk_at "ss"
  refine ⟨⟨_, SqT.of ea⟩, fun D hD => ?_⟩
  refine lc_tup (xs := r.map .int) (fun i H' => Same H H' ∧ H' D = some (.lst (List.replicate i (.bl true)))) ⟨same_new hD _, upd_same⟩ (fun i H' _ hv => SqT.of (hv.1 _ _ ea)) (fun i x H' hx hv => ?_) (fun H' hv => ?_)
  · obtain ⟨b, hbm, rfl⟩ := List.mem_map.mp (List.mem_of_getElem? hx)
    have hi := get_lt hx
    rw [List.length_map] at hi
    obtain ⟨b0, b1⟩ := hb b hbm
    walk_at "ss"
    refine ⟨_, _, _, rfl, .inl ⟨_, rfl, ?_⟩⟩
    rw [decide_eq_true b0, decide_eq_true b1]
    refine ⟨_, hv.2, smallt (by rw [List.length_replicate]; omega), same_over hD hv.1 _, ?_⟩
    rw [upd_same, List.replicate_succ']
    rfl
  · walk_at "ss"
    refine ⟨_, List.replicate r.length true, rfl, ?_, ?_⟩
    · rw [List.map_replicate]
      have := hv.2
      rw [List.length_map] at this
      exact SqL.of this
    · rw [show (List.replicate r.length true).all id = true by simp]
      exact h _ hv.1
theorem scis_row : FnScope ["places", "thing"] ["places", "thing"] (defScope sis_row) := ⟨rfl, rfl, rfl, by decide +kernel, rfl, by decide +kernel, by decide +kernel⟩
def spRow : Sp := fun vs H Q _ => ∃ (a : Addr) (r : List Int) (n : Nat), vs = [.int n, .ref a] ∧ H a = some (.tup (r.map .int)) ∧ IsRow n r ∧ n ≤ 1000 ∧ ∀ H', Same H H' → Q (.bl true) H'
theorem ok_is_row {f fis_tuple_of : Addr} {fd fdt : FuncData} (F : FnP K "is_row" sis_row f fd) (Gis_tuple_of : FnOk P w K mg base (L2.CX P w) 3 fis_tuple_of fdt ["thing", "many", "low", "high"] spTO) (Mis_tuple_of : Dat K mg "is_tuple_of" fis_tuple_of fdt ["thing", "many", "low", "high"]) :
    FnOk P w K mg base (L2.CX P w) 4 f fd ["places", "thing"] spRow := by
  refine F.ok scis_row (fun vs H Q E h => ?_) (fun cdv A outer s H vs Q E hr h => ?_)
  · obtain ⟨_, _, _, rfl, _⟩ := h
    rfl
  obtain ⟨a, r, n, rfl, ea, hrow, hn, h⟩ := h
  refine ⟨_, (pss_one (ps_ret (pe_fn Gis_tuple_of Mis_tuple_of (hr.mono (by omega)) (pa_cons (pv 1) (pa_cons (pv 0) (pa_cons pe_int (pa_cons pe_int pa_nil))))))), ?_⟩
  walk_at "ss"
  exact ⟨a, r, n, rfl, ea, hrow, hn, h⟩
end
end KK
/-! T3: rows that are looked at. -/
namespace KK
open PySem PySem.Spec PyProof.Rows L2 LamX Cov
/-- one step of a reading -/
local macro_rules | `(tactic| walk_at "s") => `(tactic| first | refine ⟨_, rfl, ?_⟩ | refine ⟨_, _, rfl, rfl, ?_⟩ | refine ⟨rfl, ?_⟩ | refine ⟨⟨_, rfl⟩, ?_⟩)
local macro_rules | `(tactic| walk_at "ss") => `(tactic| repeat walk_at "s")
section
variable {P : Program} {w : World} {K : PySem.W.Frag} {mg : Str → Option Value} {base : Heap} {T : List (Addr × Str)}
/-- v is the row r -/
def RowV (H : Hp) (v : V) (r : List Int) : Prop := ∃ a, v = .ref a ∧ H a = some (.tup (r.map .int))
theorem RowV.tups {H H' : Hp} (e : ∀ b xs, H b = some (.tup xs) → H' b = some (.tup xs)) {v : V} {r : List Int} (h : RowV H v r) : RowV H' v r := let ⟨a, h1, h2⟩ := h; ⟨a, h1, e _ _ h2⟩
/-- values of rows -/
abbrev RowsV (H : Hp) : List V → List (List Int) → Prop := Paired (RowV H)
theorem RowsV.tups {H H' : Hp} (e : ∀ b xs, H b = some (.tup xs) → H' b = some (.tup xs)) {vs : List V} {rs : List (List Int)} (h : RowsV H vs rs) : RowsV H' vs rs := Paired.mapP h fun _ _ q => q.tups e
theorem RowsV.same {H H' : Hp} (e : Same H H') {vs : List V} {rs : List (List Int)} (h : RowsV H vs rs) : RowsV H' vs rs := h.tups fun b xs q => e b _ q
theorem RowsV.len {H : Hp} {vs : List V} {rs : List (List Int)} (h : RowsV H vs rs) : vs.length = rs.length := by
  induction h with
  | nil => rfl
  | cons _ _ ih => simp [ih]
/-- a row as a key; the dict of rows -/
def rk (r : List Int) : List Key := r.map Sum.inl
theorem rk_kV (r : List Int) : (rk r).map kV = r.map .int := by
  unfold rk
  rw [List.map_map]
  rfl
theorem rk_inj {r q : List Int} (h : rk r = rk q) : r = q := by
  unfold rk at h
  exact List.map_inj_right (fun _ _ e => Sum.inl.inj e) |>.mp h
def rdict (rs : List (List Int)) : List (List Key × V) := rs.map fun r => (rk r, .bl true)
theorem rdict_val {rs : List (List Int)} {r : List Int} : valV (rdict rs) (rk r) = if r ∈ rs then some (.bl true) else none := by
  induction rs with
  | nil => rfl
  | cons q rs ih =>
    by_cases e : q = r
    · subst e
      rw [if_pos List.mem_cons_self]
      exact valV_pos (p := (rk q, .bl true)) rfl
    · have : valV (rdict (q :: rs)) (rk r) = valV (rdict rs) (rk r) := valV_neg (p := (rk q, .bl true)) fun z => e (rk_inj z)
      rw [this, ih]
      by_cases m : r ∈ rs
      · rw [if_pos m, if_pos (List.mem_cons_of_mem _ m)]
      · rw [if_neg m, if_neg (fun z => (List.mem_cons.mp z).elim (fun z => e z.symm) m)]
theorem rdict_put {rs : List (List Int)} {r : List Int} (h : r ∉ rs) : putK (rdict rs) (rk r) (.bl true) = rdict (rs ++ [r]) := by
  unfold putK
  rw [if_neg]
  · simp [rdict]
  · simp only [List.any_eq_true, not_exists, not_and]
    intro p hp z
    obtain ⟨q, hq, rfl⟩ := List.mem_map.mp hp
    exact h (rk_inj (of_decide_eq_true z) ▸ hq)
theorem rget {H : Hp} {d b : Addr} {rs : List (List Int)} {r : List Int} (e : H d = some (.dT (rdict rs))) (eb : H b = some (.tup (r.map .int))) : DGet H d (.ref b) (if r ∈ rs then some (.bl true) else none) :=
  .inr ⟨_, rk r, b, .inl e, rfl, by rw [rk_kV]; exact eb, rdict_val.symm⟩
theorem scis_list : FnScope ["thing"] ["thing"] (defScope sis_list) := ⟨rfl, rfl, rfl, by decide +kernel, rfl, by decide +kernel, by decide +kernel⟩
def spIL : Sp := fun vs H Q _ => ∃ (a : Addr) (xs : List V), vs = [.ref a] ∧ H a = some (.lst xs) ∧ ∀ H', Same H H' → Q (.bl true) H'
theorem ok_is_list {f : Addr} {fd : FuncData} (F : FnP K "is_list" sis_list f fd) (Z : Zs mg) : FnOk P w K mg base (L2.CX P w) 1 f fd ["thing"] spIL := by
  refine F.ok scis_list (fun vs H Q E h => ?_) (fun cdv A outer s H vs Q E hr h => ?_)
  · obtain ⟨_, _, rfl, _⟩ := h
    rfl
  obtain ⟨a, xs, rfl, ea, h⟩ := h
  refine ⟨_, (pss_one (ps_ret (pe_callB call_isiT (by rfl) Z.isinstance_ (by decide +kernel) (pa_cons (pv 0) (pa_cons (pe_tup (pa_cons (pe_bltn (v := .ty "list") (by rfl) Z.list_ (by decide +kernel) rfl) (pa_cons (pe_bltn (v := .ty "tuple") (by rfl) Z.tuple_ (by decide +kernel) rfl) pa_nil))) pa_nil))))), ?_⟩
  walk_at "ss"
  refine ⟨small (by simp), fun p0 hp0 => ?_⟩
  walk_at "ss"
  refine ⟨_, _, _, _, _, true, rfl, upd_same, .cons (.ty _) (.cons (.ty _) .nil), isi_lst (nw hp0 ea), kitAny_cons (b := true) (kit_ty (by decide +kernel)) (fun z => by cases z) (fun _ => rfl), ?_⟩
  exact h _ (same_new hp0 _)
theorem scneed_rows : FnScope ["places", "rows", "known", "index", "row"] ["places", "rows"] (defScope sneed_rows) := ⟨rfl, rfl, rfl, by decide +kernel, rfl, by decide +kernel, by decide +kernel⟩
def spNR : Sp := fun vs H Q _ => ∃ (a : Addr) (n : Nat) (xs : List V) (rs : List (List Int)), vs = [.int n, .ref a] ∧ H a = some (.lst xs) ∧ RowsV H xs rs ∧ (∀ r ∈ rs, IsRow n r) ∧ rs.Nodup ∧ n ≤ 6 ∧ rs.length ≤ 100 ∧ ∀ H', Same H H' → Q .non H'
theorem ok_need_rows {f fis_list fis_row C D fI : Addr} {fd fdl fdr : FuncData} (F : FnP K "need_rows" sneed_rows f fd) (Z : Zs mg) (XBadRows : PySem.SupX.SupTxt P K mg "BadRows" C D fI "index")
    (Gis_list : FnOk P w K mg base (L2.CX P w) 1 fis_list fdl ["thing"] spIL) (Mis_list : Dat K mg "is_list" fis_list fdl ["thing"])
    (Gis_row : FnOk P w K mg base (L2.CX P w) 4 fis_row fdr ["places", "thing"] spRow) (Mis_row : Dat K mg "is_row" fis_row fdr ["places", "thing"]) :
    FnOk P w K mg base (L2.CX P w) 5 f fd ["places", "rows"] spNR := by
  refine F.ok scneed_rows (fun vs H Q E h => ?_) (fun cdv A outer s H vs Q E hr h => ?_)
  · obtain ⟨_, _, _, _, rfl, _⟩ := h
    rfl
  obtain ⟨a, n, xs, rs, rfl, ea, rv, hrow, hnd, hn, hlen, h⟩ := h
  refine ⟨_, (pss_cons (ps_if (pt_not (pt_val (pe_fn Gis_list Mis_list (hr.mono (by omega)) (pa_cons (pv 1) pa_nil)))) (pss_one (ps_raiseSup rfl XBadRows (hr.mono (show 0 + 1 ≤ _ by omega)) (takes_of rfl rfl rfl rfl) (pa_cons pe_non pa_nil) rfl)) pss_nil)
    (pss_cons (ps_set (i := 2) scneed_rows.nd rfl (Or.inl rfl) pe_dnewT)
    (pss_one (ps_for (passes_of rfl) rfl (pi_enum (by rfl) Z.enumerate_ (pa_cons (pv 1) pa_nil)) (pg_tup rfl (pgs_cons (pg_name (i := 3) scneed_rows.nd rfl (Or.inl rfl)) (pgs_cons (pg_name (i := 4) scneed_rows.nd rfl (Or.inl rfl)) pgs_nil))) (pss_cons (ps_if (PW.pt (pw_or (pt_not (pt_val (pe_fn Gis_row Mis_row (hr.mono (by omega)) (pa_cons (pv 0) (pa_cons (pv 4) pa_nil))))) (pw_or1 (pt_cmp (pc_din (hu_of hr) (pv 4) (pv 2)))))) (pss_one (ps_raiseSup rfl XBadRows (hr.mono (show 0 + 1 ≤ _ by omega)) (takes_of rfl rfl rfl rfl) (pa_cons (pv 3) pa_nil) rfl)) pss_nil)
    (pss_one (ps_dput (hu_of hr) (pv 2) (pv 4) pe_bl rfl))))))), ?_⟩
  walk_at "ss"
  refine ⟨a, xs, rfl, ea, fun H1 s1 => ?_⟩
  walk_at "ss"
  intro p0 hp0
  walk_at "ss"
  have s2 := s1.trans (same_new hp0 (.dT []))
  have hp0' := none_of s1 hp0
  refine ⟨a, xs, rfl, SqL.of (s2 _ _ ea), ?_⟩
  refine for_it walk_enum (fun i σ H' => (∃ y3 y4, σ = [some (.int n), some (.ref a), some (.ref p0), y3, y4]) ∧ Same H H' ∧ H' p0 = some (.dT (rdict (rs.take i)))) ⟨⟨_, _, rfl⟩, s2, upd_same⟩ (fun i σ H' _ hv => SqL.of (hv.2.1 _ _ ea)) (fun i x σ H' H'' hi hv hy => ?_) (fun σ H' hv => ?_)
  · obtain ⟨⟨y3, y4, rfl⟩, s3, ed⟩ := hv
    obtain ⟨t, u1, u2, rfl, ht, rfl, e1, e2⟩ := hy
    obtain rfl : V.int (i : Nat) = u1 := Option.some.inj e1
    obtain ⟨r, hr2, b, rfl, eb⟩ := L2.paired_get rv e2
    have hrm := List.mem_of_getElem? hr2
    have s4 := same_new ht (.tup [.int (i : Nat), .ref b])
    have s34 := s3.trans s4
    have eb4 := s34 _ _ eb
    have ed4 := s4 _ _ ed
    refine ⟨_, _, rfl, SqT.of upd_same, rfl, _, _, rfl, _, _, rfl, rfl, ?_⟩
    have nin : r ∉ rs.take i := fun z => by
      obtain ⟨j, hj, ej⟩ := List.mem_iff_getElem.mp z
      rw [List.length_take] at hj
      have e3 : rs[j]? = some r := by
        rw [← ej, List.getElem_take, List.getElem?_eq_getElem]
      have := (List.getElem?_inj (i := j) (by omega) hnd).mp (e3.trans hr2.symm)
      omega
    walk_at "ss"
    refine ⟨b, r, n, rfl, eb4, hrow r hrm, by omega, fun H5 s5 => ?_⟩
    walk_at "ss"
    refine ⟨_, _, rfl, rget (s5 _ _ ed4) (s5 _ _ eb4), ?_⟩
    rw [if_neg nin]
    walk_at "ss"
    refine ⟨_, _, rfl, .inr ⟨_, rk r, b, s5 _ _ ed4, rfl, by rw [rk_kV]; exact s5 _ _ eb4, smallt (by rw [rdict, List.length_map, List.length_take]; omega), rfl⟩, ?_⟩
    refine ⟨⟨_, _, rfl⟩, same_over hp0' (s34.trans s5) _, ?_⟩
    rw [upd_same, rdict_put nin, List.take_add_one, hr2]
    rfl
  · walk_at "ss"
    exact h _ hv.2.1
end
end KK
/-! T4: the class Lot. -/
namespace KK
open PySem PySem.Spec PyProof.Rows L2 LamX Cov
/-- one step of a reading -/
local macro_rules | `(tactic| walk_at "s") => `(tactic| first | refine ⟨_, rfl, ?_⟩ | refine ⟨_, _, rfl, rfl, ?_⟩ | refine ⟨rfl, ?_⟩ | refine ⟨⟨_, rfl⟩, ?_⟩)
local macro_rules | `(tactic| walk_at "ss") => `(tactic| repeat walk_at "s")
section
variable {P : Program} {w : World} {K : PySem.W.Frag} {mg : Str → Option Value} {base : Heap} {T : List (Addr × Str)}
/-- sorted lists of rows -/
def insR (r : List Int) : List (List Int) → List (List Int)
  | [] => [r]
  | q :: l => if lexI r q = true then r :: q :: l else q :: insR r l
def sortR : List (List Int) → List (List Int)
  | [] => []
  | r :: l => insR r (sortR l)
theorem insR_perm (r : List Int) : ∀ l, (insR r l).Perm (r :: l)
  | [] => .refl _
  | q :: l => by
    unfold insR
    split
    · exact .refl _
    · exact ((insR_perm r l).cons q).trans (.swap r q l)
theorem sortR_perm : ∀ l, (sortR l).Perm l
  | [] => .refl _
  | r :: l => (insR_perm r _).trans ((sortR_perm l).cons r)
theorem lexI_tri : ∀ xs ys : List Int, lexI xs ys = false → lexI ys xs = false → xs = ys
  | [], [], _, _ => rfl
  | [], _ :: _, h, _ => by cases h
  | _ :: _, [], _, h => by cases h
  | x :: xs, y :: ys, h1, h2 => by
    unfold lexI at h1 h2
    by_cases e : x = y
    · rw [if_pos e] at h1
      rw [if_pos e.symm] at h2
      rw [e, lexI_tri xs ys h1 h2]
    · rw [if_neg e] at h1
      rw [if_neg (Ne.symm e)] at h2
      have a := of_decide_eq_false h1
      have b := of_decide_eq_false h2
      omega
abbrev SrtR (l : List (List Int)) : Prop := SrtO.Srtd lexI l
theorem insR_srt (r : List Int) : ∀ l, SrtR l → SrtR (insR r l)
  | [], _ => SrtO.srtd_one _
  | q :: l, h => by
    obtain ⟨h1, h2⟩ := List.pairwise_cons.mp h
    unfold insR
    split
    · rename_i e
      refine List.pairwise_cons.mpr ⟨fun z hz => ?_, h⟩
      rcases List.mem_cons.mp hz with rfl | hz
      · exact lexI_asym _ _ e
      · exact lexI_tr r q z (lexI_asym _ _ e) (h1 z hz)
    · rename_i e
      refine List.pairwise_cons.mpr ⟨fun z hz => ?_, insR_srt r l h2⟩
      rcases List.mem_cons.mp ((insR_perm r l).mem_iff.mp hz) with rfl | hz
      · exact Bool.eq_false_iff.mpr e
      · exact h1 z hz
theorem sortR_srt : ∀ l, SrtR (sortR l)
  | [] => List.Pairwise.nil
  | r :: l => insR_srt r _ (sortR_srt l)
/-- one sorted list alone -/
theorem srt_uniq : ∀ {l m : List (List Int)}, SrtR l → SrtR m → l.Perm m → l = m
  | [], m, _, _, p => (List.Perm.eq_nil p.symm).symm
  | x :: l, [], _, _, p => absurd p.length_eq (by simp)
  | x :: l, y :: m, hl, hm, p => by
    have e : x = y := by
      refine lexI_tri x y ?_ ?_
      · rcases List.mem_cons.mp (p.mem_iff.mp List.mem_cons_self) with e | hx
        · rw [e]; exact lexI_irr y
        · exact SrtO.srtd_head hm x hx
      · rcases List.mem_cons.mp (p.mem_iff.mpr (List.mem_cons_self (a := y))) with e | hy
        · rw [e]; exact lexI_irr x
        · exact SrtO.srtd_head hl y hy
    subst e
    rw [srt_uniq (List.pairwise_cons.mp hl).2 (List.pairwise_cons.mp hm).2 p.cons_inv]
/-- the lot of n places with the rows rs at a -/
def IsLot (C : Addr) (H : Hp) (a : Addr) (n : Nat) (rs : List (List Int)) : Prop := ∃ dx t d vs, H a = some (.ins C dx [("own_places", .int (n : Nat)), ("own_rows", .ref t), ("own_known", .ref d)]) ∧ H t = some (.tup vs) ∧ RowsV H vs rs ∧ H d = some (.dT (rdict rs))
/-- what a lot's rows are -/
structure LotOk (n : Nat) (rs : List (List Int)) : Prop where
  n1 : 1 ≤ n
  n6 : n ≤ 6
  row : ∀ r ∈ rs, IsRow n r
  nd : rs.Nodup
  srt : SrtR rs
  len : rs.length ≤ 64
theorem IsLot.same {C : Addr} {H H' : Hp} {a : Addr} {n : Nat} {rs : List (List Int)} (s : Same H H') (h : IsLot C H a n rs) : IsLot C H' a n rs := by
  obtain ⟨dx, t, d, vs, h1, h2, h3, h4⟩ := h
  exact ⟨dx, t, d, vs, s _ _ h1, s _ _ h2, h3.same s, s _ _ h4⟩
/-- the class -/
structure LotK (K : PySem.W.Frag) (mg : Str → Option Value) (C fI pP gP pR gR fH fM fE : Addr) : Prop where
  g : mg "Lot" = some (.ref C)
  cls : Cls K C
  mkk : Mk K C fI
  p_places : PropOf K C "places" pP gP
  p_rows : PropOf K C "rows" pR gR
  m_has : Meth K C "has" fH
  m_many : Meth K C "many" fM
  eqk : EqK K C fE
  n1 : NoAttr K C "own_places"
  n2 : NoAttr K C "own_rows"
  n3 : NoAttr K C "own_known"
variable {C fI pP gP pR gR fH fM fE : Addr}
theorem scLot_places : FnScope ["self"] ["self"] (defScope sLot_places) := ⟨rfl, rfl, rfl, by decide +kernel, rfl, by decide +kernel, by decide +kernel⟩
def spPl (C : Addr) : Sp := fun vs H Q _ => ∃ a n rs, vs = [.ref a] ∧ IsLot C H a n rs ∧ Q (.int (n : Nat)) H
theorem ok_places {f : Addr} {fd : FuncData} (F : FnM K "places" "Lot.places" sLot_places f fd) (LC : LotK K mg C fI pP gP pR gR fH fM fE) : FnOk P w K mg base (L2.CX P w) 1 f fd ["self"] (spPl C) := by
  refine F.ok scLot_places (fun vs H Q E h => ?_) (fun cdv A outer s H vs Q E hr h => ?_)
  · obtain ⟨_, _, _, rfl, _⟩ := h
    rfl
  obtain ⟨a, n, rs, rfl, ⟨dx, t, d, xs, e1, e2, e3, e4⟩, h⟩ := h
  refine ⟨_, (pss_one (ps_ret (pe_fld (pv 0) (by rfl)))), ?_⟩
  walk_at "ss"
  exact ⟨a, C, dx, _, _, rfl, e1, LC.cls, LC.n1, rfl, h⟩
theorem scLot_rows : FnScope ["self"] ["self"] (defScope sLot_rows) := ⟨rfl, rfl, rfl, by decide +kernel, rfl, by decide +kernel, by decide +kernel⟩
def spRo (C : Addr) : Sp := fun vs H Q _ => ∃ a n rs, vs = [.ref a] ∧ IsLot C H a n rs ∧ ∀ t xs, H t = some (.tup xs) → RowsV H xs rs → Q (.ref t) H
theorem ok_rows {f : Addr} {fd : FuncData} (F : FnM K "rows" "Lot.rows" sLot_rows f fd) (LC : LotK K mg C fI pP gP pR gR fH fM fE) : FnOk P w K mg base (L2.CX P w) 1 f fd ["self"] (spRo C) := by
  refine F.ok scLot_rows (fun vs H Q E h => ?_) (fun cdv A outer s H vs Q E hr h => ?_)
  · obtain ⟨_, _, _, rfl, _⟩ := h
    rfl
  obtain ⟨a, n, rs, rfl, ⟨dx, t, d, xs, e1, e2, e3, e4⟩, h⟩ := h
  refine ⟨_, (pss_one (ps_ret (pe_fld (pv 0) (by rfl)))), ?_⟩
  walk_at "ss"
  exact ⟨a, C, dx, _, _, rfl, e1, LC.cls, LC.n2, rfl, h t xs e2 e3⟩
theorem scLot_many : FnScope ["self"] ["self"] (defScope sLot_many) := ⟨rfl, rfl, rfl, by decide +kernel, rfl, by decide +kernel, by decide +kernel⟩
def spMa (C : Addr) : Sp := fun vs H Q _ => ∃ a n rs, vs = [.ref a] ∧ IsLot C H a n rs ∧ Q (.int (rs.length : Nat)) H
theorem ok_many {f : Addr} {fd : FuncData} (F : FnM K "many" "Lot.many" sLot_many f fd) (Z : Zs mg) (LC : LotK K mg C fI pP gP pR gR fH fM fE) : FnOk P w K mg base (L2.CX P w) 1 f fd ["self"] (spMa C) := by
  refine F.ok scLot_many (fun vs H Q E h => ?_) (fun cdv A outer s H vs Q E hr h => ?_)
  · obtain ⟨_, _, _, rfl, _⟩ := h
    rfl
  obtain ⟨a, n, rs, rfl, ⟨dx, t, d, xs, e1, e2, e3, e4⟩, h⟩ := h
  refine ⟨_, (pss_one (ps_ret (pe_callB call_len_seq (by rfl) Z.len_ (by decide +kernel) (pa_cons (pe_fld (pv 0) (by rfl)) pa_nil)))), ?_⟩
  walk_at "ss"
  refine ⟨a, C, dx, _, _, rfl, e1, LC.cls, LC.n2, rfl, ?_⟩
  walk_at "ss"
  refine ⟨_, _, rfl, .inr (SqT.of e2), ?_⟩
  rw [e3.len]
  exact h
theorem scLot_has : FnScope ["self", "row"] ["self", "row"] (defScope sLot_has) := ⟨rfl, rfl, rfl, by decide +kernel, rfl, by decide +kernel, by decide +kernel⟩
def spHas (C : Addr) : Sp := fun vs H Q _ => ∃ a n rs b r, vs = [.ref a, .ref b] ∧ IsLot C H a n rs ∧ n ≤ 6 ∧ H b = some (.tup (r.map .int)) ∧ IsRow n r ∧ ∀ H', Same H H' → Q (.bl (decide (r ∈ rs))) H'
theorem ok_has {f fis_row : Addr} {fd fdr : FuncData} (F : FnM K "has" "Lot.has" sLot_has f fd) (LC : LotK K mg C fI pP gP pR gR fH fM fE) (Gis_row : FnOk P w K mg base (L2.CX P w) 4 fis_row fdr ["places", "thing"] spRow) (Mis_row : Dat K mg "is_row" fis_row fdr ["places", "thing"]) :
    FnOk P w K mg base (L2.CX P w) 5 f fd ["self", "row"] (spHas C) := by
  refine F.ok scLot_has (fun vs H Q E h => ?_) (fun cdv A outer s H vs Q E hr h => ?_)
  · obtain ⟨_, _, _, _, _, rfl, _⟩ := h
    rfl
  obtain ⟨a, n, rs, b, r, rfl, ⟨dx, t, d, xs, e1, e2, e3, e4⟩, hn, eb, hrow, h⟩ := h
  refine ⟨_, (pss_one (ps_ret (pe_and (pe_fn Gis_row Mis_row (hr.mono (by omega)) (pa_cons (pe_fld (pv 0) (by rfl)) (pa_cons (pv 1) pa_nil))) (pe_one (pe_cmp (pc_din (hu_of hr) (pv 1) (pe_fld (pv 0) (by rfl)))))))), ?_⟩
  walk_at "ss"
  refine ⟨a, C, dx, _, _, rfl, e1, LC.cls, LC.n1, rfl, ?_⟩
  walk_at "ss"
  refine ⟨b, r, n, rfl, eb, hrow, by omega, fun H1 s1 => ?_⟩
  walk_at "ss"
  refine ⟨a, C, dx, _, _, rfl, s1 _ _ e1, LC.cls, LC.n3, rfl, ?_⟩
  walk_at "ss"
  refine ⟨_, _, rfl, rget (s1 _ _ e4) (s1 _ _ eb), ?_⟩
  have := h H1 s1
  by_cases m : r ∈ rs
  · rw [if_pos m]
    rw [decide_eq_true m] at this
    exact this
  · rw [if_neg m]
    rw [decide_eq_false m] at this
    exact this
end
end KK
/-! T5: Lot.__init__. -/
namespace KK
open PySem PySem.Spec PyProof.Rows L2 LamX Cov
/-- one step of a reading -/
local macro_rules | `(tactic| walk_at "s") => `(tactic| first | refine ⟨_, rfl, ?_⟩ | refine ⟨_, _, rfl, rfl, ?_⟩ | refine ⟨rfl, ?_⟩ | refine ⟨⟨_, rfl⟩, ?_⟩)
local macro_rules | `(tactic| walk_at "ss") => `(tactic| repeat walk_at "s")
section
variable {P : Program} {w : World} {K : PySem.W.Frag} {mg : Str → Option Value} {base : Heap} {T : List (Addr × Str)}
variable {C fI pP gP pR gR fH fM fE : Addr}
/-- the row that a value is -/
def inV : V → Int
  | .int i => i
  | _ => 0
def rowOf (H : Hp) : V → List Int
  | .ref b => match H b with
    | some (.tup ys) => ys.map inV
    | _ => []
  | _ => []
theorem rowOf_eq {H : Hp} {v : V} {r : List Int} (h : RowV H v r) : rowOf H v = r := by
  obtain ⟨b, rfl, e⟩ := h
  show (match H b with | some (.tup ys) => ys.map inV | _ => []) = r
  rw [e]
  show (r.map V.int).map inV = r
  rw [List.map_map]
  exact List.map_id r
theorem rows_of {H : Hp} {vs : List V} {rs : List (List Int)} (h : RowsV H vs rs) : vs.map (rowOf H) = rs := by
  induction h with
  | nil => rfl
  | cons a _ ih => rw [List.map_cons, rowOf_eq a, ih]
theorem rows_mem {H : Hp} {vs : List V} {rs : List (List Int)} (h : RowsV H vs rs) : ∀ v ∈ vs, RowV H v (rowOf H v) ∧ rowOf H v ∈ rs := by
  induction h with
  | nil => intro v hv; exact absurd hv (by simp)
  | cons a _ ih =>
    intro v hv
    rcases List.mem_cons.mp hv with rfl | hv
    · rw [rowOf_eq a]; exact ⟨a, List.mem_cons_self⟩
    · exact ⟨(ih v hv).1, List.mem_cons_of_mem _ (ih v hv).2⟩
theorem rows_by {H : Hp} : ∀ {vs : List V}, (∀ v ∈ vs, RowV H v (rowOf H v)) → RowsV H vs (vs.map (rowOf H))
  | [], _ => .nil
  | v :: vs, h => .cons (h v List.mem_cons_self) (rows_by fun u m => h u (List.mem_cons_of_mem _ m))
/-- sorted values are the values of the sorted rows -/
theorem rows_sorted {H : Hp} {xs ys : List V} {rs : List (List Int)} (h : RowsV H xs rs) (hs : SrtO.Srtd (fun x y => lexI (rowOf H x) (rowOf H y)) ys) (hp : ys.Perm xs) : RowsV H ys (sortR rs) := by
  have e : ys.map (rowOf H) = sortR rs := srt_uniq (List.pairwise_map.mpr hs) (sortR_srt rs) (((hp.map _).trans (rows_of h ▸ .refl _)).trans (sortR_perm rs).symm)
  rw [← e]
  exact rows_by fun v m => (rows_mem h v (hp.mem_iff.mp m)).1
theorem fl2 {x y : V} : putF "own_rows" y [(("own_places" : Str), x)] = ([("own_places", x), ("own_rows", y)] : List (Str × V)) := by rfl
theorem fl3 {x y z : V} : putF "own_known" z [(("own_places" : Str), x), (("own_rows" : Str), y)] = ([("own_places", x), ("own_rows", y), ("own_known", z)] : List (Str × V)) := by rfl
theorem scLot___init__ : FnScope ["self", "places", "rows", "row"] ["self", "places", "rows"] (defScope sLot___init__) := ⟨rfl, rfl, rfl, by decide +kernel, rfl, by decide +kernel, by decide +kernel⟩
def spIni (C : Addr) : Sp := fun vs H Q _ => ∃ p dx a n xs rs, vs = [.ref p, .int (n : Nat), .ref a] ∧ H p = some (.ins C dx []) ∧ H a = some (.lst xs) ∧ RowsV H xs rs ∧ (∀ r ∈ rs, IsRow n r) ∧ rs.Nodup ∧ 1 ≤ n ∧ n ≤ 6 ∧ rs.length ≤ 64 ∧ ∀ H', (∀ b o, H b = some o → b ≠ p → H' b = some o) → IsLot C H' p n (sortR rs) → Q .non H'
theorem ok_init {f fis_between fneed_rows D : Addr} {fd fdb fdn : FuncData} (F : FnM K "__init__" "Lot.__init__" sLot___init__ f fd) (Z : Zs mg) (LC : LotK K mg C fI pP gP pR gR fH fM fE) {CP : Addr} (g_MOST_PLACES : mg "MOST_PLACES" = some (.int 6 t0)) (XBadPlaces : ExT K mg "BadPlaces" CP)
    (Gis_between : FnOk P w K mg base (L2.CX P w) 2 fis_between fdb ["thing", "low", "high"] (spBet K)) (Mis_between : Dat K mg "is_between" fis_between fdb ["thing", "low", "high"])
    (Gneed_rows : FnOk P w K mg base (L2.CX P w) 5 fneed_rows fdn ["places", "rows"] spNR) (Mneed_rows : Dat K mg "need_rows" fneed_rows fdn ["places", "rows"]) :
    FnOk P w K mg base (L2.CX P w) 6 f fd ["self", "places", "rows"] (spIni C) := by
  refine F.ok scLot___init__ (fun vs H Q E h => ?_) (fun cdv A outer s H vs Q E hr h => ?_)
  · obtain ⟨_, _, _, _, _, _, rfl, _⟩ := h
    rfl
  obtain ⟨p, dx, a, n, xs, rs, rfl, ep, ea, rv, hrow, hnd, h1, h6, hl, h⟩ := h
  refine ⟨_, (pss_cons (ps_if (pt_not (pt_val (pe_fn Gis_between Mis_between (hr.mono (by omega)) (pa_cons (pv 1) (pa_cons pe_int (pa_cons (pe_globI g_MOST_PLACES) pa_nil)))))) (pss_one (ps_raise rfl (takes_of rfl rfl rfl rfl) (pmk_x XBadPlaces))) pss_nil)
    (pss_cons (ps_expr (pe_fn Gneed_rows Mneed_rows (hr.mono (by omega)) (pa_cons (pv 1) (pa_cons (pv 2) pa_nil))))
    (pss_cons (ps_fld (pv 0) (pv 1) (by rfl))
    (pss_cons (ps_fld (pv 0) (pe_callTy call_tuple_of (by rfl) Z.tuple_ (by decide +kernel) (pa_cons (pe_callB cr_sortedTI (by rfl) Z.sorted_ (by decide +kernel) (pa_cons (pv 2) pa_nil)) pa_nil)) (by rfl))
    (pss_one (ps_fld (pv 0) (pe_dcT (own := [("row", 3)]) (g := gName 3) (tt := tYes) hr.units0 rfl scLot___init__.nd (pi_tup (pe_fld (pv 0) (by rfl))) (blkOk_by (own := [("row", 3)]) (N := ["self", "places", "rows", "row"]) (sc := defScope sLot___init__) (by decide +kernel)) (fun _ _ _ _ _ => pg_name (i := 3) scLot___init__.nd rfl (Or.inl rfl)) (fun _ _ _ _ _ => pts_nil) (fun _ _ _ _ _ => (pv 3)) (fun _ _ _ _ _ => pe_bl)) (by rfl))))))), ?_⟩
  walk_at "ss"
  refine ⟨_, _, _, rfl, .inl ⟨_, rfl, ?_⟩⟩
  rw [show (decide ((1 : Int) ≤ (n : Int)) && decide ((n : Int) ≤ 6)) = true by rw [Bool.and_eq_true, decide_eq_true_iff, decide_eq_true_iff]; omega]
  walk_at "ss"
  refine ⟨a, n, xs, rs, rfl, ea, rv, hrow, hnd, h6, by omega, fun H1 s1 => ?_⟩
  walk_at "ss"
  refine ⟨p, C, dx, [], rfl, s1 _ _ ep, LC.cls, LC.n1, (by show 0 < 1000; decide), ?_⟩
  walk_at "ss"
  have rv2 : RowsV (upd H1 p (.ins C dx (putF "own_places" (.int (n : Nat)) []))) xs rs := rv.tups fun b ys q => by
    rw [upd_ne (fun z => by subst z; rw [ep] at q; cases q)]
    exact s1 _ _ q
  refine ⟨a, xs, rowOf (upd H1 p (.ins C dx (putF "own_places" (.int (n : Nat)) []))), rfl, SqL.of (by rw [upd_ne (fun z => by subst z; rw [ep] at ea; cases ea)]; exact s1 _ _ ea), fun x hx => ⟨?_, ?_⟩, fun ys q hs hp nq => ?_⟩
  · obtain ⟨⟨t, e1, e2⟩, _⟩ := rows_mem rv2 x hx
    exact ⟨t, e1, SqT.of e2⟩
  · intro z
    have := (hrow _ (rows_mem rv2 x hx).2).1
    rw [z] at this
    exact absurd this (by show ¬ 0 = n; omega)
  have rv3 := (rows_sorted rv2 hs hp.perm)
  walk_at "ss"
  refine ⟨q, ys, rfl, .inl ⟨SqL.of upd_same, fun t ht => ?_⟩⟩
  walk_at "ss"
  have nqp : p ≠ q := fun z => by subst z; rw [upd_same] at nq; cases nq
  have ntq : q ≠ t := fun z => by subst z; rw [upd_same] at ht; cases ht
  have ntp : p ≠ t := fun z => by subst z; rw [upd_ne nqp, upd_same] at ht; cases ht
  refine ⟨p, C, dx, [("own_places", .int (n : Nat))], rfl, (by rw [upd_ne ntp, upd_ne nqp, upd_same]; rfl), LC.cls, LC.n2, (by show 1 < 1000; decide), ?_⟩
  rw [fl2]
  walk_at "ss"
  refine ⟨p, C, dx, _, _, rfl, upd_same, LC.cls, LC.n2, rfl, ?_⟩
  walk_at "ss"
  have s2 := same_new nq (.lst ys)
  have s3 := same_new ht (.tup ys)
  have rv4 : RowsV (upd (upd (upd (upd H1 p (.ins C dx (putF "own_places" (.int (n : Nat)) []))) q (.lst ys)) t (.tup ys)) p (.ins C dx [(("own_places" : Str), .int (n : Nat)), (("own_rows" : Str), .ref t)])) ys (sortR rs) :=
    ((rv3.same s2).same s3).tups fun b zs e => by
      rw [upd_ne (fun z => by subst z; rw [upd_ne ntp, upd_ne nqp, upd_same] at e; cases e)]
      exact e
  have et : (upd (upd (upd (upd H1 p (.ins C dx (putF "own_places" (.int (n : Nat)) []))) q (.lst ys)) t (.tup ys)) p (.ins C dx [(("own_places" : Str), .int (n : Nat)), (("own_rows" : Str), .ref t)])) t = some (.tup ys) := by
    rw [upd_ne ntp.symm, upd_same]
  have ec : (upd (upd (upd (upd H1 p (.ins C dx (putF "own_places" (.int (n : Nat)) []))) q (.lst ys)) t (.tup ys)) p (.ins C dx [(("own_places" : Str), .int (n : Nat)), (("own_rows" : Str), .ref t)])) p = some (.ins C dx [(("own_places" : Str), .int (n : Nat)), (("own_rows" : Str), .ref t)]) := upd_same
  have kc : ∀ b o, H b = some o → b ≠ p → (upd (upd (upd (upd H1 p (.ins C dx (putF "own_places" (.int (n : Nat)) []))) q (.lst ys)) t (.tup ys)) p (.ins C dx [(("own_places" : Str), .int (n : Nat)), (("own_rows" : Str), .ref t)])) b = some o := fun b o e nb => by
    rw [upd_ne nb]
    refine s3 _ _ (s2 _ _ ?_)
    rw [upd_ne nb]
    exact s1 _ _ e
  revert rv4 et ec kc
  generalize (upd (upd (upd (upd H1 p (.ins C dx (putF "own_places" (.int (n : Nat)) []))) q (.lst ys)) t (.tup ys)) p (.ins C dx [(("own_places" : Str), .int (n : Nat)), (("own_rows" : Str), .ref t)])) = Hc
  intro rv4 et ec kc
  have nds : (sortR rs).Nodup := (sortR_perm rs).nodup_iff.mpr hnd
  have lns : (sortR rs).length ≤ 64 := by rw [(sortR_perm rs).length_eq]; exact hl
  refine ⟨⟨ys, SqT.of et⟩, fun D nD => ?_⟩
  refine dcT_it walk_tup (fun i H' => (∀ b o, Hc b = some o → H' b = some o) ∧ H' D = some (.dT (rdict ((sortR rs).take i)))) ⟨same_new nD _, upd_same⟩ (fun i H' _ hv => SqT.of (hv.1 _ _ et)) (fun i x H' H'' hi hv hy => ?_) (fun H' hv => ?_)
  · obtain ⟨rfl, e2⟩ := hy
    obtain ⟨r, hr2, b, rfl, eb⟩ := L2.paired_get rv4 e2
    have nin : r ∉ (sortR rs).take i := fun z => by
      obtain ⟨j, hj, ej⟩ := List.mem_iff_getElem.mp z
      rw [List.length_take] at hj
      have e3 : (sortR rs)[j]? = some r := by
        rw [← ej, List.getElem_take, List.getElem?_eq_getElem]
      have := (List.getElem?_inj (i := j) (by omega) nds).mp (e3.trans hr2.symm)
      omega
    walk_at "ss"
    refine ⟨_, rk r, b, rfl, by rw [rk_kV]; exact hv.1 _ _ eb, hv.2, smallt (by rw [rdict, List.length_map, List.length_take]; omega), same_over (H := Hc) nD hv.1 _, ?_⟩
    rw [upd_same, rdict_put nin, List.take_add_one, hr2]
    rfl
  · have ntk : (sortR rs).take ys.length = sortR rs := by rw [rv4.len]; exact List.take_length
    rw [ntk] at hv
    walk_at "ss"
    refine ⟨p, C, dx, _, rfl, hv.1 _ _ ec, LC.cls, LC.n3, (by show 2 < 1000; decide), ?_⟩
    rw [fl3]
    have npD : p ≠ D := fun z => by subst z; rw [ec] at nD; cases nD
    have npt : p ≠ t := ntp
    refine h _ (fun b o e nb => ?_) ⟨dx, t, D, ys, upd_same, ?_, ?_, ?_⟩
    · rw [upd_ne nb]; exact hv.1 _ _ (kc _ _ e nb)
    · rw [upd_ne npt.symm]; exact hv.1 _ _ et
    · exact rv4.tups fun b zs e => by
        rw [upd_ne (fun z => by subst z; rw [ec] at e; cases e)]
        exact hv.1 _ _ e
    · rw [upd_ne npD.symm]; exact hv.2
end
end KK
/-! T6: powers of two, numbers of places. -/
namespace KK
open PySem PySem.Spec PyProof.Rows L2 LamX Cov
/-- one step of a reading -/
local macro_rules | `(tactic| walk_at "s") => `(tactic| first | refine ⟨_, rfl, ?_⟩ | refine ⟨_, _, rfl, rfl, ?_⟩ | refine ⟨rfl, ?_⟩ | refine ⟨⟨_, rfl⟩, ?_⟩)
local macro_rules | `(tactic| walk_at "ss") => `(tactic| repeat walk_at "s")
section
variable {P : Program} {w : World} {K : PySem.W.Frag} {mg : Str → Option Value} {base : Heap} {T : List (Addr × Str)}
theorem scpower_of_two : FnScope ["times", "found", "lap"] ["times"] (defScope spower_of_two) := ⟨rfl, rfl, rfl, by decide +kernel, rfl, by decide +kernel, by decide +kernel⟩
def spPow : Sp := fun vs H Q _ => ∃ n : Nat, vs = [.int n] ∧ n ≤ 1000 ∧ Q (.int ((2 : Int) ^ n)) H
theorem ok_power_of_two {f : Addr} {fd : FuncData} (F : FnP K "power_of_two" spower_of_two f fd) (Z : Zs mg) : FnOk P w K mg base (L2.CX P w) 1 f fd ["times"] spPow := by
  refine F.ok scpower_of_two (fun vs H Q E h => ?_) (fun cdv A outer s H vs Q E hr h => ?_)
  · obtain ⟨_, rfl, _⟩ := h
    rfl
  obtain ⟨n, rfl, hn, h⟩ := h
  refine ⟨_, (pss_cons (ps_set (i := 1) scpower_of_two.nd rfl (Or.inl rfl) pe_int)
    (pss_cons (ps_for (passes_of rfl) rfl (pi_range1 (by rfl) Z.range_ (pa_cons (pv 0) pa_nil)) (pg_name (i := 2) scpower_of_two.nd rfl (Or.inl rfl)) (pss_one (ps_set (i := 1) scpower_of_two.nd rfl (Or.inl rfl) (pe_op op_mul (pv 1) pe_int))))
    (pss_one (ps_ret (pv 1))))), ?_⟩
  walk_at "ss"
  refine ⟨by have : (0:Int) ≤ (n : Int) := Int.natCast_nonneg n; omega, by omega, ?_⟩
  rw [Int.toNat_natCast]
  refine for_it walk_range (fun i σ H' => (∃ y2, σ = [some (.int n), some (.int ((2 : Int) ^ i)), y2]) ∧ H' = H) ⟨⟨_, rfl⟩, rfl⟩ (fun i σ H' _ hv => trivial) (fun i x σ H' H'' hi hv hy => ?_) (fun σ H' hv => ?_)
  · obtain ⟨⟨y2, rfl⟩, rfl⟩ := hv
    obtain ⟨rfl, rfl⟩ := hy
    walk_at "ss"
    refine ⟨.inr (by omega), ?_⟩
    walk_at "ss"
    rfl
  · obtain ⟨⟨y2, rfl⟩, rfl⟩ := hv
    walk_at "ss"
    exact h
theorem sclots_many : FnScope ["places"] ["places"] (defScope slots_many) := ⟨rfl, rfl, rfl, by decide +kernel, rfl, by decide +kernel, by decide +kernel⟩
def spLM : Sp := fun vs H Q _ => ∃ n : Nat, vs = [.int n] ∧ n ≤ 6 ∧ Q (.int ((2 : Int) ^ 2 ^ n)) H
theorem ok_lots_many {f fpower_of_two : Addr} {fd fdp : FuncData} (F : FnP K "lots_many" slots_many f fd) (Gpower_of_two : FnOk P w K mg base (L2.CX P w) 1 fpower_of_two fdp ["times"] spPow) (Mpower_of_two : Dat K mg "power_of_two" fpower_of_two fdp ["times"]) : FnOk P w K mg base (L2.CX P w) 2 f fd ["places"] spLM := by
  refine F.ok sclots_many (fun vs H Q E h => ?_) (fun cdv A outer s H vs Q E hr h => ?_)
  · obtain ⟨_, rfl, _⟩ := h
    rfl
  obtain ⟨n, rfl, hn, h⟩ := h
  refine ⟨_, (pss_one (ps_ret (pe_fn Gpower_of_two Mpower_of_two (hr.mono (by omega)) (pa_cons (pe_fn Gpower_of_two Mpower_of_two (hr.mono (by omega)) (pa_cons (pv 0) pa_nil)) pa_nil)))), ?_⟩
  walk_at "ss"
  refine ⟨by omega, ?_⟩
  exact ⟨2 ^ n, by show [V.int ((2 : Int) ^ n)] = [V.int ((2 ^ n : Nat) : Int)]; rw [Int.natCast_pow]; rfl, Nat.le_trans (Nat.pow_le_pow_right (by omega) hn) (by decide), h⟩
end
end KK
/-! N1: rows, numbers: plain. -/
namespace KK
open PySem PySem.Spec PyProof.Rows L2 LamX Cov
/-- all rows of n places -/
def rowsN : Nat → List (List Int)
  | 0 => [[]]
  | n + 1 => (rowsN n).flatMap fun r => [r ++ [0], r ++ [1]]
theorem flat_len {α β : Type} (f g : α → β) : ∀ l : List α, (l.flatMap fun r => [f r, g r]).length = 2 * l.length
  | [] => rfl
  | a :: l => by
    rw [List.flatMap_cons, List.length_append, flat_len f g l, List.length_cons]
    simp
    omega
theorem rowsN_len : ∀ n, (rowsN n).length = 2 ^ n
  | 0 => rfl
  | n + 1 => by
    unfold rowsN
    rw [flat_len, rowsN_len n, Nat.pow_succ]
    omega
theorem rowsN_row : ∀ n, ∀ r ∈ rowsN n, IsRow n r
  | 0, r, h => by
    rw [List.mem_singleton.mp (show r ∈ [[]] from h)]
    exact ⟨rfl, fun b hb => absurd hb (by simp)⟩
  | n + 1, r, h => by
    unfold rowsN at h
    obtain ⟨q, hq, hr⟩ := List.mem_flatMap.mp h
    obtain ⟨hl, hb⟩ := rowsN_row n q hq
    have key : ∀ c : Int, (c = 0 ∨ c = 1) → IsRow (n + 1) (q ++ [c]) := fun c hc => ⟨by simp [hl], fun b hb' => by
      rcases List.mem_append.mp hb' with k | k
      · exact hb b k
      · rw [List.mem_singleton.mp k]; omega⟩
    rcases List.mem_cons.mp hr with rfl | hr
    · exact key 0 (.inl rfl)
    · rw [List.mem_singleton.mp hr]; exact key 1 (.inr rfl)
theorem snoc_of {α : Type} : ∀ (l : List α) (n : Nat), l.length = n + 1 → ∃ q c, l = q ++ [c] ∧ q.length = n
  | [], n, h => by simp at h
  | [a], 0, _ => ⟨[], a, rfl, rfl⟩
  | [a], n + 1, h => by simp at h
  | a :: b :: l, 0, h => by simp at h
  | a :: b :: l, n + 1, h => by
    obtain ⟨q, c, e, hl⟩ := snoc_of (b :: l) n (by simpa using h)
    exact ⟨a :: q, c, by rw [e]; rfl, by simp [hl]⟩
theorem rowsN_mem : ∀ n r, IsRow n r → r ∈ rowsN n
  | 0, r, h => by
    have := List.length_eq_zero_iff.mp h.1
    rw [this]
    exact List.mem_singleton.mpr rfl
  | n + 1, r, h => by
    obtain ⟨q, c, rfl, hl⟩ := snoc_of r n h.1
    unfold rowsN
    refine List.mem_flatMap.mpr ⟨q, rowsN_mem n q ⟨hl, fun b hb => h.2 b (List.mem_append_left _ hb)⟩, ?_⟩
    have := h.2 c (List.mem_append_right _ (List.mem_singleton.mpr rfl))
    rcases (show c = 0 ∨ c = 1 by omega) with rfl | rfl
    · exact List.mem_cons_self
    · exact List.mem_cons_of_mem _ (List.mem_singleton.mpr rfl)
theorem lexI_app : ∀ (r q : List Int) (s t : List Int), r.length = q.length → lexI r q = true → lexI (r ++ s) (q ++ t) = true
  | [], [], _, _, _, h => by cases h
  | [], _ :: _, _, _, h, _ => by simp at h
  | _ :: _, [], _, _, h, _ => by simp at h
  | x :: r, y :: q, s, t, h, k => by
    show (if x = y then lexI (r ++ s) (q ++ t) else decide (x < y)) = true
    have k' : (if x = y then lexI r q else decide (x < y)) = true := k
    by_cases e : x = y
    · rw [if_pos e] at k' ⊢
      exact lexI_app r q s t (by simpa using h) k'
    · rw [if_neg e] at k' ⊢
      exact k'
theorem lexI_pre : ∀ (r s t : List Int), lexI (r ++ s) (r ++ t) = lexI s t
  | [], _, _ => rfl
  | x :: r, s, t => by
    show (if x = x then lexI (r ++ s) (r ++ t) else decide (x < x)) = _
    rw [if_pos rfl, lexI_pre r s t]
theorem rowsN_lt : ∀ n, List.Pairwise (fun a b => lexI a b = true) (rowsN n)
  | 0 => List.pairwise_singleton _ _
  | n + 1 => by
    unfold rowsN
    refine List.pairwise_flatMap.mpr ⟨fun r _ => ?_, ?_⟩
    · refine List.pairwise_cons.mpr ⟨fun q hq => ?_, List.pairwise_singleton _ _⟩
      rw [List.mem_singleton.mp hq, lexI_pre]
      decide
    · refine List.Pairwise.imp_of_mem (fun {a b} ha hb h x hx y hy => ?_) (rowsN_lt n)
      have hl : a.length = b.length := by rw [(rowsN_row n a ha).1, (rowsN_row n b hb).1]
      have key : ∀ s t : List Int, lexI (a ++ s) (b ++ t) = true := fun s t => lexI_app a b s t hl h
      simp only [List.mem_cons, List.not_mem_nil, or_false] at hx hy
      rcases hx with rfl | rfl <;> rcases hy with rfl | rfl <;> exact key _ _
theorem srt_of_lt {l : List (List Int)} (h : List.Pairwise (fun a b => lexI a b = true) l) : SrtR l := h.imp fun {a b} k => lexI_asym a b k
theorem nd_of_lt {l : List (List Int)} (h : List.Pairwise (fun a b => lexI a b = true) l) : l.Nodup := h.imp fun {a b} k => fun e => by
  rw [e, lexI_irr] at k
  cases k
theorem lt_of_srt {l : List (List Int)} (h : SrtR l) (n : l.Nodup) : List.Pairwise (fun a b => lexI a b = true) l := by
  refine List.Pairwise.imp (R := fun a b => lexI b a = false ∧ a ≠ b) (fun {a b} k => ?_) (List.pairwise_and_iff.mpr ⟨h, n⟩)
  cases e : lexI a b with
  | true => rfl
  | false => exact absurd (lexI_tri a b e k.1) k.2
theorem rowsN_srt (n : Nat) : SrtR (rowsN n) := srt_of_lt (rowsN_lt n)
theorem rowsN_nd (n : Nat) : (rowsN n).Nodup := nd_of_lt (rowsN_lt n)
/-- lists in order with the same rows -/
theorem lt_ext : ∀ {l m : List (List Int)}, List.Pairwise (fun a b => lexI a b = true) l → List.Pairwise (fun a b => lexI a b = true) m → (∀ x, x ∈ l ↔ x ∈ m) → l = m
  | [], [], _, _, _ => rfl
  | [], y :: m, _, _, h => absurd ((h y).mpr List.mem_cons_self) (by simp)
  | x :: l, [], _, _, h => absurd ((h x).mp List.mem_cons_self) (by simp)
  | x :: l, y :: m, hl, hm, h => by
    obtain ⟨l1, l2⟩ := List.pairwise_cons.mp hl
    obtain ⟨m1, m2⟩ := List.pairwise_cons.mp hm
    have nx : x ∉ l := fun k => by have := l1 x k; rw [lexI_irr] at this; cases this
    have ny : y ∉ m := fun k => by have := m1 y k; rw [lexI_irr] at this; cases this
    have e : x = y := by
      rcases List.mem_cons.mp ((h x).mp List.mem_cons_self) with e | hx
      · exact e
      · rcases List.mem_cons.mp ((h y).mpr List.mem_cons_self) with e | hy
        · exact e.symm
        · have a := lexI_asym _ _ (m1 x hx)
          rw [l1 y hy] at a
          cases a
    subst e
    rw [lt_ext l2 m2 fun z => ⟨fun hz => ?_, fun hz => ?_⟩]
    · rcases List.mem_cons.mp ((h z).mp (List.mem_cons_of_mem _ hz)) with e | k
      · rw [e] at hz; exact absurd hz nx
      · exact k
    · rcases List.mem_cons.mp ((h z).mpr (List.mem_cons_of_mem _ hz)) with e | k
      · rw [e] at hz; exact absurd hz ny
      · exact k
theorem nodup_len : ∀ {l m : List (List Int)}, l.Nodup → (∀ x ∈ l, x ∈ m) → l.length ≤ m.length
  | [], _, _, _ => Nat.zero_le _
  | x :: l, m, h, s => by
    obtain ⟨h1, h2⟩ := List.nodup_cons.mp h
    have ih := nodup_len (l := l) (m := m.erase x) h2 fun y hy => (List.mem_erase_of_ne fun (e : y = x) => h1 (e ▸ hy)).mpr (s y (List.mem_cons_of_mem _ hy))
    have e := List.length_erase_of_mem (s x List.mem_cons_self)
    have p := List.length_pos_of_mem (s x List.mem_cons_self)
    rw [List.length_cons]
    omega
theorem pow64 {n : Nat} (h : n ≤ 6) : 2 ^ n ≤ 64 := Nat.le_trans (Nat.pow_le_pow_right (by omega) h) (by decide)
theorem lotOk_sub {n : Nat} (h1 : 1 ≤ n) (h6 : n ≤ 6) {l : List (List Int)} (h : l.Sublist (rowsN n)) : LotOk n l :=
  ⟨h1, h6, fun r hr => rowsN_row n r (h.subset hr), h.nodup (rowsN_nd n), List.Pairwise.sublist h (rowsN_srt n), Nat.le_trans h.length_le (by rw [rowsN_len]; exact pow64 h6)⟩
theorem lot_filter {n : Nat} {rs : List (List Int)} (h : LotOk n rs) : (rowsN n).filter (fun r => decide (r ∈ rs)) = rs := by
  refine lt_ext ((rowsN_lt n).sublist List.filter_sublist) (lt_of_srt h.srt h.nd) fun x => ?_
  rw [List.mem_filter, decide_eq_true_iff]
  exact ⟨fun k => k.2, fun k => ⟨rowsN_mem n x (h.row x k), k⟩⟩
theorem LotOk.sub {n : Nat} {rs : List (List Int)} (h : LotOk n rs) : rs.Sublist (rowsN n) := by
  rw [← lot_filter h]
  exact List.filter_sublist
theorem sortR_id {l : List (List Int)} (h : SrtR l) : sortR l = l := srt_uniq (sortR_srt l) h (sortR_perm l)
/-- a list of rows each once, in any sequence: sorted it is the filter -/
theorem sortR_filter {n : Nat} {rs : List (List Int)} (hr : ∀ r ∈ rs, IsRow n r) (hn : rs.Nodup) : sortR rs = (rowsN n).filter (fun r => decide (r ∈ rs)) := by
  refine lt_ext (lt_of_srt (sortR_srt rs) ((sortR_perm rs).nodup_iff.mpr hn)) ((rowsN_lt n).sublist List.filter_sublist) fun x => ?_
  rw [List.mem_filter, decide_eq_true_iff, (sortR_perm rs).mem_iff]
  exact ⟨fun k => ⟨rowsN_mem n x (hr x k), k⟩, fun k => k.2⟩
/-! numbers -/
def numP (p : List Int → Bool) : List (List Int) → Int
  | [] => 0
  | r :: l => (if p r = true then 1 else 0) + 2 * numP p l
theorem numP_app (p : List Int → Bool) : ∀ l m, numP p (l ++ m) = numP p l + 2 ^ l.length * numP p m
  | [], m => by show numP p m = 0 + 2 ^ 0 * numP p m; omega
  | r :: l, m => by
    show _ + 2 * numP p (l ++ m) = (_ + 2 * numP p l) + 2 ^ (l.length + 1) * numP p m
    rw [numP_app p l m, Int.pow_succ, Int.mul_add, Int.mul_comm (2 ^ l.length) 2, Int.mul_assoc, Int.add_assoc]
theorem numP_snoc (p : List Int → Bool) (l : List (List Int)) (r : List Int) : numP p (l ++ [r]) = numP p l + if p r = true then 2 ^ l.length else 0 := by
  rw [numP_app]
  show numP p l + 2 ^ l.length * ((if p r = true then 1 else 0) + 2 * 0) = _
  split <;> simp
theorem numP_congr {p q : List Int → Bool} : ∀ {l : List (List Int)}, (∀ r ∈ l, p r = q r) → numP p l = numP q l
  | [], _ => rfl
  | r :: l, h => by
    show _ + 2 * numP p l = _ + 2 * numP q l
    rw [h r List.mem_cons_self, numP_congr fun x hx => h x (List.mem_cons_of_mem _ hx)]
theorem numP_map (p : List Int → Bool) (f : List Int → List Int) : ∀ l, numP p (l.map f) = numP (fun r => p (f r)) l
  | [] => rfl
  | r :: l => by
    show _ + 2 * numP p (l.map f) = _
    rw [numP_map p f l]
    rfl
theorem two_pos (k : Nat) : (0 : Int) < 2 ^ k := by
  have : (0 : Int) < 2 := by omega
  exact Int.pow_pos this
theorem numP_lt (p : List Int → Bool) : ∀ l, 0 ≤ numP p l ∧ numP p l < 2 ^ l.length
  | [] => ⟨Int.le_refl 0, show (0 : Int) < 1 by omega⟩
  | r :: l => by
    have ⟨a, b⟩ := numP_lt p l
    show 0 ≤ _ + 2 * numP p l ∧ _ + 2 * numP p l < 2 ^ (l.length + 1)
    rw [Int.pow_succ]
    split <;> omega
/-- all bits -/
theorem numP_full {p : List Int → Bool} : ∀ {l : List (List Int)}, numP p l + 1 = 2 ^ l.length → ∀ r ∈ l, p r = true
  | [], _ => fun _ hr => absurd hr (by simp)
  | q :: l, h => fun r hr => by
    have ⟨a, b⟩ := numP_lt p l
    have h' : ((if p q = true then 1 else 0) + 2 * numP p l) + 1 = 2 ^ l.length * 2 := by rw [← Int.pow_succ]; exact h
    by_cases c : p q = true
    · rw [if_pos c] at h'
      rcases List.mem_cons.mp hr with rfl | k
      · exact c
      · exact numP_full (l := l) (by omega) r k
    · rw [if_neg c] at h'
      omega
theorem numP_all {p : List Int → Bool} : ∀ {l : List (List Int)}, (∀ r ∈ l, p r = true) → numP p l + 1 = 2 ^ l.length
  | [], _ => rfl
  | r :: l, h => by
    show (_ + 2 * numP p l) + 1 = 2 ^ (l.length + 1)
    have := numP_all (l := l) fun x hx => h x (List.mem_cons_of_mem _ hx)
    rw [if_pos (h r List.mem_cons_self), Int.pow_succ]
    omega
theorem numP_not (p : List Int → Bool) : ∀ l, numP (fun r => !p r) l = 2 ^ l.length - 1 - numP p l
  | [] => rfl
  | r :: l => by
    show (if (!p r) = true then 1 else 0) + 2 * numP (fun r => !p r) l = 2 ^ (l.length + 1) - 1 - ((if p r = true then 1 else 0) + 2 * numP p l)
    rw [numP_not p l, Int.pow_succ]
    have e1 : (if (true : Bool) = true then (1 : Int) else 0) = 1 := rfl
    have e0 : (if (false : Bool) = true then (1 : Int) else 0) = 0 := rfl
    cases p r
    · rw [Bool.not_false, e1, e0]; omega
    · rw [Bool.not_true, e1, e0]; omega
theorem numP_add {p q t : List Int → Bool} : ∀ {l : List (List Int)}, (∀ r ∈ l, (p r = true → q r = false) ∧ t r = (p r || q r)) → numP t l = numP p l + numP q l
  | [], _ => rfl
  | r :: l, h => by
    show _ + 2 * numP t l = (_ + 2 * numP p l) + (_ + 2 * numP q l)
    rw [numP_add (l := l) fun x hx => h x (List.mem_cons_of_mem _ hx)]
    obtain ⟨a, b⟩ := h r List.mem_cons_self
    rw [b]
    cases e : p r <;> cases e2 : q r
    · simp; omega
    · simp; omega
    · simp; omega
    · rw [a e] at e2; cases e2
/-- the rows of a number -/
def bitsOf : Int → List (List Int) → List (List Int)
  | _, [] => []
  | m, r :: l => if m % 2 = 1 then r :: bitsOf (m / 2) l else bitsOf (m / 2) l
theorem bitsOf_cons (m : Int) (r : List Int) (l : List (List Int)) : bitsOf m (r :: l) = if m % 2 = 1 then r :: bitsOf (m / 2) l else bitsOf (m / 2) l := rfl
theorem bitsOf_snoc : ∀ (m : Int) (l : List (List Int)) (r : List Int), bitsOf m (l ++ [r]) = bitsOf m l ++ if (m / 2 ^ l.length) % 2 = 1 then [r] else []
  | m, [], r => by
    show (if m % 2 = 1 then r :: bitsOf (m / 2) [] else bitsOf (m / 2) []) = [] ++ if (m / 2 ^ 0) % 2 = 1 then [r] else []
    rw [Int.pow_zero, Int.ediv_one]
    rfl
  | m, q :: l, r => by
    show (if m % 2 = 1 then q :: bitsOf (m / 2) (l ++ [r]) else bitsOf (m / 2) (l ++ [r])) = (if m % 2 = 1 then q :: bitsOf (m / 2) l else bitsOf (m / 2) l) ++ if (m / 2 ^ (l.length + 1)) % 2 = 1 then [r] else []
    rw [bitsOf_snoc (m / 2) l r, Int.pow_succ, Int.mul_comm, ← Int.ediv_ediv_of_nonneg (by omega)]
    by_cases c : m % 2 = 1
    · rw [if_pos c, if_pos c]; rfl
    · rw [if_neg c, if_neg c]
theorem bitsOf_sub : ∀ (m : Int) (l : List (List Int)), (bitsOf m l).Sublist l
  | _, [] => .slnil
  | m, r :: l => by
    unfold bitsOf
    split
    · exact (bitsOf_sub _ l).cons₂ r
    · exact (bitsOf_sub _ l).cons r
theorem bitsOf_num (p : List Int → Bool) : ∀ l, bitsOf (numP p l) l = l.filter p
  | [] => rfl
  | r :: l => by
    unfold bitsOf
    show (if ((if p r = true then 1 else 0) + 2 * numP p l) % 2 = 1 then r :: bitsOf (((if p r = true then 1 else 0) + 2 * numP p l) / 2) l else bitsOf (((if p r = true then 1 else 0) + 2 * numP p l) / 2) l) = _
    by_cases c : p r = true
    · rw [if_pos c, if_pos (by omega), show (1 + 2 * numP p l) / 2 = numP p l by omega, bitsOf_num p l, List.filter_cons_of_pos c]
    · rw [if_neg c, if_neg (by omega), show (0 + 2 * numP p l) / 2 = numP p l by omega, bitsOf_num p l, List.filter_cons_of_neg c]
theorem num_bits : ∀ {m : Int} {l : List (List Int)}, l.Nodup → 0 ≤ m → m < 2 ^ l.length → numP (fun r => decide (r ∈ bitsOf m l)) l = m
  | m, [], _, h0, h1 => by
    show (0 : Int) = m
    have : m < 1 := h1
    omega
  | m, r :: l, nd, h0, h1 => by
    obtain ⟨n1, n2⟩ := List.nodup_cons.mp nd
    have h1' : m < 2 ^ l.length * 2 := by rw [← Int.pow_succ]; exact h1
    have ih := num_bits (m := m / 2) n2 (by omega) (by omega)
    have nb : r ∉ bitsOf (m / 2) l := fun k => n1 ((bitsOf_sub _ l).subset k)
    show (if decide (r ∈ bitsOf m (r :: l)) = true then 1 else 0) + 2 * numP _ l = m
    have e2 : numP (fun r' => decide (r' ∈ bitsOf m (r :: l))) l = m / 2 := by
      refine (numP_congr fun x hx => ?_).trans ih
      have xr : x ≠ r := fun e => n1 (e ▸ hx)
      rw [bitsOf_cons]
      split
      · rw [decide_eq_decide]
        exact ⟨fun k => (List.mem_cons.mp k).resolve_left xr, fun k => List.mem_cons_of_mem _ k⟩
      · rfl
    rw [e2]
    rw [bitsOf_cons]
    by_cases c : m % 2 = 1
    · rw [if_pos c, decide_eq_true List.mem_cons_self, if_pos rfl]; omega
    · rw [if_neg c, decide_eq_false nb, if_neg Bool.false_ne_true]; omega
/-- one carry -/
theorem bits_carry {p : List Int → Bool} : ∀ {A B : List (List Int)} {g : List Int}, (∀ r ∈ A, p r = true) → p g = false → bitsOf (numP p (A ++ g :: B) + 1) (A ++ g :: B) = g :: B.filter p
  | [], B, g, _, hg => by
    show (if (((if p g = true then 1 else 0) + 2 * numP p B) + 1) % 2 = 1 then g :: bitsOf ((((if p g = true then 1 else 0) + 2 * numP p B) + 1) / 2) B else _) = _
    rw [hg, if_neg Bool.false_ne_true, if_pos (by omega), show (0 + 2 * numP p B + 1) / 2 = numP p B by omega, bitsOf_num]
  | a :: A, B, g, hA, hg => by
    have ih := bits_carry (A := A) (B := B) (fun r hr => hA r (List.mem_cons_of_mem _ hr)) hg
    show (if (((if p a = true then 1 else 0) + 2 * numP p (A ++ g :: B)) + 1) % 2 = 1 then _ else bitsOf ((((if p a = true then 1 else 0) + 2 * numP p (A ++ g :: B)) + 1) / 2) (A ++ g :: B)) = _
    rw [if_pos (hA a List.mem_cons_self), if_neg (by omega), show (1 + 2 * numP p (A ++ g :: B) + 1) / 2 = numP p (A ++ g :: B) + 1 by omega, ih]
/-- the rows by their first answer -/
theorem rowsN_heads : ∀ n, rowsN (n + 1) = (rowsN n).map (0 :: ·) ++ (rowsN n).map (1 :: ·)
  | 0 => rfl
  | n + 1 => by
    have e : rowsN (n + 1 + 1) = (rowsN (n + 1)).flatMap fun r => [r ++ [0], r ++ [1]] := rfl
    have e2 : rowsN (n + 1) = (rowsN n).flatMap fun r => [r ++ [0], r ++ [1]] := rfl
    have key : ∀ (c : Int) (l : List (List Int)), (l.map (c :: ·)).flatMap (fun r => [r ++ [0], r ++ [1]]) = (l.flatMap fun r => [r ++ [0], r ++ [1]]).map (c :: ·) := fun c l => by
      rw [List.flatMap_map, List.map_flatMap]
      rfl
    rw [e, rowsN_heads n, List.flatMap_append, key, key, ← e2, rowsN_heads n]
end KK
/-! T7: Lot.__eq__. -/
namespace KK
open PySem PySem.Spec PyProof.Rows L2 LamX Cov
/-- one step of a reading -/
local macro_rules | `(tactic| walk_at "s") => `(tactic| first | refine ⟨_, rfl, ?_⟩ | refine ⟨_, _, rfl, rfl, ?_⟩ | refine ⟨rfl, ?_⟩ | refine ⟨⟨_, rfl⟩, ?_⟩)
local macro_rules | `(tactic| walk_at "ss") => `(tactic| repeat walk_at "s")
section
variable {P : Program} {w : World} {K : PySem.W.Frag} {mg : Str → Option Value} {base : Heap} {T : List (Addr × Str)}
variable {C fI pP gP pR gR fH fM fE : Addr}
theorem dpInts {H : Hp} : ∀ r : List Int, DpAll K H (r.map V.int) (r.map PyData.int)
  | [] => .nil
  | i :: r => .cons (.int i) (dpInts r)
theorem dp_row {H : Hp} {b : Addr} {r : List Int} (e : H b = some (.tup (r.map .int))) : Dp K H (.ref b) (.tuple (r.map .int)) := .tup (SqT.of e) (dpInts r)
/-- rows as data -/
def dRows (rs : List (List Int)) : List PyData := rs.map fun r => .tuple (r.map .int)
theorem dpRows {H : Hp} {xs : List V} {rs : List (List Int)} (h : RowsV H xs rs) : DpAll K H xs (dRows rs) := by
  induction h with
  | nil => exact .nil
  | cons a _ ih =>
    obtain ⟨b, rfl, e⟩ := a
    exact .cons (dp_row e) ih
theorem eqvRow (r q : List Int) : PyData.eqv (.tuple (r.map .int)) (.tuple (q.map .int)) = decide (r = q) := by
  simp only [PyData.eqv]
  exact PySem.W.ked_eqvAll r q
theorem eqvRows : ∀ rs qs : List (List Int), PyData.eqvAll (dRows rs) (dRows qs) = decide (rs = qs)
  | [], [] => by simp [dRows, PyData.eqvAll]
  | [], _ :: _ => by simp [dRows, PyData.eqvAll]
  | _ :: _, [] => by simp [dRows, PyData.eqvAll]
  | a :: r, b :: t => by
    have := eqvRows r t
    unfold dRows at this ⊢
    simp only [List.map_cons, PyData.eqvAll, eqvRow, this]
    by_cases h : a = b <;> by_cases h' : r = t <;> simp [h, h']
theorem layRows : ∀ rs : List (List Int), PyData.canLayAll0 (dRows rs) = true
  | [] => rfl
  | r :: rs => by
    have := layRows rs
    unfold dRows at this ⊢
    simp [PyData.canLayAll0, PyData.canLay0, PySem.W.ke_canLayAll0, this]
theorem deepRows : ∀ rs : List (List Int), PyData.depthAll (dRows rs) ≤ 1
  | [] => by simp [dRows, PyData.depthAll]
  | r :: rs => by
    have := deepRows rs
    unfold dRows at this ⊢
    simp only [List.map_cons, PyData.depthAll, PyData.depth, PySem.W.ke_depthAll]
    exact Nat.max_le.mpr ⟨Nat.le_refl 1, this⟩
theorem shRow (r : List Int) : SeqAt.shaped (.tuple (r.map .int)) = true := by
  simp [SeqAt.shaped, PyData.canLay0, PyData.depth, PySem.W.ke_canLayAll0, PySem.W.ke_depthAll]
theorem shRowsL (rs : List (List Int)) : SeqAt.shaped (.list (dRows rs)) = true := by
  have := deepRows rs
  simp only [SeqAt.shaped, PyData.canLay0, PyData.depth, layRows, Bool.true_and, decide_eq_true_iff]
  exact decide_eq_true (Nat.le_trans (Nat.succ_le_succ this) (show (2:Nat) ≤ 64 by decide))
theorem shLot (n : Int) (rs : List (List Int)) : SeqAt.shaped (.tuple [.int n, .tuple (dRows rs)]) = true := by
  have := deepRows rs
  simp only [SeqAt.shaped, PyData.canLay0, PyData.canLayAll0, PyData.depth, PyData.depthAll, layRows, Bool.true_and, Bool.and_true, decide_eq_true_iff]
  have h : max 0 (max (PyData.depthAll (dRows rs) + 1) 0) + 1 ≤ 3 := by
    rw [Nat.zero_max, Nat.max_zero]
    exact Nat.succ_le_succ (Nat.succ_le_succ this)
  exact decide_eq_true (Nat.le_trans h (show (3:Nat) ≤ 64 by decide))
theorem eqvLot (n m : Nat) (rs qs : List (List Int)) : PyData.eqv (.tuple [.int (n : Nat), .tuple (dRows rs)]) (.tuple [.int (m : Nat), .tuple (dRows qs)]) = decide (n = m ∧ rs = qs) := by
  simp only [PyData.eqv, PyData.eqvAll, eqvRows, Bool.and_true]
  by_cases h : n = m <;> by_cases h' : rs = qs <;> simp [h, h']
  omega
/-- what isinstance says of the class -/
structure InsT (K : PySem.W.Frag) (C : Addr) : Prop where
  ha : PySem.W.findIn K (.ref C) "__class__" = some (some (.builtin "object.__class__"))
  hn : PySem.W.specialIn K (.builtin "object.__class__") "__get__" = some (some (.builtin "getset_descriptor.__get__"))
  htk : PySem.W.takesIn K (.builtin "object.__class__") = some true
  hm : PySem.W.mroIn K C (.type "object") = some true
  k1 : PySem.W.kitOne K (.ref C) (.ref C) = some true
  kn : PySem.W.kitOne K (.type "NoneType") (.ref C) = some false
  kl : PySem.W.kitOne K (.type "list") (.ref C) = some false
theorem scLot___eq__ : FnScope ["self", "other"] ["self", "other"] (defScope sLot___eq__) := ⟨rfl, rfl, rfl, by decide +kernel, rfl, by decide +kernel, by decide +kernel⟩
def spEq (C : Addr) : Sp := fun vs H Q _ => ∃ a n rs b m qs, vs = [.ref a, .ref b] ∧ IsLot C H a n rs ∧ IsLot C H b m qs ∧ ∀ H', Same H H' → Q (.bl (decide (n = m ∧ rs = qs))) H'
theorem ok_eq {f : Addr} {fd : FuncData} (F : FnM K "__eq__" "Lot.__eq__" sLot___eq__ f fd) (Z : Zs mg) (LC : LotK K mg C fI pP gP pR gR fH fM fE) (LT : InsT K C) : FnOk P w K mg base (L2.CX P w) 1 f fd ["self", "other"] (spEq C) := by
  refine F.ok scLot___eq__ (fun vs H Q E h => ?_) (fun cdv A outer s H vs Q E hr h => ?_)
  · obtain ⟨_, _, _, _, _, _, rfl, _⟩ := h
    rfl
  obtain ⟨a, n, rs, b, m, qs, rfl, ⟨dx, t, d, xs, e1, e2, e3, e4⟩, ⟨dx', t', d', xs', e1', e2', e3', e4'⟩, h⟩ := h
  have g_Lot := LC.g
  refine ⟨_, (pss_one (ps_ret (pe_and (pe_callB call_isi (by rfl) Z.isinstance_ (by decide +kernel) (pa_cons (pv 1) (pa_cons (pe_globR g_Lot) pa_nil))) (pe_one (pe_cmpR (op_eqD hr.units) (pe_tup (pa_cons (pe_fld (pv 0) (by rfl)) (pa_cons (pe_fld (pv 0) (by rfl)) pa_nil))) (pe_tup (pa_cons (pe_fld (pv 1) (by rfl)) (pa_cons (pe_fld (pv 1) (by rfl)) pa_nil))) (nomark _)))))), ?_⟩
  walk_at "ss"
  refine ⟨_, _, _, _, true, rfl, .own C, .base (.ins e1' LC.cls LT.ha LT.hn LT.htk LT.hm), LT.k1, ?_⟩
  walk_at "ss"
  refine ⟨a, C, dx, _, _, rfl, e1, LC.cls, LC.n1, rfl, ?_⟩
  walk_at "ss"
  refine ⟨a, C, dx, _, _, rfl, e1, LC.cls, LC.n2, rfl, ?_⟩
  walk_at "ss"
  refine ⟨small (by simp), fun p hp => ?_⟩
  have s1 := same_new hp (.tup [.int (n : Nat), .ref t])
  walk_at "ss"
  refine ⟨b, C, dx', _, _, rfl, s1 _ _ e1', LC.cls, LC.n1, rfl, ?_⟩
  walk_at "ss"
  refine ⟨b, C, dx', _, _, rfl, s1 _ _ e1', LC.cls, LC.n2, rfl, ?_⟩
  refine ⟨small (by simp), fun q hq => ?_⟩
  have s2 := same_new hq (.tup [.int (m : Nat), .ref t'])
  have s12 := s1.trans s2
  refine ⟨_, _, .tup (SqT.of (s2 _ _ upd_same)) (.cons (.int _) (.cons (.tup (SqT.of (s12 _ _ e2)) (dpRows (e3.same s12))) .nil)), .tup (SqT.of upd_same) (.cons (.int _) (.cons (.tup (SqT.of (s12 _ _ e2')) (dpRows (e3'.same s12))) .nil)), shLot _ _, shLot _ _, ?_⟩
  rw [eqvLot]
  exact h _ s12
end
end KK
/-! T8: need_lot, need_place_count, all_answers. -/
namespace KK
open PySem PySem.Spec PyProof.Rows L2 LamX Cov
/-- one step of a reading -/
local macro_rules | `(tactic| walk_at "s") => `(tactic| first | refine ⟨_, rfl, ?_⟩ | refine ⟨_, _, rfl, rfl, ?_⟩ | refine ⟨rfl, ?_⟩ | refine ⟨⟨_, rfl⟩, ?_⟩)
local macro_rules | `(tactic| walk_at "ss") => `(tactic| repeat walk_at "s")
section
variable {P : Program} {w : World} {K : PySem.W.Frag} {mg : Str → Option Value} {base : Heap} {T : List (Addr × Str)}
variable {C fI pP gP pR gR fH fM fE : Addr}
/-- a def with defaults dvs, called without them -/
structure DatD (K : PySem.W.Frag) (mg : Str → Option Value) (x : Str) (f : Addr) (fd : FuncData) (ps : List Str) (dvs : List V) : Prop where
  g : mg x = some (.ref f)
  k : PySem.W.keepIn K (.ref f) = true
  b : ∃ ds, Vals dvs ds ∧ Binds K fd ps ds
theorem pe_fxD {X : Cx} {k : Nat} {f : Addr} {fd : FuncData} {ps : List Str} {sp : Sp} {x : Str} {p pos : Pos} {e : Expr} {es : List Expr} {t : TA} {W : WX} {dvs : List V} (G : FnOk X.prog X.w X.K X.mg X.base (L2.CX X.prog X.w) k f fd ps sp) (M : DatD X.K X.mg x f fd ps dvs) (hr : Room k X.A) (tk : Takes X W) (ha : PA X (e :: es) t) (hg : Gl X x := by rfl)
    (hdb : (x == ("__debug__" : Str)) = false := by decide) (he : starEach (e :: es) X.env = (false, eval e X.env) :: starEach es X.env := by rfl) (hpl : (backTo pos (starEach es X.env)).any (·.1) = false := by rfl) :
    PE X (.Call (.Name x p) (e :: es) [] pos) (tCallSD sp dvs (WE W) t) := by
  obtain ⟨ds, hd, hb⟩ := M.b
  exact pe_callSD G hr hg M.g M.k hb hd (fun σ => passAt tk σ) ha hdb he hpl
theorem yes_if {σ : L2.St} {H : Hp} {A B : Hp → Prop} (h : A H) : tYes σ H (fun b H3 => if b = true then A H3 else B H3) := by
  show if true = true then A H else B H
  rw [if_pos rfl]
  exact h
theorem RowsV.append {H : Hp} {xs ys : List V} {rs qs : List (List Int)} (h : RowsV H xs rs) (k : RowsV H ys qs) : RowsV H (xs ++ ys) (rs ++ qs) := by
  induction h with
  | nil => exact k
  | cons a _ ih => exact .cons a ih
/-- no lot: None, a list -/
def NoLotV (H : Hp) (x : V) : Prop := x = .non ∨ ∃ a xs, x = .ref a ∧ H a = some (.lst xs)
/-- X(part) is raised -/
def bad (E : XK) (CT : Addr) (H : Hp) (v : V) : Prop := ∀ H' d, Same H H' → H' d = none → E (.ref CT) (some d) (upd H' d (.xd [("part", v)]))
theorem bad.same {E : XK} {CT : Addr} {H H1 : Hp} {v : V} (h : bad E CT H v) (s : Same H H1) : bad E CT H1 v := fun H' d s2 e => h H' d (s.trans s2) e
theorem scneed_lot : FnScope ["lot", "part"] ["lot", "part"] (defScope sneed_lot) := ⟨rfl, rfl, rfl, by decide +kernel, rfl, by decide +kernel, by decide +kernel⟩
def spNL (C CN : Addr) : Sp := fun vs H Q E => ∃ x y, vs = [x, y] ∧ ((∃ a n rs, x = .ref a ∧ IsLot C H a n rs ∧ Q .non H) ∨ (NoLotV H x ∧ bad E CN H y))
theorem ok_need_lot {f CN D gI : Addr} {fd : FuncData} (F : FunD K "need_lot" "need_lot" (defArgs sneed_lot) (defBody sneed_lot) (defScope sneed_lot) [.non] [] f fd) (Z : Zs mg) (LC : LotK K mg C fI pP gP pR gR fH fM fE) (LT : InsT K C) (XNoLot : PySem.SupX.SupTxt P K mg "NoLot" CN D gI "part") :
    FnOk P w K mg base (L2.CX P w) 2 f fd ["lot", "part"] (spNL C CN) := by
  refine F.ok scneed_lot (fun vs H Q E h => ?_) (fun cdv A outer s H vs Q E hr h => ?_)
  · obtain ⟨_, _, rfl, _⟩ := h
    rfl
  obtain ⟨x, y, rfl, h⟩ := h
  have g_Lot := LC.g
  refine ⟨_, (pss_one (ps_if (pt_not (pt_val (pe_callB call_isi (by rfl) Z.isinstance_ (by decide +kernel) (pa_cons (pv 0) (pa_cons (pe_globR g_Lot) pa_nil))))) (pss_one (ps_raiseSup rfl XNoLot (hr.mono (show 0 + 1 ≤ _ by omega)) (takes_of rfl rfl rfl rfl) (pa_cons (pv 1) pa_nil) rfl)) pss_nil)), ?_⟩
  rcases h with ⟨a, n, rs, rfl, ⟨dx, t, d, xs, e1, e2, e3, e4⟩, h⟩ | ⟨hn, h⟩
  · walk_at "ss"
    refine ⟨_, _, _, _, true, rfl, .own C, .base (.ins e1 LC.cls LT.ha LT.hn LT.htk LT.hm), LT.k1, ?_⟩
    walk_at "ss"
    exact h
  · walk_at "ss"
    rcases hn with rfl | ⟨a, xs, rfl, ea⟩
    · refine ⟨_, _, _, _, false, rfl, .own C, isi_non, LT.kn, ?_⟩
      walk_at "ss"
      exact fun d hd => h H d (Same.refl H) hd
    · refine ⟨_, _, _, _, false, rfl, .own C, isi_lst ea, LT.kl, ?_⟩
      walk_at "ss"
      exact fun d hd => h H d (Same.refl H) hd
theorem datD_need_lot {f : Addr} {fd : FuncData} (F : FunD K "need_lot" "need_lot" (defArgs sneed_lot) (defBody sneed_lot) (defScope sneed_lot) [.non] [] f fd) (g : mg "need_lot" = some (.ref f)) : DatD K mg "need_lot" f fd ["lot", "part"] [.non] :=
  ⟨g, F.kp, F.binds1 1 0 (fun z => by cases z) rfl fun T kV doc pm an cdv ct us its h1 h2 => by
    match us, its, h1, h2 with
    | [u], [i], _, _ => exact ⟨_, rfl, rfl⟩⟩
theorem dat_need_lot {f : Addr} {fd : FuncData} (F : FunD K "need_lot" "need_lot" (defArgs sneed_lot) (defBody sneed_lot) (defScope sneed_lot) [.non] [] f fd) (g : mg "need_lot" = some (.ref f)) : Dat K mg "need_lot" f fd ["lot", "part"] := by
  obtain ⟨ds, hv, hb⟩ := F.binds1 (ps := ["lot", "part"]) 2 1 (fun z => by cases z) rfl fun T kV doc pm an cdv ct us its h1 h2 => by
    match us, its, h1, h2 with
    | [u, v], [i], _, _ => exact ⟨_, rfl, rfl⟩
  cases hv
  exact ⟨g, F.kp, hb⟩
theorem scneed_place_count : FnScope ["places"] ["places"] (defScope sneed_place_count) := ⟨rfl, rfl, rfl, by decide +kernel, rfl, by decide +kernel, by decide +kernel⟩
def spNP (K : PySem.W.Frag) (CP : Addr) : Sp := fun vs H Q E => ∃ x, vs = [x] ∧ ((∃ i, x = .int i ∧ (1 ≤ i → i ≤ 6 → Q .non H) ∧ (¬ (1 ≤ i ∧ i ≤ 6) → E (.ref CP) none H)) ∨ (∃ b1 b2, Av K H x b1 b2 ∧ (b1 && !b2) = false ∧ E (.ref CP) none H))
theorem ok_need_place_count {f fis_between : Addr} {fd fdb : FuncData} {CP : Addr} (F : FnP K "need_place_count" sneed_place_count f fd) (g_MOST_PLACES : mg "MOST_PLACES" = some (.int 6 t0))
    (Gis_between : FnOk P w K mg base (L2.CX P w) 2 fis_between fdb ["thing", "low", "high"] (spBet K)) (Mis_between : Dat K mg "is_between" fis_between fdb ["thing", "low", "high"]) (XBadPlaces : ExT K mg "BadPlaces" CP) :
    FnOk P w K mg base (L2.CX P w) 3 f fd ["places"] (spNP K CP) := by
  refine F.ok scneed_place_count (fun vs H Q E h => ?_) (fun cdv A outer s H vs Q E hr h => ?_)
  · obtain ⟨x, rfl, _⟩ := h
    rfl
  obtain ⟨x, rfl, h⟩ := h
  refine ⟨_, (pss_one (ps_if (pt_not (pt_val (pe_fn Gis_between Mis_between (hr.mono (by omega)) (pa_cons (pv 0) (pa_cons pe_int (pa_cons (pe_globI g_MOST_PLACES) pa_nil)))))) (pss_one (ps_raise rfl (takes_of rfl rfl rfl rfl) (pmk_x XBadPlaces))) pss_nil)), ?_⟩
  rcases h with ⟨i, rfl, h1, h2⟩ | ⟨b1, b2, av, e, h⟩
  · walk_at "ss"
    refine ⟨_, _, _, rfl, .inl ⟨_, rfl, ?_⟩⟩
    walk_at "ss"
    refine ite2 (fun c => ?_) (fun c => ?_)
    · refine h2 fun z => ?_
      rw [decide_eq_true z.1, decide_eq_true z.2] at c
      cases c
    · have c2 : (decide (1 ≤ i) && decide (i ≤ 6)) = true := by simpa using c
      obtain ⟨c3, c4⟩ := (Bool.and_eq_true _ _).mp c2
      exact h1 (of_decide_eq_true c3) (of_decide_eq_true c4)
  · walk_at "ss"
    refine ⟨_, _, _, rfl, .inr ⟨b1, b2, av, e, ?_⟩⟩
    walk_at "ss"
    exact h
theorem scall_answers : FnScope ["many", "found", "place", "answers", "answer"] ["many"] (defScope sall_answers) := ⟨rfl, rfl, rfl, by decide +kernel, rfl, by decide +kernel, by decide +kernel⟩
/-- the rows of all_answers, _law_rows: a list of them -/
def spAA : Sp := fun vs H Q _ => ∃ n : Nat, vs = [.int n] ∧ n ≤ 6 ∧ ∀ H' p xs, Same H H' → H p = none → H' p = some (.lst xs) → RowsV H' xs (rowsN n) → Q (.ref p) H'
theorem ok_all_answers {f : Addr} {fd : FuncData} (F : FnP K "all_answers" sall_answers f fd) (Z : Zs mg) : FnOk P w K mg base (L2.CX P w) 1 f fd ["many"] spAA := by
  refine F.ok scall_answers (fun vs H Q E h => ?_) (fun cdv A outer s H vs Q E hr h => ?_)
  · obtain ⟨_, rfl, _⟩ := h
    rfl
  obtain ⟨n, rfl, hn, h⟩ := h
  refine ⟨_, (pss_cons (ps_set (i := 1) scall_answers.nd rfl (Or.inl rfl) (pe_lst (pa_cons (pe_tup pa_nil) pa_nil)))
    (pss_cons (ps_for (passes_of rfl) rfl (pi_range1 (by rfl) Z.range_ (pa_cons (pv 0) pa_nil)) (pg_name (i := 2) scall_answers.nd rfl (Or.inl rfl)) (pss_one (ps_setLc2 (i := 1) (own := [("answers", 3), ("answer", 4)]) (vs1 := [4]) (g := gName 3) (tt := tYes) (g1 := gName 4) (tt1 := tYes) rfl scall_answers.nd rfl rfl (sw_true rfl rfl rfl (by decide +kernel)) (pi_list (pv 1)) (blkOk_by (own := [("answers", 3), ("answer", 4)]) (N := ["many", "found", "place", "answers", "answer"]) (sc := defScope sall_answers) (by decide +kernel)) (by decide) (fun _ _ _ _ _ => (pg_name (i := 3) scall_answers.nd rfl (Or.inl rfl))) (fun _ _ _ _ _ => pts_nil) (fun _ _ _ _ _ => (pi_tupK K rfl (pe_tup (pa_cons pe_int (pa_cons pe_int pa_nil))))) (fun _ _ _ _ _ => (pg_name (i := 4) scall_answers.nd rfl (Or.inl rfl))) (fun _ _ _ _ _ => pts_nil) (fun _ _ _ _ _ => (pe_tup (pa_starK K rfl (pv 3) (pa_cons (pv 4) pa_nil)))))))
    (pss_one (ps_ret (pv 1))))), ?_⟩
  walk_at "ss"
  refine ⟨small (by simp), fun p0 hp0 => ?_⟩
  refine ⟨small (by simp), fun q0 hq0 => ?_⟩
  refine gn ?_
  have s0 := (same_new hp0 (.tup [])).trans (same_new hq0 (.lst [.ref p0]))
  walk_at "ss"
  refine ⟨by omega, by omega, ?_⟩
  rw [Int.toNat_natCast]
  refine for_it walk_range (fun i σ H' => ∃ (p : Addr) (xs : List V) (y2 y3 y4 : Option V), σ = [some (.int n), some (.ref p), y2, y3, y4] ∧ Same H H' ∧ H p = none ∧ H' p = some (.lst xs) ∧ RowsV H' xs (rowsN i)) ⟨q0, [.ref p0], _, _, _, rfl, s0, none_of (same_new hp0 _) hq0, upd_same, .cons ⟨p0, rfl, nw hq0 upd_same⟩ .nil⟩ (fun i σ H' _ hv => trivial) (fun i x σ H' H'' hi hv hy => ?_) (fun σ H' hv => ?_)
  · obtain ⟨p, xs, y2, y3, y4, rfl, s1, np, ep, rv⟩ := hv
    obtain ⟨rfl, rfl⟩ := hy
    walk_at "ss"
    refine ⟨⟨_, SqL.of ep⟩, fun D hD => ?_⟩
    have hlen : xs.length = 2 ^ i := by rw [rv.len, rowsN_len]
    have hi6 : 2 ^ i ≤ 64 := pow64 (by omega)
    refine lc2_out walk_list (fun k H3 => Same H'' H3 ∧ ∃ ys, H3 D = some (.lst ys) ∧ RowsV H3 ys (((rowsN i).take k).flatMap fun r => [r ++ [0], r ++ [1]])) ⟨same_new hD _, [], upd_same, .nil⟩ (fun k H3 _ hv => SqL.of (hv.1 _ _ ep)) (fun k x H3 H4 hk hv hy => ?_) (fun H3 hv => ?_)
    · obtain ⟨rfl, ex⟩ := hy
      obtain ⟨s3, ys, eD, ry⟩ := hv
      obtain ⟨r, hr2, b, rfl, eb⟩ := L2.paired_get (rv.same s3) ex
      walk_at "ss"
      refine yes_if ?_
      refine ⟨small (by simp), fun t ht => ?_⟩
      walk_at "ss"
      refine ⟨⟨_, SqT.of upd_same⟩, ?_⟩
      have s4 := same_new ht (.tup [.int 0, .int 1])
      have hr3 : r ∈ rowsN i := List.mem_of_getElem? hr2
      have hk2 : k < 2 ^ i := by omega
      have htk : ((rowsN i).take (k + 1)).flatMap (fun r => [r ++ [(0 : Int)], r ++ [1]]) = ((rowsN i).take k).flatMap (fun r => [r ++ [(0 : Int)], r ++ [1]]) ++ [r ++ [0], r ++ [1]] := by
        rw [List.take_add_one, hr2, List.flatMap_append]
        rfl
      have hyl : ys.length = 2 * k := by
        rw [ry.len, flat_len, List.length_take, rowsN_len]
        omega
      have s34 := s3.trans s4
      have f01 : ∀ (j : Nat) (x : V), [V.int 0, V.int 1][j]? = some x → ∃ c : Int, x = .int c ∧ [r ++ [(0 : Int)], r ++ [1]].take (j + 1) = [r ++ [(0 : Int)], r ++ [1]].take j ++ [r ++ [c]] := fun j x e => by
        match j, e with
        | 0, e => exact ⟨0, (Option.some.inj e).symm, rfl⟩
        | 1, e => exact ⟨1, (Option.some.inj e).symm, rfl⟩
      have eb4 := s4 _ _ eb
      have eD4 := s4 _ _ eD
      have ry4 := ry.same s4
      refine lc2_in walk_tup (fun j H5 => Same H'' H5 ∧ H5 t = some (.tup [.int 0, .int 1]) ∧ H5 b = some (.tup (r.map .int)) ∧ ∃ zs, H5 D = some (.lst (ys ++ zs)) ∧ RowsV H5 ys (((rowsN i).take k).flatMap fun r => [r ++ [0], r ++ [1]]) ∧ RowsV H5 zs ([r ++ [(0 : Int)], r ++ [1]].take j))
        ⟨s34, upd_same, eb4, [], by rw [List.append_nil]; exact eD4, ry4, .nil⟩ (fun j H5 _ hv => SqT.of hv.2.1) (fun j x H5 H6 hj hv hy => ?_) (fun H5 hv => ?_)
      · obtain ⟨rfl, ex2⟩ := hy
        obtain ⟨s5, et, eb5, zs, eD5, ry5, rz⟩ := hv
        obtain ⟨c, rfl, hc⟩ := f01 j x ex2
        walk_at "ss"
        refine ⟨b, _, rfl, .inl (SqT.of eb5), ?_⟩
        walk_at "ss"
        have hrl : r.length = i := (rowsN_row i r hr3).1
        refine ⟨small (by simp; omega), fun u hu => ?_⟩
        have s6 := same_new hu (.tup (r.map V.int ++ [.int c]))
        have zl : zs.length ≤ 2 := by
          rw [rz.len, List.length_take]
          exact Nat.min_le_right _ _
        refine ⟨_, s6 _ _ eD5, smallt (by rw [List.length_append]; omega), ?_⟩
        have keepT : ∀ (b' : Addr) (qs : List V), H6 b' = some (.tup qs) → upd (upd H6 u (.tup (r.map V.int ++ [.int c]))) D (.lst ((ys ++ zs) ++ [.ref u])) b' = some (.tup qs) := fun b' qs e => tup_upd (s6 _ _ eD5) (fun _ z => by cases z) (s6 _ _ e)
        have uD : u ≠ D := fun z => by rw [z, eD5] at hu; cases hu
        refine ⟨same_over hD (s5.trans s6) _, keepT _ _ et, keepT _ _ eb5, zs ++ [.ref u], by rw [upd_same, List.append_assoc], ry5.tups keepT, ?_⟩
        rw [hc]
        refine RowsV.append (rz.tups keepT) (.cons ⟨u, rfl, ?_⟩ .nil)
        rw [upd_ne uD, upd_same, List.map_append]
        rfl
      · obtain ⟨s5, et, eb5, zs, eD5, ry5, rz⟩ := hv
        refine ⟨s5, ys ++ zs, eD5, ?_⟩
        rw [htk]
        exact RowsV.append ry5 rz
    · obtain ⟨s3, ys, eD, ry⟩ := hv
      refine gn ?_
      refine tn ?_
      refine ⟨D, ys, _, _, _, rfl, s1.trans s3, none_of s1 hD, eD, ?_⟩
      rw [hlen, ← rowsN_len i, List.take_length] at ry
      exact ry
  · obtain ⟨p, xs, y2, y3, y4, rfl, s1, np, ep, rv⟩ := hv
    walk_at "ss"
    exact h H' p xs s1 np ep rv
end
end KK
/-! T9: lot_number. -/
namespace KK
open PySem PySem.Spec PyProof.Rows L2 LamX Cov
/-- one step of a reading -/
local macro_rules | `(tactic| walk_at "s") => `(tactic| first | refine ⟨_, rfl, ?_⟩ | refine ⟨_, _, rfl, rfl, ?_⟩ | refine ⟨rfl, ?_⟩ | refine ⟨⟨_, rfl⟩, ?_⟩)
local macro_rules | `(tactic| walk_at "ss") => `(tactic| repeat walk_at "s")
section
variable {P : Program} {w : World} {K : PySem.W.Frag} {mg : Str → Option Value} {base : Heap} {T : List (Addr × Str)}
variable {C fI pP gP pR gR fH fM fE : Addr}
theorem sclot_number : FnScope ["lot", "found", "spot", "row"] ["lot"] (defScope slot_number) := ⟨rfl, rfl, rfl, by decide +kernel, rfl, by decide +kernel, by decide +kernel⟩
/-- the number of a lot -/
def numL (n : Nat) (rs : List (List Int)) : Int := numP (fun r => decide (r ∈ rs)) (rowsN n)
def spLN (C CN : Addr) : Sp := fun vs H Q E => ∃ x, vs = [x] ∧ ((∃ a n rs, x = .ref a ∧ IsLot C H a n rs ∧ LotOk n rs ∧ ∀ H', Same H H' → Q (.int (numL n rs)) H') ∨ (NoLotV H x ∧ bad E CN H .non))
theorem ok_lot_number {f fneed_lot fall_answers fpower_of_two CN : Addr} {fd fd1 fd2 fd3 fdP fdH : FuncData} (F : FnP K "lot_number" slot_number f fd) (Z : Zs mg) (LC : LotK K mg C fI pP gP pR gR fH fM fE)
    (Gneed_lot : FnOk P w K mg base (L2.CX P w) 2 fneed_lot fd1 ["lot", "part"] (spNL C CN)) (MDneed_lot : DatD K mg "need_lot" fneed_lot fd1 ["lot", "part"] [.non])
    (Gall_answers : FnOk P w K mg base (L2.CX P w) 1 fall_answers fd2 ["many"] spAA) (Mall_answers : Dat K mg "all_answers" fall_answers fd2 ["many"])
    (Gpower_of_two : FnOk P w K mg base (L2.CX P w) 1 fpower_of_two fd3 ["times"] spPow) (Mpower_of_two : Dat K mg "power_of_two" fpower_of_two fd3 ["times"])
    (GLot_places : FnOk P w K mg base (L2.CX P w) 1 gP fdP ["self"] (spPl C)) (BLot_places : Binds K fdP ["self"] [])
    (GLot_has : FnOk P w K mg base (L2.CX P w) 5 fH fdH ["self", "row"] (spHas C)) (BLot_has : Binds K fdH ["self", "row"] []) :
    FnOk P w K mg base (L2.CX P w) 7 f fd ["lot"] (spLN C CN) := by
  refine F.ok sclot_number (fun vs H Q E h => ?_) (fun cdv A outer s H vs Q E hr h => ?_)
  · obtain ⟨_, rfl, _⟩ := h
    rfl
  obtain ⟨x, rfl, h⟩ := h
  refine ⟨_, (pss_cons (ps_expr (pe_fxD Gneed_lot MDneed_lot (hr.mono (by omega)) (takes_of rfl rfl rfl rfl) (pa_cons (pv 0) pa_nil)))
    (pss_cons (ps_set (i := 1) sclot_number.nd rfl (Or.inl rfl) pe_int)
    (pss_cons (ps_for (passes_of rfl) rfl (pi_enum (by rfl) Z.enumerate_ (pa_cons (pe_fn Gall_answers Mall_answers (hr.mono (by omega)) (pa_cons (pe_prop (pv 0) LC.cls LC.p_places GLot_places (hr.mono (by omega)) BLot_places .nil passL (by rfl)) pa_nil)) pa_nil)) (pg_tup rfl (pgs_cons (pg_name (i := 2) sclot_number.nd rfl (Or.inl rfl)) (pgs_cons (pg_name (i := 3) sclot_number.nd rfl (Or.inl rfl)) pgs_nil))) (pss_one (ps_if (pt_val (pe_meth (pv 0) LC.cls LC.m_has GLot_has (hr.mono (by omega)) BLot_has .nil passL (pa_cons (pv 3) pa_nil))) (pss_one (ps_aug (i := 1) sclot_number.nd rfl (Or.inl rfl) (pe_fn Gpower_of_two Mpower_of_two (hr.mono (by omega)) (pa_cons (pv 2) pa_nil)) ip_add)) pss_nil)))
    (pss_one (ps_ret (pv 1)))))), ?_⟩
  rcases h with ⟨a, n, rs, rfl, hL, ok, h⟩ | ⟨hn, h⟩
  · walk_at "ss"
    refine ⟨_, _, rfl, .inl ⟨a, n, rs, rfl, hL, ?_⟩⟩
    walk_at "ss"
    obtain ⟨dx, t, d, ts, e1, e2, e3, e4⟩ := id hL
    refine ⟨a, dx, _, rfl, e1, a, n, rs, rfl, hL, ?_⟩
    walk_at "ss"
    refine ⟨ok.n6, fun H1 p xs s1 np ep rv => ?_⟩
    walk_at "ss"
    refine ⟨_, _, rfl, SqL.of ep, ?_⟩
    have hlen : xs.length = 2 ^ n := by rw [rv.len, rowsN_len]
    have h64 := pow64 ok.n6
    refine for_it walk_enum (fun i σ H' => (∃ y2 y3, σ = [some (.ref a), some (.int (numP (fun r => decide (r ∈ rs)) ((rowsN n).take i))), y2, y3]) ∧ Same H1 H') ⟨⟨_, _, rfl⟩, Same.refl H1⟩ (fun i σ H' _ hv => SqL.of (hv.2 _ _ ep)) (fun i x σ H' H'' hi hv hy => ?_) (fun σ H' hv => ?_)
    · obtain ⟨⟨y2, y3, rfl⟩, s3⟩ := hv
      obtain ⟨q, u1, u2, rfl, hq, rfl, f1, f2⟩ := hy
      obtain rfl : V.int (i : Nat) = u1 := Option.some.inj f1
      obtain ⟨r, hr2, b, rfl, eb⟩ := L2.paired_get rv f2
      have hrm := List.mem_of_getElem? hr2
      have s4 := same_new hq (.tup [.int (i : Nat), .ref b])
      have s34 := s3.trans s4
      refine ⟨_, _, rfl, SqT.of upd_same, rfl, _, _, rfl, _, _, rfl, rfl, ?_⟩
      have hnum : numP (fun r => decide (r ∈ rs)) ((rowsN n).take (i + 1)) = numP (fun r => decide (r ∈ rs)) ((rowsN n).take i) + if decide (r ∈ rs) = true then 2 ^ i else 0 := by
        rw [List.take_add_one, hr2]
        show numP _ ((rowsN n).take i ++ [r]) = _
        rw [numP_snoc, List.length_take, Nat.min_eq_left (by rw [← rv.len]; omega)]
      walk_at "ss"
      refine ⟨a, dx, _, rfl, (s1.trans s34) _ _ e1, rfl, ?_⟩
      walk_at "ss"
      refine ⟨a, n, rs, b, r, rfl, hL.same (s1.trans s34), ok.n6, s34 _ _ eb, rowsN_row n r hrm, fun H5 s5 => ?_⟩
      walk_at "ss"
      refine ite2 (fun c => ?_) (fun c => ?_)
      · rw [if_pos c] at hnum
        walk_at "ss"
        refine ⟨by omega, ?_⟩
        refine ⟨_, _, rfl, rfl, ?_⟩
        have e6 : ∀ z : Int, z = numP (fun r => decide (r ∈ rs)) ((rowsN n).take i) + 2 ^ i → (∃ y2 y3, ([some (V.ref a), some (V.int z), some (V.int (i : Nat)), some (V.ref b)] : L2.St) = [some (.ref a), some (.int (numP (fun r => decide (r ∈ rs)) ((rowsN n).take (i + 1)))), y2, y3]) ∧ Same H1 H5 := fun z ez => ⟨⟨some (.int (i : Nat)), some (.ref b), by rw [ez, hnum]⟩, s34.trans s5⟩
        exact e6 _ rfl
      · rw [if_neg c, Int.add_zero] at hnum
        rw [← hnum]
        exact ⟨⟨_, _, rfl⟩, s34.trans s5⟩
    · obtain ⟨⟨y2, y3, rfl⟩, s3⟩ := hv
      walk_at "ss"
      have := h H' (s1.trans s3)
      rw [hlen, ← rowsN_len n, List.take_length]
      exact this
  · walk_at "ss"
    exact ⟨_, _, rfl, .inr ⟨hn, h⟩⟩
end
end KK
/-! T10: lot_by_number, lot_at, next_lot, rest_lot. -/
namespace KK
open PySem PySem.Spec PyProof.Rows L2 LamX Cov
/-- one step of a reading -/
local macro_rules | `(tactic| walk_at "s") => `(tactic| first | refine ⟨_, rfl, ?_⟩ | refine ⟨_, _, rfl, rfl, ?_⟩ | refine ⟨rfl, ?_⟩ | refine ⟨⟨_, rfl⟩, ?_⟩)
local macro_rules | `(tactic| walk_at "ss") => `(tactic| repeat walk_at "s")
section
variable {P : Program} {w : World} {K : PySem.W.Frag} {mg : Str → Option Value} {base : Heap} {T : List (Addr × Str)}
variable {C fI pP gP pR gR fH fM fE : Addr}
theorem sclot_by_number : FnScope ["places", "number", "rows", "row"] ["places", "number"] (defScope slot_by_number) := ⟨rfl, rfl, rfl, by decide +kernel, rfl, by decide +kernel, by decide +kernel⟩
/-- a new lot comes back -/
def newLot (C : Addr) (n : Nat) (rs : List (List Int)) (H : Hp) (Q : VK) : Prop := ∀ H' p, Same H H' → H p = none → IsLot C H' p n rs → Q (.ref p) H'
theorem newLot.same {C : Addr} {n : Nat} {rs : List (List Int)} {H H1 : Hp} {Q : VK} (h : newLot C n rs H Q) (s : Same H H1) : newLot C n rs H1 Q := fun H' p s2 e => h H' p (s.trans s2) (none_of s e)
/-- Lot(n, rows) -/
theorem make_lot {n : Nat} {a : Addr} {xs : List V} {rs : List (List Int)} {H : Hp} {Q : VK} {E : XK} {x dx : Addr} (hx : H x = none) (hd : H dx = none) (hne : dx ≠ x) (ea : H a = some (.lst xs)) (rv : RowsV H xs rs) (hrow : ∀ r ∈ rs, IsRow n r) (hnd : rs.Nodup) (h1 : 1 ≤ n) (h6 : n ≤ 6)
    (h : newLot C n (sortR rs) H Q) : spIni C [.ref x, .int (n : Nat), .ref a] (upd (upd H dx (.own x)) x (.ins C dx [])) (fun v H2 => v = .non ∧ Q (.ref x) H2) E := by
  have s1 := same_new hd (.own x)
  have hx1 : upd H dx (.own x) x = none := by rw [upd_ne (Ne.symm hne)]; exact hx
  have s2 := same_new hx1 (.ins C dx [])
  have s12 := s1.trans s2
  refine ⟨x, dx, a, n, xs, rs, rfl, upd_same, s12 _ _ ea, rv.same s12, hrow, hnd, h1, h6, ?_, fun H' k hL => ⟨rfl, h H' x (fun b o e => k b o (s12 b o e) fun z => by rw [z, hx] at e; cases e) hx hL⟩⟩
  have sb : rs.length ≤ (rowsN n).length := (nodup_len hnd fun r hr => rowsN_mem n r (hrow r hr))
  rw [rowsN_len] at sb
  exact Nat.le_trans sb (pow64 h6)
def spLB (C : Addr) : Sp := fun vs H Q _ => ∃ (n : Nat) (m : Int), vs = [.int (n : Nat), .int m] ∧ 1 ≤ n ∧ n ≤ 6 ∧ newLot C n (bitsOf m (rowsN n)) H Q
theorem ok_lot_by_number {f fall_answers : Addr} {fd fd2 fdI : FuncData} (F : FnP K "lot_by_number" slot_by_number f fd) (Z : Zs mg) (LC : LotK K mg C fI pP gP pR gR fH fM fE)
    (Gall_answers : FnOk P w K mg base (L2.CX P w) 1 fall_answers fd2 ["many"] spAA) (Mall_answers : Dat K mg "all_answers" fall_answers fd2 ["many"])
    (GLot___init__ : FnOk P w K mg base (L2.CX P w) 6 fI fdI ["self", "places", "rows"] (spIni C)) (BLot___init__ : Binds K fdI ["self", "places", "rows"] []) :
    FnOk P w K mg base (L2.CX P w) 8 f fd ["places", "number"] (spLB C) := by
  refine F.ok sclot_by_number (fun vs H Q E h => ?_) (fun cdv A outer s H vs Q E hr h => ?_)
  · obtain ⟨_, _, rfl, _⟩ := h
    rfl
  obtain ⟨n, m, rfl, h1, h6, h⟩ := h
  have g_Lot := LC.g
  refine ⟨_, (pss_cons (ps_set (i := 2) sclot_by_number.nd rfl (Or.inl rfl) (pe_lst pa_nil))
    (pss_cons (ps_for (passes_of rfl) rfl (pi_list (pe_fn Gall_answers Mall_answers (hr.mono (by omega)) (pa_cons (pv 0) pa_nil))) (pg_name (i := 3) sclot_by_number.nd rfl (Or.inl rfl)) (pss_cons (ps_if (pt_cmpR op_eq (pe_op op_mod (pv 1) pe_int) pe_int (nomark _)) (pss_one (ps_expr (pe_bm PySem.F.plainAttrs_list PySem.F.slot_list_append PySem.F.type_list_append mt_append (pv 2) (pa_cons (pv 3) pa_nil)))) pss_nil)
    (pss_one (ps_set (i := 1) sclot_by_number.nd rfl (Or.inl rfl) (pe_op op_fdiv (pv 1) pe_int)))))
    (pss_one (ps_ret (pe_make LC.mkk GLot___init__ (hr.mono (by omega)) (by rfl) g_Lot BLot___init__ .nil passL (pa_cons (pv 0) (pa_cons (pv 2) pa_nil))))))), ?_⟩
  walk_at "ss"
  refine ⟨small (by simp), fun p0 hp0 => ?_⟩
  refine gn ?_
  have s0 := same_new hp0 (.lst [])
  walk_at "ss"
  refine ⟨h6, fun H1 p xs s1 np ep rv => ?_⟩
  walk_at "ss"
  refine ⟨⟨_, SqL.of ep⟩, ?_⟩
  have hlen : xs.length = 2 ^ n := by rw [rv.len, rowsN_len]
  have h64 := pow64 h6
  have pp : p ≠ p0 := fun z => by rw [z, upd_same] at np; cases np
  have e0 : H1 p0 = some (.lst []) := s1 _ _ upd_same
  refine for_it walk_list (fun i σ H' => ∃ y3 zs, σ = [some (.int (n : Nat)), some (.int (m / 2 ^ i)), some (.ref p0), y3] ∧ (∀ b o, b ≠ p0 → H1 b = some o → H' b = some o) ∧ H' p0 = some (.lst zs) ∧ RowsV H' zs (bitsOf m ((rowsN n).take i))) ⟨_, [], by rw [Int.pow_zero, Int.ediv_one]; rfl, fun _ _ _ e => e, e0, .nil⟩ (fun i σ H' _ ⟨_, _, hv⟩ => SqL.of (hv.2.1 _ _ pp ep)) (fun i x σ H' H'' hi hv hy => ?_) (fun σ H' hv => ?_)
  · obtain ⟨y3, zs, rfl, k3, e3, rz⟩ := hv
    obtain ⟨rfl, ex⟩ := hy
    obtain ⟨r, hr2, b, rfl, eb⟩ := L2.paired_get rv ex
    have il : i < 2 ^ n := by omega
    have hbits : bitsOf m ((rowsN n).take (i + 1)) = bitsOf m ((rowsN n).take i) ++ if (m / 2 ^ i) % 2 = 1 then [r] else [] := by
      rw [List.take_add_one, hr2]
      show bitsOf m ((rowsN n).take i ++ [r]) = _
      rw [bitsOf_snoc, List.length_take, rowsN_len, Nat.min_eq_left (by omega)]
    have hb0 : b ≠ p0 := fun z => by rw [z, e0] at eb; cases eb
    have hdiv : m / 2 ^ i / 2 = m / 2 ^ (i + 1) := by
      rw [Int.pow_succ, ← Int.ediv_ediv_of_nonneg (Int.le_of_lt (two_pos i))]
    have hσ : ([some (.int (n : Nat)), some (.int (m / 2 ^ i / 2)), some (.ref p0), some (.ref b)] : L2.St) = [some (.int (n : Nat)), some (.int (m / 2 ^ (i + 1))), some (.ref p0), some (.ref b)] := by rw [hdiv]
    walk_at "ss"
    refine ⟨by omega, ?_⟩
    walk_at "ss"
    refine ite2 (fun c => ?_) (fun c => ?_)
    · have c2 : (m / 2 ^ i) % 2 = 1 := by simpa using c
      rw [if_pos c2] at hbits
      have zl : zs.length ≤ 64 := by
        rw [rz.len]
        refine Nat.le_trans (bitsOf_sub _ _).length_le ?_
        rw [List.length_take, rowsN_len]
        omega
      walk_at "ss"
      refine ⟨.inl ⟨rfl, _, SqL.of e3⟩, ?_⟩
      walk_at "ss"
      refine ⟨_, _, _, rfl, rfl, e3, smallt (by omega), ?_⟩
      walk_at "ss"
      refine ⟨⟨by omega, by omega⟩, ?_⟩
      refine gn ?_
      refine ⟨some (.ref b), zs ++ [.ref b], hσ, fun b' o nb e => by rw [upd_ne nb]; exact k3 b' o nb e, upd_same, ?_⟩
      rw [hbits]
      refine RowsV.append (rz.tups fun b' ys e => tup_upd e3 (fun _ z => by cases z) e) (.cons ⟨b, rfl, ?_⟩ .nil)
      rw [upd_ne hb0]
      exact k3 _ _ hb0 eb
    · have c2 : ¬ (m / 2 ^ i) % 2 = 1 := fun z => c (by simpa using z)
      rw [if_neg c2, List.append_nil] at hbits
      walk_at "ss"
      refine ⟨⟨by omega, by omega⟩, ?_⟩
      refine gn ?_
      refine ⟨some (.ref b), zs, hσ, k3, e3, ?_⟩
      rw [hbits]
      exact rz
  · obtain ⟨y3, zs, rfl, k3, e3, rz⟩ := hv
    rw [hlen, ← rowsN_len n, List.take_length] at rz
    have hs : Same H H' := fun b o e => k3 b o (fun z => by rw [z, hp0] at e; cases e) ((s0.trans s1) b o e)
    have sub := bitsOf_sub m (rowsN n)
    walk_at "ss"
    intro x dx hx hd hne
    refine make_lot hx hd hne e3 rz (fun r hr => rowsN_row n r (sub.subset hr)) (sub.nodup (rowsN_nd n)) h1 h6 ?_
    rw [sortR_id (List.Pairwise.sublist sub (rowsN_srt n))]
    exact h.same hs
end
end KK
/-! T11: lot_at, next_lot. -/
namespace KK
open PySem PySem.Spec PyProof.Rows L2 LamX Cov
/-- one step of a reading -/
local macro_rules | `(tactic| walk_at "s") => `(tactic| first | refine ⟨_, rfl, ?_⟩ | refine ⟨_, _, rfl, rfl, ?_⟩ | refine ⟨rfl, ?_⟩ | refine ⟨⟨_, rfl⟩, ?_⟩)
local macro_rules | `(tactic| walk_at "ss") => `(tactic| repeat walk_at "s")
section
variable {P : Program} {w : World} {K : PySem.W.Frag} {mg : Str → Option Value} {base : Heap} {T : List (Addr × Str)}
variable {C fI pP gP pR gR fH fM fE : Addr}
theorem numL_lt (n : Nat) (rs : List (List Int)) : 0 ≤ numL n rs ∧ numL n rs < 2 ^ 2 ^ n := by
  have := numP_lt (fun r => decide (r ∈ rs)) (rowsN n)
  rw [rowsN_len] at this
  exact this
theorem sclot_at : FnScope ["places", "number"] ["places", "number"] (defScope slot_at) := ⟨rfl, rfl, rfl, by decide +kernel, rfl, by decide +kernel, by decide +kernel⟩
/-- y is no number of a lot of n places -/
def NotNum (K : PySem.W.Frag) (H : Hp) (n : Nat) (y : V) : Prop := (∃ i : Int, y = .int i ∧ ¬ (0 ≤ i ∧ i < 2 ^ 2 ^ n)) ∨ ∃ b1 b2, Av K H y b1 b2 ∧ (b1 && !b2) = false
def spLA (K : PySem.W.Frag) (C CB CP : Addr) : Sp := fun vs H Q E => ∃ x y, vs = [x, y] ∧
  ((∃ n : Nat, x = .int (n : Nat) ∧ 1 ≤ n ∧ n ≤ 6 ∧ ((∃ m : Int, y = .int m ∧ 0 ≤ m ∧ m < 2 ^ 2 ^ n ∧ newLot C n (bitsOf m (rowsN n)) H Q) ∨ (NotNum K H n y ∧ bad E CB H (.str "number")))) ∨
   (((∃ i : Int, x = .int i ∧ ¬ (1 ≤ i ∧ i ≤ 6)) ∨ ∃ b1 b2, Av K H x b1 b2 ∧ (b1 && !b2) = false) ∧ E (.ref CP) none H))
theorem ok_lot_at {f fneed_place_count fis_between flots_many flot_by_number CB CP D gI : Addr} {fd fd1 fd2 fd3 fd4 : FuncData} (F : FnP K "lot_at" slot_at f fd) (Z : Zs mg) (XBadNumber : PySem.SupX.SupTxt P K mg "BadNumber" CB D gI "part")
    (Gneed_place_count : FnOk P w K mg base (L2.CX P w) 3 fneed_place_count fd1 ["places"] (spNP K CP)) (Mneed_place_count : Dat K mg "need_place_count" fneed_place_count fd1 ["places"])
    (Gis_between : FnOk P w K mg base (L2.CX P w) 2 fis_between fd2 ["thing", "low", "high"] (spBet K)) (Mis_between : Dat K mg "is_between" fis_between fd2 ["thing", "low", "high"])
    (Glots_many : FnOk P w K mg base (L2.CX P w) 2 flots_many fd3 ["places"] spLM) (Mlots_many : Dat K mg "lots_many" flots_many fd3 ["places"])
    (Glot_by_number : FnOk P w K mg base (L2.CX P w) 8 flot_by_number fd4 ["places", "number"] (spLB C)) (Mlot_by_number : Dat K mg "lot_by_number" flot_by_number fd4 ["places", "number"]) :
    FnOk P w K mg base (L2.CX P w) 9 f fd ["places", "number"] (spLA K C CB CP) := by
  refine F.ok sclot_at (fun vs H Q E h => ?_) (fun cdv A outer s H vs Q E hr h => ?_)
  · obtain ⟨_, _, rfl, _⟩ := h
    rfl
  obtain ⟨x, y, rfl, h⟩ := h
  refine ⟨_, (pss_cons (ps_expr (pe_fx Gneed_place_count Mneed_place_count (hr.mono (by omega)) (takes_of rfl rfl rfl rfl) (pa_cons (pv 0) pa_nil)))
    (pss_cons (ps_if (pt_not (pt_val (pe_fn Gis_between Mis_between (hr.mono (by omega)) (pa_cons (pv 1) (pa_cons pe_int (pa_cons (pe_op op_sub (pe_fn Glots_many Mlots_many (hr.mono (by omega)) (pa_cons (pv 0) pa_nil)) pe_int) pa_nil)))))) (pss_one (ps_raiseSup rfl XBadNumber (hr.mono (show 0 + 1 ≤ _ by omega)) (takes_of rfl rfl rfl rfl) (pa_cons pe_str pa_nil) rfl)) pss_nil)
    (pss_one (ps_ret (pe_fn Glot_by_number Mlot_by_number (hr.mono (by omega)) (pa_cons (pv 0) (pa_cons (pv 1) pa_nil))))))), ?_⟩
  rcases h with ⟨n, rfl, h1, h6, h⟩ | ⟨hx, h⟩
  · walk_at "ss"
    refine .inl ⟨_, rfl, fun _ _ => ?_, fun c => absurd ⟨by omega, by omega⟩ c⟩
    walk_at "ss"
    refine ⟨h6, ?_⟩
    walk_at "ss"
    rcases h with ⟨m, rfl, m0, m1, h⟩ | ⟨hy, h⟩
    · refine ⟨_, _, _, rfl, .inl ⟨m, rfl, ?_⟩⟩
      rw [show (decide ((0 : Int) ≤ m) && decide (m ≤ 2 ^ 2 ^ n - 1)) = true by rw [Bool.and_eq_true, decide_eq_true_iff, decide_eq_true_iff]; omega]
      walk_at "ss"
      exact ⟨n, m, rfl, h1, h6, h⟩
    · rcases hy with ⟨i, rfl, hi⟩ | ⟨b1, b2, av, e⟩
      · refine ⟨_, _, _, rfl, .inl ⟨i, rfl, ?_⟩⟩
        rw [show (decide ((0 : Int) ≤ i) && decide (i ≤ 2 ^ 2 ^ n - 1)) = false by
          rw [Bool.and_eq_false_iff, decide_eq_false_iff_not, decide_eq_false_iff_not]
          omega]
        walk_at "ss"
        exact fun d hd => h H d (Same.refl H) hd
      · refine ⟨_, _, _, rfl, .inr ⟨b1, b2, av, e, ?_⟩⟩
        walk_at "ss"
        exact fun d hd => h H d (Same.refl H) hd
  · walk_at "ss"
    rcases hx with ⟨i, rfl, hi⟩ | ⟨b1, b2, av, e⟩
    · exact .inl ⟨i, rfl, fun a b => absurd ⟨a, b⟩ hi, fun _ => h⟩
    · exact .inr ⟨b1, b2, av, e, h⟩
theorem scnext_lot : FnScope ["lot", "number"] ["lot"] (defScope snext_lot) := ⟨rfl, rfl, rfl, by decide +kernel, rfl, by decide +kernel, by decide +kernel⟩
def spNX (C CN : Addr) : Sp := fun vs H Q E => ∃ x, vs = [x] ∧ ((∃ a n rs, x = .ref a ∧ IsLot C H a n rs ∧ LotOk n rs ∧ (numL n rs + 1 = 2 ^ 2 ^ n → ∀ H', Same H H' → Q .non H') ∧ (numL n rs + 1 ≠ 2 ^ 2 ^ n → newLot C n (bitsOf (numL n rs + 1) (rowsN n)) H Q)) ∨ (NoLotV H x ∧ bad E CN H .non))
theorem ok_next_lot {f flot_number flots_many flot_by_number CN : Addr} {fd fd2 fd3 fd4 fdP : FuncData} (F : FnP K "next_lot" snext_lot f fd) (Z : Zs mg) (LC : LotK K mg C fI pP gP pR gR fH fM fE)
    (Glot_number : FnOk P w K mg base (L2.CX P w) 7 flot_number fd2 ["lot"] (spLN C CN)) (Mlot_number : Dat K mg "lot_number" flot_number fd2 ["lot"])
    (Glots_many : FnOk P w K mg base (L2.CX P w) 2 flots_many fd3 ["places"] spLM) (Mlots_many : Dat K mg "lots_many" flots_many fd3 ["places"])
    (Glot_by_number : FnOk P w K mg base (L2.CX P w) 8 flot_by_number fd4 ["places", "number"] (spLB C)) (Mlot_by_number : Dat K mg "lot_by_number" flot_by_number fd4 ["places", "number"])
    (GLot_places : FnOk P w K mg base (L2.CX P w) 1 gP fdP ["self"] (spPl C)) (BLot_places : Binds K fdP ["self"] []) :
    FnOk P w K mg base (L2.CX P w) 9 f fd ["lot"] (spNX C CN) := by
  refine F.ok scnext_lot (fun vs H Q E h => ?_) (fun cdv A outer s H vs Q E hr h => ?_)
  · obtain ⟨_, rfl, _⟩ := h
    rfl
  obtain ⟨x, rfl, h⟩ := h
  refine ⟨_, (pss_cons (ps_set (i := 1) scnext_lot.nd rfl (Or.inl rfl) (pe_fx Glot_number Mlot_number (hr.mono (by omega)) (takes_of rfl rfl rfl rfl) (pa_cons (pv 0) pa_nil)))
    (pss_one (ps_ret (pe_ifExp (pt_cmpR op_eq (pe_op op_add (pv 1) pe_int) (pe_fn Glots_many Mlots_many (hr.mono (by omega)) (pa_cons (pe_prop (pv 0) LC.cls LC.p_places GLot_places (hr.mono (by omega)) BLot_places .nil passL (by rfl)) pa_nil)) (nomark _)) pe_non (pe_fn Glot_by_number Mlot_by_number (hr.mono (by omega)) (pa_cons (pe_prop (pv 0) LC.cls LC.p_places GLot_places (hr.mono (by omega)) BLot_places .nil passL (by rfl)) (pa_cons (pe_op op_add (pv 1) pe_int) pa_nil))))))), ?_⟩
  rcases h with ⟨a, n, rs, rfl, hL, ok, hz, h⟩ | ⟨hn, h⟩
  · walk_at "ss"
    refine .inl ⟨a, n, rs, rfl, hL, ok, fun H1 s1 => ?_⟩
    have hL1 := hL.same s1
    obtain ⟨dx, t, d, ts, e1, e2, e3, e4⟩ := id hL1
    walk_at "ss"
    refine ⟨a, dx, _, rfl, e1, a, n, rs, rfl, hL1, ?_⟩
    walk_at "ss"
    refine ⟨ok.n6, ?_⟩
    walk_at "ss"
    refine ite2 (fun c => ?_) (fun c => ?_)
    · have c2 : numL n rs + 1 = 2 ^ 2 ^ n := by simpa using c
      walk_at "ss"
      exact hz c2 H1 s1
    · have c2 : ¬ numL n rs + 1 = 2 ^ 2 ^ n := fun z => c (by simpa using z)
      walk_at "ss"
      refine ⟨a, dx, _, rfl, e1, a, n, rs, rfl, hL1, ?_⟩
      walk_at "ss"
      exact ⟨n, _, rfl, ok.n1, ok.n6, (h c2).same s1⟩
  · walk_at "ss"
    exact .inr ⟨hn, h⟩
end
end KK
/-! G4: enumerate(tuple). -/
namespace KK
open PySem PySem.Spec PyProof.Rows
open Sem (wp)
theorem enumNew {v : Value} {ob : Obj} {G : Heap → Prop} (B : Begins v ob G) :
    Meets (Builtin.«enumerate.__new__» ⟨[.type "enumerate", v], []⟩) (fun _ Res st => G st.heap ∧
      Res (.ok (.ret (.ref (st.heap.push ob).objs.size))) { st with heap := (st.heap.push ob).push { cls := .type "enumerate", data := .fields #[.none, .bool false, .ref st.heap.objs.size, rawInt 0, .none, .none] } }) :=
  .of_wp fun prog w A Res st h => by
    obtain ⟨hp, gl, dr, tk, os⟩ := st
    obtain ⟨g1, g2⟩ := h
    have sub := sub_enumerate
    have start : ∀ {A' : Around} {Er : Value → Shared → Prop} {Qr : Value → Shared → Prop}, Qr (.ref hp.objs.size) ⟨hp.push ob, gl, dr, tk, os⟩ → wpAny (model prog w) A' (pyIter v) Qr Er ⟨hp, gl, dr, tk, os⟩ :=
      fun q => B.iter prog w _ _ ⟨hp, gl, dr, tk, os⟩ _ g1 q
    wp_walk using start
    refine wpAny_stack_any fun _ => wpAny_pure ?_
    split
    · rename_i c _ _ _ _ _
      cases (c == Value.type "enumerate") <;> (wp_walk using start; exact ⟨_, rfl, g2⟩)
    · wp_walk using start
      exact ⟨_, rfl, g2⟩
section
variable {prog : Program} {w : World} {A : Around} {Er : Value → Shared → Prop} {st : Shared}
theorem enumCall {v : Value} {ob : Obj} {G : Heap → Prop} {Qr : Value → Shared → Prop} (B : Begins v ob G) (g1 : G st.heap)
    (k : ∀ hp, IsEnum hp (st.heap.objs.size + 1) st.heap.objs.size 0 .none → hp.get? st.heap.objs.size = some ob → hp.objs.size = st.heap.objs.size + 2 →
      (∀ c o, st.heap.get? c = some o → hp.get? c = some o) → Qr (.ref (st.heap.objs.size + 1)) { st with heap := hp }) :
    wpAny (model prog w) A (call (.type "enumerate") [v]) Qr Er st := by
  refine callType_new F.called_enumerate (by decide) (F.typeCall_enumerate_1 _) (F.newCall_enumerate_1 _) (fun z => F.args_object_init_2 z _) F.entry_enumerate_new (enumNew B) ⟨g1, ?_⟩
  have sz : (st.heap.push ob).objs.size = st.heap.objs.size + 1 := Heap.size_push ..
  show _ ∧ _
  rw [sz]
  have ie : IsEnum ((st.heap.push ob).push { cls := .type "enumerate", data := .fields #[.none, .bool false, .ref st.heap.objs.size, rawInt 0, .none, .none] }) (st.heap.objs.size + 1) st.heap.objs.size 0 .none := by
    have q := Heap.get?_push_size (st.heap.push ob) (o := { cls := .type "enumerate", data := .fields #[.none, .bool false, .ref st.heap.objs.size, rawInt 0, .none, .none] }) rfl
    rw [sz] at q
    exact q
  refine ⟨⟨_, ie, rfl⟩, k _ ie (Heap.get?_push_of_some _ (Heap.get?_push_size _ B.free)) (by rw [Heap.size_push, sz]) fun c o z => Heap.get?_push_of_some _ (Heap.get?_push_of_some _ z)⟩
end
end KK
namespace L2
open PySem PySem.Spec PyProof.Rows
/-- the tuple at a as it stands at each turn, each item in a new pair -/
def IteT (K : PySem.W.Frag) (a : Addr) : It :=
  ⟨fun i H => ∃ (xs : List V) (x : V), SqT K H a xs ∧ xs[i]? = some x, fun i H v H' => ∃ u x, v = .ref u ∧ H u = none ∧ H' = upd H u (.tup [.int (i : Nat), x]) ∧ ∀ xs, SqT K H a xs → xs[i]? = some x, fun i H => ∃ xs : List V, SqT K H a xs ∧ xs.length = i⟩
theorem turn_enumT {P : Program} {w : World} {K : PySem.W.Frag} {elts : List Expr} {kk : Nat} {tpos : Pos} (a e it : Addr) (nai : a ≠ it) (nea : e ≠ a) :
    Turn P w K (.Tuple elts kk tpos) (IteT K a) [e, it] e (fun i h => (∃ old, IsEnum h e it ((i : Nat) : Int) old) ∧ h.IsTupleIter it a i ∧ e ≠ it) where
  mem := by simp
  obj := fun i h st b hb => by
    obtain ⟨⟨old, he⟩, ⟨o, ho, hc, hd⟩, _⟩ := st
    have cs : b = e ∨ b = it := by simpa using hb
    rcases cs with rfl | rfl
    · exact ⟨_, he, fun v q => nomatch q⟩
    · exact ⟨o, ho, fun v q => by rw [hd] at q; cases q⟩
  keep := fun i h h' st k => let ⟨⟨old, he⟩, hi, hne⟩ := st; ⟨⟨old, k e (by simp) _ he⟩, hi.at fun o q => k it (by simp) o q, hne⟩
  item := by
    intro X hP hw hK hc i pins s σ H E I hf st hg
    subst hP hw hK
    obtain ⟨⟨old, he⟩, hit, hne⟩ := st
    obtain ⟨xs, x, hq, hx⟩ := hg
    obtain ⟨its, rv, p, hz⟩ := I.tuple hq
    obtain ⟨u, hu, ru⟩ := rv.get hx
    have hel : e < s.heap.objs.size := Heap.lt_size he
    have hil : it < s.heap.objs.size := by obtain ⟨_, q, _⟩ := hit; exact Heap.lt_size q
    have hu2 : its.toArray[i]? = some u := by simpa using hu
    have hlt : i < its.toArray.size := (Array.getElem?_eq_some_iff.mp hu2).1
    refine wpAny_pyNext_enum_itemD (Draws.tuple (A := X.A.in1) (show X.A.in1.handled = none from I.ok.hd hc) it a nai its.toArray) he ⟨hit, p⟩ hlt hne (by simp [hne, nea]) fun x2 h' tk px ho st' hT hsz hk => ?_
    obtain rfl : u = x2 := Option.some.inj (hu2.symm.trans px)
    refine ⟨_, rfl, wpAny_letOwnedTupleGo_enum (s := { s with heap := h', toks := tk + 1 }) ho fun h'' he' sb => ?_⟩
    have hT2 : h''.get? s.heap.objs.size = some { cls := .type "tuple", data := .seq #[.int i tk, u] } := (sb.2 _ (Nat.ne_of_gt hel)).trans hT
    have new : ObjOk X.prog X.w (upd H s.heap.objs.size (.tup [.int (i : Nat), x])) h'' s.heap.objs.size (.tup [.int (i : Nat), x]) :=
      ⟨by show 2 ≤ sizeLine; decide, [.int i tk, u], .cons ⟨_, rfl⟩ (.cons ru .nil), ⟨_, hT2, rfl, _, rfl⟩⟩
    have keep2 : ∀ b o, b ∉ [e, it] → s.heap.get? b = some o → h''.get? b = some o := fun b o hb q => (sb.2 b (fun z => hb (by simp [z]))).trans (hk b o (fun z => hb (by simp [z])) (fun z => hb (by simp [z])) q)
    have I1 : Inv X pins σ (upd H s.heap.objs.size (.tup [.int (i : Nat), x])) { s with heap := h'', toks := tk + 1 } := I.turnedNew (ch := [e, it]) keep2 hf (Nat.le_refl _) new
    refine ⟨.ref s.heap.objs.size, _, I1, rfl, ⟨_, x, rfl, I.hok.fresh (Nat.le_refl _), rfl, fun ys hy => by rw [I.tuple_inj hy hq]; exact hx⟩, ⟨⟨u, ?_⟩, st'.1.at fun o q => (sb.2 it (Ne.symm hne)).trans q, hne⟩, fun b hb => ?_⟩
    · rw [show ((i + 1 : Nat) : Int) = (i : Int) + 1 by omega]
      exact he'
    · have lt : b < s.heap.objs.size := by
        have cs : b = e ∨ b = it := by simpa using hb
        rcases cs with z | z
        · rw [z]; exact hel
        · rw [z]; exact hil
      rw [upd_ne (Nat.ne_of_lt lt)]
      exact (hf b hb).1
  done := by
    intro X hP hw hK hc i pins s σ H E I hf st hg
    subst hP hw hK
    obtain ⟨⟨old, he⟩, hit, hne⟩ := st
    obtain ⟨xs, hq, hx⟩ := hg
    obtain ⟨its, rv, p, hz⟩ := I.tuple hq
    obtain ⟨f0, f1, f2, f3, f4, f5⟩ := hf it (by simp)
    have hl := rv.length
    have e2 : i = its.toArray.size := by simp; omega
    subst e2
    exact wpAny_pyNext_enum_endD (Draws.tuple (A := X.A.in1) (show X.A.in1.handled = none from I.ok.hd hc) it a nai its.toArray) he ⟨hit, p⟩ fun h' eb => ⟨rfl, I.turned (t' := s.toks) (fun b o hb q => eb b o hb q) f0 f1 f3 f4 f5⟩
  self := fun A i s Q E st h => let ⟨⟨_, he⟩, _⟩ := st; wpAny_pyIter_enum he h
def iEnumT (K : PySem.W.Frag) (ta : TA) : TI := fun σ H R => ta σ H fun vs H1 => ∃ a xs, vs = [.ref a] ∧ SqT K H1 a xs ∧ R (IteT K a) H1
theorem pi_enumT {X : Cx} {e : Expr} {ta : TA} {p pos tpos : Pos} {elts : List Expr} {kk : Nat} (gl : Gl X "enumerate") (hm : X.mg "enumerate" = none) (ha : PA X [e] ta) (hs : starEach [e] X.env = [(false, eval e X.env)] := by rfl) :
    PI X (.Tuple elts kk tpos) (.Call (.Name "enumerate" p) [e] [] pos) (iEnumT X.K ta) := by
  refine ⟨fun pins s σ H R I h => Call_ (ld_blt I gl hm boot_enumerate (PyProof.Rows.callWith_type1 (thn (ha.run pos pins s σ H _ I h) fun us s1 ⟨vs, H1, I1, r1, a, xs, ex, hq, q⟩ => ?_) hs rfl))⟩
  subst ex
  cases r1 with
  | cons r rr =>
    cases rr
    cases r
    obtain ⟨its, rv, tp, hz⟩ := I1.tuple hq
    obtain ⟨o, ho, _⟩ := id tp
    have lt : a < s1.heap.objs.size := Heap.lt_size ho
    refine KK.enumCall (begins_tuple a its.toArray) tp fun hp ie ii hsz hk => wpAny_pyIter_enum ie ?_
    have I2 : Inv X pins σ H1 { s1 with heap := hp } := I1.kept (t' := s1.toks) hk
    refine ⟨s1.heap.objs.size + 1, [s1.heap.objs.size + 1, s1.heap.objs.size], _, _, H1, rfl, I2, turn_enumT a (s1.heap.objs.size + 1) s1.heap.objs.size (Nat.ne_of_lt lt) (Nat.ne_of_gt (Nat.lt_succ_of_lt lt)), ⟨⟨.none, ie⟩, ⟨_, ii, rfl, rfl⟩, Nat.succ_ne_self _⟩, fun b hb => ?_, q⟩
    have cs : b = s1.heap.objs.size + 1 ∨ b = s1.heap.objs.size := by simpa using hb
    have big : s1.heap.objs.size ≤ b := by
      rcases cs with z | z
      · rw [z]; exact Nat.le_add_right _ _
      · rw [z]; exact Nat.le_refl _
    exact I1.fpOk big (I1.hok.fresh big)
theorem walk_enumT {K : PySem.W.Frag} {a : Addr} {xs : List V} : Walk (IteT K a) xs.length (fun H => SqT K H a xs) (YPair (fun i => some (.int (i : Nat))) (fun i => xs[i]?)) := by
  refine ⟨fun i _ hi q => ⟨xs, xs[i], q, by simp [hi]⟩, fun _ q => ⟨xs, q, rfl⟩, fun i H v H' _ q y => ?_⟩
  obtain ⟨u, x, h1, h2, h3, h4⟩ := y
  exact ⟨u, .int (i : Nat), x, h1, h2, h3, rfl, h4 xs q⟩
end L2
namespace KK
open PySem PySem.Spec PyProof.Rows L2
theorem pg_tupK {X : Cx} (K : PySem.W.Frag) (h : X.K = K) {es : List Expr} {k : Nat} {t : TGs} {n : Nat} {pos : Pos} (hc : X.calm = true) (hs : PGs X es t)
    (hn : (assignEach es X.env).length = n := by rfl) (hst : (assignEach es X.env).findIdx? (·.1) = none := by rfl) : PG X (.Tuple es k pos) (gTup K n t) := h ▸ pg_tup hc hs hn hst
theorem walk_zipTT {K : PySem.W.Frag} {a b : Addr} {xs ys : List V} {n : Nat} (hn : n = min xs.length ys.length) : Walk (RZ.ItzT K a b) n (fun H => SqT K H a xs ∧ SqT K H b ys) (YPair (fun i => xs[i]?) (fun i => ys[i]?)) := by
  subst hn
  refine ⟨fun i _ hi q => ?_, fun _ q => ⟨xs, ys, q.1, q.2, by omega⟩, fun i H v H' _ q y => ?_⟩
  · have l1 : i < xs.length := by omega
    have l2 : i < ys.length := by omega
    exact ⟨xs, ys, xs[i], ys[i], q.1, q.2, by simp [l1], by simp [l2]⟩
  · obtain ⟨T, x, z, e1, e2, e3, e4, e5⟩ := y
    exact ⟨T, x, z, e1, e2, e3, e4 xs q.1, e5 ys q.2⟩
end KK
/-! T12: rest_lot, is_rising, is_asked. -/
namespace KK
open PySem PySem.Spec PyProof.Rows L2 LamX Cov
/-- one step of a reading -/
local macro_rules | `(tactic| walk_at "s") => `(tactic| first | refine ⟨_, rfl, ?_⟩ | refine ⟨_, _, rfl, rfl, ?_⟩ | refine ⟨rfl, ?_⟩ | refine ⟨⟨_, rfl⟩, ?_⟩)
local macro_rules | `(tactic| walk_at "ss") => `(tactic| repeat walk_at "s")
section
variable {P : Program} {w : World} {K : PySem.W.Frag} {mg : Str → Option Value} {base : Heap} {T : List (Addr × Str)}
variable {C fI pP gP pR gR fH fM fE : Addr}
theorem screst_lot : FnScope ["lot", "row"] ["lot"] (defScope srest_lot) := ⟨rfl, rfl, rfl, by decide +kernel, rfl, by decide +kernel, by decide +kernel⟩
def spRL (C : Addr) : Sp := fun vs H Q _ => ∃ a n rs, vs = [.ref a] ∧ IsLot C H a n rs ∧ LotOk n rs ∧ newLot C n ((rowsN n).filter fun r => !decide (r ∈ rs)) H Q
theorem ok_rest_lot {f fneed_lot fall_answers CN : Addr} {fd fd1 fd2 fdP fdH fdI : FuncData} (F : FnP K "rest_lot" srest_lot f fd) (Z : Zs mg) (LC : LotK K mg C fI pP gP pR gR fH fM fE)
    (Gneed_lot : FnOk P w K mg base (L2.CX P w) 2 fneed_lot fd1 ["lot", "part"] (spNL C CN)) (MDneed_lot : DatD K mg "need_lot" fneed_lot fd1 ["lot", "part"] [.non])
    (Gall_answers : FnOk P w K mg base (L2.CX P w) 1 fall_answers fd2 ["many"] spAA) (Mall_answers : Dat K mg "all_answers" fall_answers fd2 ["many"])
    (GLot_places : FnOk P w K mg base (L2.CX P w) 1 gP fdP ["self"] (spPl C)) (BLot_places : Binds K fdP ["self"] [])
    (GLot_has : FnOk P w K mg base (L2.CX P w) 5 fH fdH ["self", "row"] (spHas C)) (BLot_has : Binds K fdH ["self", "row"] [])
    (GLot___init__ : FnOk P w K mg base (L2.CX P w) 6 fI fdI ["self", "places", "rows"] (spIni C)) (BLot___init__ : Binds K fdI ["self", "places", "rows"] []) :
    FnOk P w K mg base (L2.CX P w) 8 f fd ["lot"] (spRL C) := by
  refine F.ok screst_lot (fun vs H Q E h => ?_) (fun cdv A outer s H vs Q E hr h => ?_)
  · obtain ⟨_, _, _, rfl, _⟩ := h
    rfl
  obtain ⟨a, n, rs, rfl, hL, ok, h⟩ := h
  have g_Lot := LC.g
  obtain ⟨dx, t, d, ts, e1, e2, e3, e4⟩ := id hL
  refine ⟨_, (pss_cons (ps_expr (pe_fxD Gneed_lot MDneed_lot (hr.mono (by omega)) (takes_of rfl rfl rfl rfl) (pa_cons (pv 0) pa_nil)))
    (pss_one (ps_ret (pe_make LC.mkk GLot___init__ (hr.mono (by omega)) (by rfl) g_Lot BLot___init__ .nil passL (pa_cons (pe_prop (pv 0) LC.cls LC.p_places GLot_places (hr.mono (by omega)) BLot_places .nil passL (by rfl)) (pa_cons (pe_lc (own := [("row", 1)]) (g := gName 1) rfl screst_lot.nd (pi_list (pe_fn Gall_answers Mall_answers (hr.mono (by omega)) (pa_cons (pe_prop (pv 0) LC.cls LC.p_places GLot_places (hr.mono (by omega)) BLot_places .nil passL (by rfl)) pa_nil))) (blkOk_by (own := [("row", 1)]) (N := ["lot", "row"]) (sc := defScope srest_lot) (by decide +kernel)) (fun _ _ _ _ _ => pg_name (i := 1) screst_lot.nd rfl (Or.inl rfl)) (fun _ _ _ _ _ => (pts_one (pt_not (pt_val (pe_meth (pv 0) LC.cls LC.m_has GLot_has (hr.mono (by omega)) BLot_has .nil passL (pa_cons (pv 1) pa_nil)))))) (fun _ _ _ _ _ => (pv 1))) pa_nil)))))), ?_⟩
  walk_at "ss"
  refine ⟨_, _, rfl, .inl ⟨a, n, rs, rfl, hL, ?_⟩⟩
  walk_at "ss"
  refine ⟨a, dx, _, rfl, e1, a, n, rs, rfl, hL, ?_⟩
  walk_at "ss"
  refine ⟨a, dx, _, rfl, e1, a, n, rs, rfl, hL, ?_⟩
  walk_at "ss"
  refine ⟨ok.n6, fun H1 p xs s1 np ep rv => ?_⟩
  walk_at "ss"
  refine ⟨⟨_, SqL.of ep⟩, fun D hD => ?_⟩
  have hlen : xs.length = 2 ^ n := by rw [rv.len, rowsN_len]
  have h64 := pow64 ok.n6
  refine lc_it walk_list (fun i H' => Same H1 H' ∧ ∃ zs, H' D = some (.lst zs) ∧ RowsV H' zs (((rowsN n).take i).filter fun r => !decide (r ∈ rs))) ⟨same_new hD _, [], upd_same, .nil⟩ (fun i H' _ hv => SqL.of (hv.1 _ _ ep)) (fun i x H' H'' hi hv hy => ?_) (fun H' hv => ?_)
  · obtain ⟨s3, zs, eD, rz⟩ := hv
    obtain ⟨rfl, ex⟩ := hy
    obtain ⟨r, hr2, b, rfl, eb⟩ := L2.paired_get (rv.same s3) ex
    have hrm := List.mem_of_getElem? hr2
    have htk : ((rowsN n).take (i + 1)).filter (fun r => !decide (r ∈ rs)) = ((rowsN n).take i).filter (fun r => !decide (r ∈ rs)) ++ [r].filter (fun r => !decide (r ∈ rs)) := by
      rw [List.take_add_one, hr2, List.filter_append]
      rfl
    have zl : zs.length ≤ 64 := by
      rw [rz.len]
      refine Nat.le_trans (List.length_filter_le _ _) ?_
      rw [List.length_take, rowsN_len]
      omega
    walk_at "ss"
    refine ⟨a, dx, _, rfl, (s1.trans s3) _ _ e1, rfl, ?_⟩
    walk_at "ss"
    refine ⟨a, n, rs, b, r, rfl, hL.same (s1.trans s3), ok.n6, eb, rowsN_row n r hrm, fun H5 s5 => ?_⟩
    have f1 : decide (r ∈ rs) = false → ((rowsN n).take (i + 1)).filter (fun r => !decide (r ∈ rs)) = ((rowsN n).take i).filter (fun r => !decide (r ∈ rs)) ++ [r] := fun c => by
      rw [htk]
      have : [r].filter (fun r => !decide (r ∈ rs)) = [r] := by simpa using c
      rw [this]
    have f2 : ¬ (!decide (r ∈ rs)) = true → ((rowsN n).take (i + 1)).filter (fun r => !decide (r ∈ rs)) = ((rowsN n).take i).filter (fun r => !decide (r ∈ rs)) := fun c => by
      rw [htk]
      have : [r].filter (fun r => !decide (r ∈ rs)) = [] := by simpa using c
      rw [this, List.append_nil]
    walk_at "ss"
    refine ite2 (fun c => ?_) (fun c => ?_)
    · walk_at "ss"
      refine ⟨zs, s5 _ _ eD, smallt (by omega), same_over hD (s3.trans s5) _, zs ++ [.ref b], upd_same, ?_⟩
      rw [f1 (by simpa using c)]
      have kp : ∀ b' ys, H'' b' = some (.tup ys) → upd H5 D (.lst (zs ++ [.ref b])) b' = some (.tup ys) := fun b' ys e => tup_upd (s5 _ _ eD) (fun _ z => by cases z) (s5 _ _ e)
      exact RowsV.append (rz.tups kp) (.cons ⟨b, rfl, kp _ _ eb⟩ .nil)
    · refine ⟨s3.trans s5, zs, s5 _ _ eD, ?_⟩
      rw [f2 c]
      exact rz.same s5
  · obtain ⟨s3, zs, eD, rz⟩ := hv
    rw [hlen, ← rowsN_len n, List.take_length] at rz
    have sub : ((rowsN n).filter fun r => !decide (r ∈ rs)).Sublist (rowsN n) := List.filter_sublist
    walk_at "ss"
    intro x dx2 hx hd hne
    refine make_lot hx hd hne eD rz (fun r hr => rowsN_row n r (sub.subset hr)) (sub.nodup (rowsN_nd n)) ok.n1 ok.n6 ?_
    rw [sortR_id (List.Pairwise.sublist sub (rowsN_srt n))]
    exact h.same (s1.trans s3)
theorem scis_rising : FnScope ["several", "one", "other"] ["several"] (defScope sis_rising) := ⟨rfl, rfl, rfl, by decide +kernel, rfl, by decide +kernel, by decide +kernel⟩
def spIR : Sp := fun vs H Q _ => ∃ a k, vs = [.ref a] ∧ H a = some (.tup [.int k]) ∧ ∀ H', Same H H' → Q (.bl true) H'
theorem ok_is_rising {f : Addr} {fd : FuncData} (F : FnP K "is_rising" sis_rising f fd) (Z : Zs mg) : FnOk P w K mg base (L2.CX P w) 1 f fd ["several"] spIR := by
  refine F.ok scis_rising (fun vs H Q E h => ?_) (fun cdv A outer s H vs Q E hr h => ?_)
  · obtain ⟨_, _, rfl, _⟩ := h
    rfl
  obtain ⟨a, k, rfl, ea, h⟩ := h
  refine ⟨_, (pss_one (ps_ret (pe_callB (cr_all rfl) (by rfl) Z.all_ (by decide +kernel) (pa_cons (pe_lc (own := [("one", 1), ("other", 2)]) (g := gTup K 2 (gCons (gName 1) (gCons (gName 2) gNil))) (tt := tYes) rfl scis_rising.nd (RZ.pi_zipA (by rfl) Z.zip_ (pa_cons (pv 0) (pa_cons (pe_slice sl_tup (pv 0) (po_some pe_int) po_none) pa_nil))) (blkOk_by (own := [("one", 1), ("other", 2)]) (N := ["several", "one", "other"]) (sc := defScope sis_rising) (by decide +kernel)) (fun _ _ _ _ _ => pg_tupK K rfl rfl (pgs_cons (pg_name (i := 1) scis_rising.nd rfl (Or.inl rfl)) (pgs_cons (pg_name (i := 2) scis_rising.nd rfl (Or.inl rfl)) pgs_nil))) (fun _ _ _ _ _ => pts_nil) (fun _ _ _ _ _ => (pe_cmpR op_lt (pv 1) (pv 2) (nomark _)))) pa_nil)))), ?_⟩
  walk_at "ss"
  refine ⟨a, _, rfl, SqT.of ea, (show ¬ (HT.sIx 1 0 (some 1) = 0 ∧ HT.sIx 1 1 none = 1) by decide), fun p hp => ?_⟩
  have s1 := same_new hp (.tup (cutV [V.int k] (some 1) none))
  walk_at "ss"
  refine ⟨a, p, [.int k], [], rfl, .inr ⟨SqT.of (s1 _ _ ea), SqT.of upd_same, ?_⟩⟩
  intro D hD
  refine lc_it (walk_zipTT (xs := [.int k]) (ys := []) (n := 0) rfl) (fun i H' => Same H H' ∧ H' a = some (.tup [.int k]) ∧ H' p = some (.tup []) ∧ H' D = some (.lst [])) ⟨s1.trans (same_new hD _), nw hD (s1 _ _ ea), nw hD upd_same, upd_same⟩ (fun i H' _ hv => ⟨SqT.of hv.2.1, SqT.of hv.2.2.1⟩) (fun i x H' H'' hi hv hy => absurd hi (by omega)) (fun H' hv => ?_)
  walk_at "ss"
  refine ⟨_, [], rfl, SqL.of hv.2.2.2, ?_⟩
  exact h _ hv.1
theorem scis_asked : FnScope ["places", "thing", "place"] ["places", "thing"] (defScope sis_asked) := ⟨rfl, rfl, rfl, by decide +kernel, rfl, by decide +kernel, by decide +kernel⟩
def spIA : Sp := fun vs H Q _ => ∃ (n : Nat) (a : Addr) (k : Int), vs = [.int (n : Nat), .ref a] ∧ H a = some (.tup [.int k]) ∧ 0 ≤ k ∧ k < n ∧ ∀ H', Same H H' → Q (.bl true) H'
theorem ok_is_asked {f fis_between fis_rising : Addr} {fd fd1 fd2 : FuncData} (F : FnP K "is_asked" sis_asked f fd) (Z : Zs mg)
    (Gis_between : FnOk P w K mg base (L2.CX P w) 2 fis_between fd1 ["thing", "low", "high"] (spBet K)) (Mis_between : Dat K mg "is_between" fis_between fd1 ["thing", "low", "high"])
    (Gis_rising : FnOk P w K mg base (L2.CX P w) 1 fis_rising fd2 ["several"] spIR) (Mis_rising : Dat K mg "is_rising" fis_rising fd2 ["several"]) : FnOk P w K mg base (L2.CX P w) 3 f fd ["places", "thing"] spIA := by
  refine F.ok scis_asked (fun vs H Q E h => ?_) (fun cdv A outer s H vs Q E hr h => ?_)
  · obtain ⟨_, _, _, rfl, _⟩ := h
    rfl
  obtain ⟨n, a, k, rfl, ea, k0, k1, h⟩ := h
  refine ⟨_, (pss_cons (ps_if (PW.pt (pw_or (pt_not (pt_val (pe_callB call_isi (by rfl) Z.isinstance_ (by decide +kernel) (pa_cons (pv 1) (pa_cons (pe_bltn (v := .ty "tuple") (by rfl) Z.tuple_ (by decide +kernel) rfl) pa_nil))))) (pw_or1 (pt_not (pt_val (pe_callB (cr_all rfl) (by rfl) Z.all_ (by decide +kernel) (pa_cons (pe_lc (own := [("place", 2)]) (g := gName 2) (tt := tYes) rfl scis_asked.nd (pi_tup (pv 1)) (blkOk_by (own := [("place", 2)]) (N := ["places", "thing", "place"]) (sc := defScope sis_asked) (by decide +kernel)) (fun _ _ _ _ _ => pg_name (i := 2) scis_asked.nd rfl (Or.inl rfl)) (fun _ _ _ _ _ => pts_nil) (fun _ _ _ _ _ => (pe_fn Gis_between Mis_between (hr.mono (by omega)) (pa_cons (pv 2) (pa_cons pe_int (pa_cons (pe_op op_sub (pv 0) pe_int) pa_nil)))))) pa_nil))))))) (pss_one (ps_ret pe_bl)) pss_nil)
    (pss_one (ps_ret (pe_fn Gis_rising Mis_rising (hr.mono (by omega)) (pa_cons (pv 1) pa_nil))))), ?_⟩
  walk_at "ss"
  refine ⟨_, _, _, _, true, rfl, .ty _, isi_tup ea, kit_ty (by decide +kernel), ?_⟩
  walk_at "ss"
  refine ⟨⟨_, SqT.of ea⟩, fun D hD => ?_⟩
  refine lc_it (walk_tup (xs := [.int k])) (fun i H' => Same H H' ∧ H' D = some (.lst (List.replicate i (.bl true)))) ⟨same_new hD _, upd_same⟩ (fun i H' _ hv => SqT.of (hv.1 _ _ ea)) (fun i x H' H'' hi hv hy => ?_) (fun H' hv => ?_)
  · obtain ⟨rfl, ex⟩ := hy
    obtain rfl : i = 0 := by simpa using hi
    obtain rfl : V.int k = x := Option.some.inj ex
    walk_at "ss"
    refine ⟨_, _, _, rfl, .inl ⟨_, rfl, ?_⟩⟩
    rw [show (decide ((0 : Int) ≤ k) && decide (k ≤ (n : Int) - 1)) = true by rw [Bool.and_eq_true, decide_eq_true_iff, decide_eq_true_iff]; omega]
    exact ⟨[], hv.2, smallt (by simp), same_over hD hv.1 _, upd_same⟩
  · walk_at "ss"
    refine ⟨_, [true], rfl, SqL.of hv.2, ?_⟩
    walk_at "ss"
    exact ⟨a, k, rfl, hv.1 _ _ ea, fun H2 s2 => h H2 (hv.1.trans s2)⟩
end
end KK
/-! T13: need_asked, need_lot_asked, flipped_row. -/
namespace KK
open PySem PySem.Spec PyProof.Rows L2 LamX Cov
/-- one step of a reading -/
local macro_rules | `(tactic| walk_at "s") => `(tactic| first | refine ⟨_, rfl, ?_⟩ | refine ⟨_, _, rfl, rfl, ?_⟩ | refine ⟨rfl, ?_⟩ | refine ⟨⟨_, rfl⟩, ?_⟩)
local macro_rules | `(tactic| walk_at "ss") => `(tactic| repeat walk_at "s")
section
variable {P : Program} {w : World} {K : PySem.W.Frag} {mg : Str → Option Value} {base : Heap} {T : List (Addr × Str)}
variable {C fI pP gP pR gR fH fM fE : Addr}
/-- the answer at k turned -/
def flipI (k : Int) : Nat → List Int → List Int
  | _, [] => []
  | i, x :: r => (if (i : Int) = k then 1 - x else x) :: flipI k (i + 1) r
abbrev flipAt (k : Int) (r : List Int) : List Int := flipI k 0 r
theorem flipI_len (k : Int) : ∀ i r, (flipI k i r).length = r.length
  | _, [] => rfl
  | i, x :: r => by
    show (flipI k (i + 1) r).length + 1 = r.length + 1
    rw [flipI_len]
theorem flipI_two (k : Int) : ∀ i r, flipI k i (flipI k i r) = r
  | _, [] => rfl
  | i, x :: r => by
    show (if (i : Int) = k then 1 - (if (i : Int) = k then 1 - x else x) else (if (i : Int) = k then 1 - x else x)) :: flipI k (i + 1) (flipI k (i + 1) r) = x :: r
    rw [flipI_two k (i + 1) r]
    by_cases c : (i : Int) = k
    · rw [if_pos c, if_pos c]
      congr 1
      omega
    · rw [if_neg c, if_neg c]
theorem flipI_row (k : Int) : ∀ i r, (∀ b ∈ r, 0 ≤ b ∧ b ≤ (1 : Int)) → ∀ b ∈ flipI k i r, 0 ≤ b ∧ b ≤ 1
  | _, [], _, b, hb => absurd hb (by simp [flipI])
  | i, x :: r, h, b, hb => by
    have hx := h x List.mem_cons_self
    rcases List.mem_cons.mp (show b ∈ (if (i : Int) = k then 1 - x else x) :: flipI k (i + 1) r from hb) with rfl | hb
    · split <;> omega
    · exact flipI_row k (i + 1) r (fun y hy => h y (List.mem_cons_of_mem _ hy)) b hb
theorem flipAt_row {k : Int} {n : Nat} {r : List Int} (h : IsRow n r) : IsRow n (flipAt k r) := ⟨by rw [flipI_len]; exact h.1, flipI_row k 0 r h.2⟩
theorem flipAt_inj {k : Int} {r q : List Int} (h : flipAt k r = flipAt k q) : r = q := by
  have := flipI_two k 0 r
  rw [show flipI k 0 r = flipI k 0 q from h, flipI_two] at this
  exact this.symm
theorem flipI_snoc (k : Int) : ∀ i r x, flipI k i (r ++ [x]) = flipI k i r ++ [if ((i + r.length : Nat) : Int) = k then 1 - x else x]
  | i, [], x => rfl
  | i, y :: r, x => by
    show _ :: flipI k (i + 1) (r ++ [x]) = _ :: (flipI k (i + 1) r ++ _)
    rw [flipI_snoc k (i + 1) r x, List.length_cons, show i + 1 + r.length = i + (r.length + 1) by omega]
theorem nodup_map_flip {k : Int} : ∀ {rs : List (List Int)}, rs.Nodup → (rs.map (flipAt k)).Nodup := fun h => List.pairwise_map.mpr (h.imp fun {a b} n e => n (flipAt_inj e))
theorem scneed_asked : FnScope ["lot", "asked"] ["lot", "asked"] (defScope sneed_asked) := ⟨rfl, rfl, rfl, by decide +kernel, rfl, by decide +kernel, by decide +kernel⟩
def spNA (C : Addr) : Sp := fun vs H Q _ => ∃ (l a : Addr) (n : Nat) (rs : List (List Int)) (k : Int), vs = [.ref l, .ref a] ∧ IsLot C H l n rs ∧ H a = some (.tup [.int k]) ∧ 0 ≤ k ∧ k < n ∧ ∀ H', Same H H' → Q .non H'
theorem ok_need_asked {f fis_asked CA : Addr} {fd fd1 fdP : FuncData} (F : FnP K "need_asked" sneed_asked f fd) (LC : LotK K mg C fI pP gP pR gR fH fM fE) (XBadAsked : ExT K mg "BadAsked" CA)
    (Gis_asked : FnOk P w K mg base (L2.CX P w) 3 fis_asked fd1 ["places", "thing"] spIA) (Mis_asked : Dat K mg "is_asked" fis_asked fd1 ["places", "thing"])
    (GLot_places : FnOk P w K mg base (L2.CX P w) 1 gP fdP ["self"] (spPl C)) (BLot_places : Binds K fdP ["self"] []) : FnOk P w K mg base (L2.CX P w) 4 f fd ["lot", "asked"] (spNA C) := by
  refine F.ok scneed_asked (fun vs H Q E h => ?_) (fun cdv A outer s H vs Q E hr h => ?_)
  · obtain ⟨_, _, _, _, _, rfl, _⟩ := h
    rfl
  obtain ⟨l, a, n, rs, k, rfl, hL, ea, k0, k1, h⟩ := h
  obtain ⟨dx, t, d, ts, e1, e2, e3, e4⟩ := id hL
  refine ⟨_, (pss_one (ps_if (pt_not (pt_val (pe_fn Gis_asked Mis_asked (hr.mono (by omega)) (pa_cons (pe_prop (pv 0) LC.cls LC.p_places GLot_places (hr.mono (by omega)) BLot_places .nil passL (by rfl)) (pa_cons (pv 1) pa_nil))))) (pss_one (ps_raise rfl (takes_of rfl rfl rfl rfl) (pmk_x XBadAsked))) pss_nil)), ?_⟩
  walk_at "ss"
  refine ⟨l, dx, _, rfl, e1, l, n, rs, rfl, hL, ?_⟩
  walk_at "ss"
  refine ⟨n, a, k, rfl, ea, k0, k1, fun H1 s1 => ?_⟩
  walk_at "ss"
  exact h H1 s1
theorem scneed_lot_asked : FnScope ["lot", "asked"] ["lot", "asked"] (defScope sneed_lot_asked) := ⟨rfl, rfl, rfl, by decide +kernel, rfl, by decide +kernel, by decide +kernel⟩
theorem ok_need_lot_asked {f fneed_lot fneed_asked CN : Addr} {fd fd1 fd2 : FuncData} (F : FnP K "need_lot_asked" sneed_lot_asked f fd)
    (Gneed_lot : FnOk P w K mg base (L2.CX P w) 2 fneed_lot fd1 ["lot", "part"] (spNL C CN)) (MDneed_lot : DatD K mg "need_lot" fneed_lot fd1 ["lot", "part"] [.non])
    (Gneed_asked : FnOk P w K mg base (L2.CX P w) 4 fneed_asked fd2 ["lot", "asked"] (spNA C)) (Mneed_asked : Dat K mg "need_asked" fneed_asked fd2 ["lot", "asked"]) : FnOk P w K mg base (L2.CX P w) 5 f fd ["lot", "asked"] (spNA C) := by
  refine F.ok scneed_lot_asked (fun vs H Q E h => ?_) (fun cdv A outer s H vs Q E hr h => ?_)
  · obtain ⟨_, _, _, _, _, rfl, _⟩ := h
    rfl
  obtain ⟨l, a, n, rs, k, rfl, hL, ea, k0, k1, h⟩ := h
  refine ⟨_, (pss_cons (ps_expr (pe_fxD Gneed_lot MDneed_lot (hr.mono (by omega)) (takes_of rfl rfl rfl rfl) (pa_cons (pv 0) pa_nil)))
    (pss_one (ps_expr (pe_fn Gneed_asked Mneed_asked (hr.mono (by omega)) (pa_cons (pv 0) (pa_cons (pv 1) pa_nil)))))), ?_⟩
  walk_at "ss"
  refine ⟨_, _, rfl, .inl ⟨l, n, rs, rfl, hL, ?_⟩⟩
  walk_at "ss"
  exact ⟨l, a, n, rs, k, rfl, hL, ea, k0, k1, h⟩
theorem scflipped_row : FnScope ["row", "asked", "place", "answer"] ["row", "asked"] (defScope sflipped_row) := ⟨rfl, rfl, rfl, by decide +kernel, rfl, by decide +kernel, by decide +kernel⟩
def spFR : Sp := fun vs H Q _ => ∃ (b a : Addr) (r : List Int) (k : Int), vs = [.ref b, .ref a] ∧ H b = some (.tup (r.map .int)) ∧ H a = some (.tup [.int k]) ∧ r.length ≤ 6 ∧ ∀ H' p, Same H H' → H p = none → H' p = some (.tup ((flipAt k r).map .int)) → Q (.ref p) H'
theorem ok_flipped_row {f : Addr} {fd : FuncData} (F : FnP K "flipped_row" sflipped_row f fd) (Z : Zs mg) : FnOk P w K mg base (L2.CX P w) 1 f fd ["row", "asked"] spFR := by
  refine F.ok scflipped_row (fun vs H Q E h => ?_) (fun cdv A outer s H vs Q E hr h => ?_)
  · obtain ⟨_, _, _, _, rfl, _⟩ := h
    rfl
  obtain ⟨b, a, r, k, rfl, eb, ea, hl, h⟩ := h
  refine ⟨_, (pss_one (ps_ret (pe_callTy call_tuple_of (by rfl) Z.tuple_ (by decide +kernel) (pa_cons (pe_lc (own := [("place", 2), ("answer", 3)]) (g := gTup K 2 (gCons (gName 2) (gCons (gName 3) gNil))) (tt := tYes) rfl scflipped_row.nd (pi_enumT (by rfl) Z.enumerate_ (pa_cons (pv 0) pa_nil)) (blkOk_by (own := [("place", 2), ("answer", 3)]) (N := ["row", "asked", "place", "answer"]) (sc := defScope sflipped_row) (by decide +kernel)) (fun _ _ _ _ _ => pg_tupK K rfl rfl (pgs_cons (pg_name (i := 2) scflipped_row.nd rfl (Or.inl rfl)) (pgs_cons (pg_name (i := 3) scflipped_row.nd rfl (Or.inl rfl)) pgs_nil))) (fun _ _ _ _ _ => pts_nil) (fun _ _ _ _ _ => (pe_ifExp (pt_cmpR (op_in_seqK K rfl) (pv 2) (pv 1) (by rfl)) (pe_op op_sub pe_int (pv 3)) (pv 3)))) pa_nil)))), ?_⟩
  walk_at "ss"
  refine ⟨_, _, rfl, SqT.of eb, fun D hD => ?_⟩
  refine lc_it (walk_enumT (xs := r.map .int)) (fun i H' => Same H H' ∧ H' D = some (.lst ((flipAt k (r.take i)).map .int))) ⟨same_new hD _, upd_same⟩ (fun i H' _ hv => SqT.of (hv.1 _ _ eb)) (fun i x H' H'' hi hv hy => ?_) (fun H' hv => ?_)
  · obtain ⟨q, u1, u2, rfl, hq, rfl, f1, f2⟩ := hy
    obtain rfl : V.int (i : Nat) = u1 := Option.some.inj f1
    rw [List.length_map] at hi
    have f3 : (r.map V.int)[i]? = some (.int r[i]) := by simp [hi]
    obtain rfl : V.int r[i] = u2 := Option.some.inj (f3.symm.trans f2)
    have s4 := same_new hq (.tup [.int (i : Nat), .int r[i]])
    have s34 := hv.1.trans s4
    have stepf : flipAt k (r.take (i + 1)) = flipAt k (r.take i) ++ [if (i : Int) = k then 1 - r[i] else r[i]] := by
      rw [List.take_add_one, List.getElem?_eq_getElem hi]
      show flipI k 0 (r.take i ++ [r[i]]) = _
      rw [flipI_snoc, List.length_take, Nat.min_eq_left (by omega), Nat.zero_add]
    refine ⟨_, _, rfl, SqT.of upd_same, rfl, _, _, rfl, _, _, rfl, rfl, ?_⟩
    walk_at "ss"
    refine ⟨a, _, rfl, .inr (SqT.of (s34 _ _ ea)), rfl, rfl, ?_⟩
    have hin : L2.inV (.int (i : Nat)) [.int k] = decide ((i : Int) = k) := by
      show (k == (i : Int) || false) = _
      rw [Bool.or_false]
      by_cases c : (i : Int) = k
      · rw [decide_eq_true c, c]; exact beq_self_eq_true _
      · rw [decide_eq_false c]; exact beq_eq_false_iff_ne.mpr fun z => c z.symm
    have fin : ∀ z : Int, z = (if (i : Int) = k then 1 - r[i] else r[i]) → ∃ acc, (upd H' q (.tup [.int (i : Nat), .int r[i]])) D = some (.lst acc) ∧ acc.length < sizeLine ∧ Same H (upd (upd H' q (.tup [.int (i : Nat), .int r[i]])) D (.lst (acc ++ [.int z]))) ∧
        upd (upd H' q (.tup [.int (i : Nat), .int r[i]])) D (.lst (acc ++ [.int z])) D = some (.lst ((flipAt k (r.take (i + 1))).map .int)) := fun z ez => by
      refine ⟨_, s4 _ _ hv.2, smallt (by rw [List.length_map, flipI_len, List.length_take]; omega), same_over hD s34 _, ?_⟩
      rw [upd_same, stepf, List.map_append, ez]
      rfl
    rw [if_neg Bool.false_ne_true, hin]
    walk_at "ss"
    refine ite2 (fun c => ?_) (fun c => ?_)
    · have c2 := of_decide_eq_true c
      rw [if_pos c2] at fin
      walk_at "ss"
      exact fin _ rfl
    · have c2 : ¬ (i : Int) = k := fun z => c (decide_eq_true z)
      rw [if_neg c2] at fin
      walk_at "ss"
      exact fin _ rfl
  · obtain ⟨s1, eD⟩ := hv
    rw [List.length_map, List.take_length] at eD
    walk_at "ss"
    refine ⟨D, _, rfl, .inl ⟨SqL.of eD, fun t ht => ?_⟩⟩
    walk_at "ss"
    exact h _ t (same_over (none_of s1 ht) s1 _) (none_of s1 ht) upd_same
theorem scflipped_lot : FnScope ["lot", "asked", "row"] ["lot", "asked"] (defScope sflipped_lot) := ⟨rfl, rfl, rfl, by decide +kernel, rfl, by decide +kernel, by decide +kernel⟩
def spFL (C : Addr) : Sp := fun vs H Q _ => ∃ (l a : Addr) (n : Nat) (rs : List (List Int)) (k : Int), vs = [.ref l, .ref a] ∧ IsLot C H l n rs ∧ LotOk n rs ∧ H a = some (.tup [.int k]) ∧ 0 ≤ k ∧ k < n ∧ newLot C n (sortR (rs.map (flipAt k))) H Q
theorem ok_flipped_lot {f fneed_lot_asked fflipped_row : Addr} {fd fd1 fd2 fdP fdR fdI : FuncData} (F : FnP K "flipped_lot" sflipped_lot f fd) (LC : LotK K mg C fI pP gP pR gR fH fM fE)
    (Gneed_lot_asked : FnOk P w K mg base (L2.CX P w) 5 fneed_lot_asked fd1 ["lot", "asked"] (spNA C)) (Mneed_lot_asked : Dat K mg "need_lot_asked" fneed_lot_asked fd1 ["lot", "asked"])
    (Gflipped_row : FnOk P w K mg base (L2.CX P w) 1 fflipped_row fd2 ["row", "asked"] spFR) (Mflipped_row : Dat K mg "flipped_row" fflipped_row fd2 ["row", "asked"])
    (GLot_places : FnOk P w K mg base (L2.CX P w) 1 gP fdP ["self"] (spPl C)) (BLot_places : Binds K fdP ["self"] [])
    (GLot_rows : FnOk P w K mg base (L2.CX P w) 1 gR fdR ["self"] (spRo C)) (BLot_rows : Binds K fdR ["self"] [])
    (GLot___init__ : FnOk P w K mg base (L2.CX P w) 6 fI fdI ["self", "places", "rows"] (spIni C)) (BLot___init__ : Binds K fdI ["self", "places", "rows"] []) :
    FnOk P w K mg base (L2.CX P w) 8 f fd ["lot", "asked"] (spFL C) := by
  refine F.ok scflipped_lot (fun vs H Q E h => ?_) (fun cdv A outer s H vs Q E hr h => ?_)
  · obtain ⟨_, _, _, _, _, rfl, _⟩ := h
    rfl
  obtain ⟨l, a, n, rs, k, rfl, hL, ok, ea, k0, k1, h⟩ := h
  have g_Lot := LC.g
  obtain ⟨dx, t, d, ts, e1, e2, e3, e4⟩ := id hL
  refine ⟨_, (pss_cons (ps_expr (pe_fn Gneed_lot_asked Mneed_lot_asked (hr.mono (by omega)) (pa_cons (pv 0) (pa_cons (pv 1) pa_nil))))
    (pss_one (ps_ret (pe_make LC.mkk GLot___init__ (hr.mono (by omega)) (by rfl) g_Lot BLot___init__ .nil passL (pa_cons (pe_prop (pv 0) LC.cls LC.p_places GLot_places (hr.mono (by omega)) BLot_places .nil passL (by rfl)) (pa_cons (pe_lc (own := [("row", 2)]) (g := gName 2) (tt := tYes) rfl scflipped_lot.nd (pi_tup (pe_prop (pv 0) LC.cls LC.p_rows GLot_rows (hr.mono (by omega)) BLot_rows .nil passL (by rfl))) (blkOk_by (own := [("row", 2)]) (N := ["lot", "asked", "row"]) (sc := defScope sflipped_lot) (by decide +kernel)) (fun _ _ _ _ _ => pg_name (i := 2) scflipped_lot.nd rfl (Or.inl rfl)) (fun _ _ _ _ _ => pts_nil) (fun _ _ _ _ _ => (pe_fn Gflipped_row Mflipped_row (hr.mono (by omega)) (pa_cons (pv 2) (pa_cons (pv 1) pa_nil))))) pa_nil)))))), ?_⟩
  walk_at "ss"
  refine ⟨l, a, n, rs, k, rfl, hL, ea, k0, k1, fun H1 s1 => ?_⟩
  have hL1 := hL.same s1
  have e11 := s1 _ _ e1
  walk_at "ss"
  refine ⟨l, dx, _, rfl, e11, l, n, rs, rfl, hL1, ?_⟩
  walk_at "ss"
  refine ⟨l, dx, _, rfl, e11, l, n, rs, rfl, hL1, fun tr xr etr rvr => ?_⟩
  walk_at "ss"
  refine ⟨⟨_, SqT.of etr⟩, fun D hD => ?_⟩
  have ln := ok.len
  refine lc_it (walk_tup (xs := xr)) (fun i H' => Same H1 H' ∧ ∃ zs, H' D = some (.lst zs) ∧ RowsV H' zs ((rs.take i).map (flipAt k))) ⟨same_new hD _, [], upd_same, .nil⟩ (fun i H' _ hv => SqT.of (hv.1 _ _ etr)) (fun i x H' H'' hi hv hy => ?_) (fun H' hv => ?_)
  · obtain ⟨s3, zs, eD, rz⟩ := hv
    obtain ⟨rfl, ex⟩ := hy
    obtain ⟨r, hr2, b, rfl, eb⟩ := L2.paired_get (rvr.same s3) ex
    have hrm := List.mem_of_getElem? hr2
    have htk : (rs.take (i + 1)).map (flipAt k) = (rs.take i).map (flipAt k) ++ [flipAt k r] := by
      rw [List.take_add_one, hr2, List.map_append]
      rfl
    have zl : zs.length ≤ 64 := by
      rw [rz.len, List.length_map, List.length_take]
      omega
    have rl : r.length ≤ 6 := by rw [(ok.row r hrm).1]; exact ok.n6
    walk_at "ss"
    refine ⟨b, a, r, k, rfl, eb, (s1.trans s3) _ _ ea, rl, fun H5 q s5 nq eq => ?_⟩
    refine ⟨zs, s5 _ _ eD, smallt (by omega), same_over hD (s3.trans s5) _, zs ++ [.ref q], upd_same, ?_⟩
    rw [htk]
    have kp : ∀ b' ys, H5 b' = some (.tup ys) → upd H5 D (.lst (zs ++ [.ref q])) b' = some (.tup ys) := fun b' ys e => tup_upd (s5 _ _ eD) (fun _ z => by cases z) e
    exact RowsV.append (rz.tups fun b' ys e => kp b' ys (s5 _ _ e)) (.cons ⟨q, rfl, kp _ _ eq⟩ .nil)
  · obtain ⟨s3, zs, eD, rz⟩ := hv
    rw [rvr.len, List.take_length] at rz
    walk_at "ss"
    intro x dx2 hx hd hne
    refine make_lot hx hd hne eD rz (fun r hr => ?_) (nodup_map_flip ok.nd) ok.n1 ok.n6 (h.same (s1.trans s3))
    obtain ⟨q, hq, rfl⟩ := List.mem_map.mp hr
    exact flipAt_row (ok.row q hq)
end
end KK
/-! T14: need_two, beside. -/
namespace KK
open PySem PySem.Spec PyProof.Rows L2 LamX Cov
/-- one step of a reading -/
local macro_rules | `(tactic| walk_at "s") => `(tactic| first | refine ⟨_, rfl, ?_⟩ | refine ⟨_, _, rfl, rfl, ?_⟩ | refine ⟨rfl, ?_⟩ | refine ⟨⟨_, rfl⟩, ?_⟩)
local macro_rules | `(tactic| walk_at "ss") => `(tactic| repeat walk_at "s")
section
variable {P : Program} {w : World} {K : PySem.W.Frag} {mg : Str → Option Value} {base : Heap} {T : List (Addr × Str)}
variable {C fI pP gP pR gR fH fM fE : Addr}
theorem scneed_two : FnScope ["one", "other"] ["one", "other"] (defScope sneed_two) := ⟨rfl, rfl, rfl, by decide +kernel, rfl, by decide +kernel, by decide +kernel⟩
def spN2 (C : Addr) : Sp := fun vs H Q _ => ∃ (a b : Addr) (n m : Nat) (rs qs : List (List Int)), vs = [.ref a, .ref b] ∧ IsLot C H a n rs ∧ IsLot C H b m qs ∧ Q .non H
theorem ok_need_two {f fneed_lot CN : Addr} {fd fd1 : FuncData} (F : FnP K "need_two" sneed_two f fd)
    (Gneed_lot : FnOk P w K mg base (L2.CX P w) 2 fneed_lot fd1 ["lot", "part"] (spNL C CN)) (Mneed_lot : Dat K mg "need_lot" fneed_lot fd1 ["lot", "part"]) : FnOk P w K mg base (L2.CX P w) 3 f fd ["one", "other"] (spN2 C) := by
  refine F.ok scneed_two (fun vs H Q E h => ?_) (fun cdv A outer s H vs Q E hr h => ?_)
  · obtain ⟨_, _, _, _, _, _, rfl, _⟩ := h
    rfl
  obtain ⟨a, b, n, m, rs, qs, rfl, hL, hM, h⟩ := h
  refine ⟨_, (pss_cons (ps_expr (pe_fx Gneed_lot Mneed_lot (hr.mono (by omega)) (takes_of rfl rfl rfl rfl) (pa_cons (pv 0) (pa_cons pe_str pa_nil))))
    (pss_one (ps_expr (pe_fx Gneed_lot Mneed_lot (hr.mono (by omega)) (takes_of rfl rfl rfl rfl) (pa_cons (pv 1) (pa_cons pe_str pa_nil)))))), ?_⟩
  walk_at "ss"
  refine ⟨_, _, rfl, .inl ⟨a, n, rs, rfl, hL, ?_⟩⟩
  walk_at "ss"
  refine ⟨_, _, rfl, .inl ⟨b, m, qs, rfl, hM, ?_⟩⟩
  walk_at "ss"
  exact h
/-- the rows of two lots beside one another -/
def besR (rs qs : List (List Int)) : List (List Int) := rs.flatMap fun r => qs.map fun q => r ++ q
theorem besR_row {n m : Nat} {rs qs : List (List Int)} (hr : ∀ r ∈ rs, IsRow n r) (hq : ∀ q ∈ qs, IsRow m q) : ∀ r ∈ besR rs qs, IsRow (n + m) r := fun r h => by
  obtain ⟨a, ha, h⟩ := List.mem_flatMap.mp h
  obtain ⟨b, hb, rfl⟩ := List.mem_map.mp h
  refine ⟨by rw [List.length_append, (hr a ha).1, (hq b hb).1], fun c hc => ?_⟩
  rcases List.mem_append.mp hc with k | k
  · exact (hr a ha).2 c k
  · exact (hq b hb).2 c k
theorem besR_nd {n : Nat} {rs qs : List (List Int)} (hr : ∀ r ∈ rs, IsRow n r) (dr : rs.Nodup) (dq : qs.Nodup) : (besR rs qs).Nodup := by
  refine List.pairwise_flatMap.mpr ⟨fun r _ => List.pairwise_map.mpr (dq.imp fun {a b} h e => h (List.append_cancel_left e)), ?_⟩
  refine List.Pairwise.imp_of_mem (fun {a b} ha hb h x hx y hy e => ?_) dr
  obtain ⟨u, _, rfl⟩ := List.mem_map.mp hx
  obtain ⟨v, _, rfl⟩ := List.mem_map.mp hy
  exact h (List.append_inj e (by rw [(hr a ha).1, (hr b hb).1])).1
theorem besR_len (qs : List (List Int)) : ∀ rs : List (List Int), (besR rs qs).length = rs.length * qs.length
  | [] => by simp [besR]
  | r :: rs => by
    show (qs.map (r ++ ·) ++ besR rs qs).length = _
    rw [List.length_append, List.length_map, besR_len qs rs, List.length_cons, Nat.add_mul, Nat.one_mul, Nat.add_comm]
theorem scbeside : FnScope ["one", "other", "first", "second"] ["one", "other"] (defScope sbeside) := ⟨rfl, rfl, rfl, by decide +kernel, rfl, by decide +kernel, by decide +kernel⟩
def spBS (C : Addr) : Sp := fun vs H Q _ => ∃ (a b : Addr) (n m : Nat) (rs qs : List (List Int)), vs = [.ref a, .ref b] ∧ IsLot C H a n rs ∧ IsLot C H b m qs ∧ LotOk n rs ∧ LotOk m qs ∧ n + m ≤ 6 ∧ newLot C (n + m) (sortR (besR rs qs)) H Q
theorem ok_beside {f fneed_two CR : Addr} {fd fd1 fdP fdR fdI : FuncData} (F : FnP K "beside" sbeside f fd) (LC : LotK K mg C fI pP gP pR gR fH fM fE) (g_MOST_PLACES : mg "MOST_PLACES" = some (.int 6 t0)) (XNoRoom : ExT K mg "NoRoom" CR)
    (Gneed_two : FnOk P w K mg base (L2.CX P w) 3 fneed_two fd1 ["one", "other"] (spN2 C)) (Mneed_two : Dat K mg "need_two" fneed_two fd1 ["one", "other"])
    (GLot_places : FnOk P w K mg base (L2.CX P w) 1 gP fdP ["self"] (spPl C)) (BLot_places : Binds K fdP ["self"] [])
    (GLot_rows : FnOk P w K mg base (L2.CX P w) 1 gR fdR ["self"] (spRo C)) (BLot_rows : Binds K fdR ["self"] [])
    (GLot___init__ : FnOk P w K mg base (L2.CX P w) 6 fI fdI ["self", "places", "rows"] (spIni C)) (BLot___init__ : Binds K fdI ["self", "places", "rows"] []) :
    FnOk P w K mg base (L2.CX P w) 8 f fd ["one", "other"] (spBS C) := by
  refine F.ok scbeside (fun vs H Q E h => ?_) (fun cdv A outer s H vs Q E hr h => ?_)
  · obtain ⟨_, _, _, _, _, _, rfl, _⟩ := h
    rfl
  obtain ⟨a, b, n, m, rs, qs, rfl, hL, hM, okL, okM, hnm, h⟩ := h
  have g_Lot := LC.g
  obtain ⟨dx, t, d, ts, e1, e2, e3, e4⟩ := id hL
  obtain ⟨dx', t', d', ts', e1', e2', e3', e4'⟩ := id hM
  refine ⟨_, (pss_cons (ps_expr (pe_fn Gneed_two Mneed_two (hr.mono (by omega)) (pa_cons (pv 0) (pa_cons (pv 1) pa_nil))))
    (pss_cons (ps_if (pt_cmpR op_gt (pe_op op_add (pe_prop (pv 0) LC.cls LC.p_places GLot_places (hr.mono (by omega)) BLot_places .nil passL (by rfl)) (pe_prop (pv 1) LC.cls LC.p_places GLot_places (hr.mono (by omega)) BLot_places .nil passL (by rfl))) (pe_globI g_MOST_PLACES) (nomark _)) (pss_one (ps_raise rfl (takes_of rfl rfl rfl rfl) (pmk_x XNoRoom))) pss_nil)
    (pss_one (ps_ret (pe_make LC.mkk GLot___init__ (hr.mono (by omega)) (by rfl) g_Lot BLot___init__ .nil passL (pa_cons (pe_op op_add (pe_prop (pv 0) LC.cls LC.p_places GLot_places (hr.mono (by omega)) BLot_places .nil passL (by rfl)) (pe_prop (pv 1) LC.cls LC.p_places GLot_places (hr.mono (by omega)) BLot_places .nil passL (by rfl))) (pa_cons (pe_lc2 (wi1 := iTup K (tProp C (spRo C) [] E0 (tVar 1))) (own := [("first", 2), ("second", 3)]) (vs1 := [3]) (g := gName 2) (tt := tYes) (g1 := gName 3) (tt1 := tYes) rfl scbeside.nd (pi_tup (pe_prop (pv 0) LC.cls LC.p_rows GLot_rows (hr.mono (by omega)) BLot_rows .nil passL (by rfl))) (blkOk_by (own := [("first", 2), ("second", 3)]) (N := ["one", "other", "first", "second"]) (sc := defScope sbeside) (by decide +kernel)) (by decide) (fun _ _ _ _ _ => (pg_name (i := 2) scbeside.nd rfl (Or.inl rfl))) (fun _ _ _ _ _ => pts_nil) (fun _ _ _ _ _ => (pi_tupK K rfl (pe_prop (pv 1) LC.cls LC.p_rows GLot_rows (hr.mono (by omega)) BLot_rows .nil passL (by rfl)))) (fun _ _ _ _ _ => (pg_name (i := 3) scbeside.nd rfl (Or.inl rfl))) (fun _ _ _ _ _ => pts_nil) (fun _ _ _ _ _ => (pe_op (op_catAK K rfl) (pv 2) (pv 3)))) pa_nil))))))), ?_⟩
  walk_at "ss"
  refine ⟨a, b, n, m, rs, qs, rfl, hL, hM, ?_⟩
  walk_at "ss"
  refine ⟨a, dx, _, rfl, e1, a, n, rs, rfl, hL, ?_⟩
  walk_at "ss"
  refine ⟨b, dx', _, rfl, e1', b, m, qs, rfl, hM, ?_⟩
  walk_at "ss"
  refine ite2 (fun c => absurd (of_decide_eq_true c) (by omega)) (fun _ => ?_)
  walk_at "ss"
  refine ⟨a, dx, _, rfl, e1, a, n, rs, rfl, hL, ?_⟩
  walk_at "ss"
  refine ⟨b, dx', _, rfl, e1', b, m, qs, rfl, hM, ?_⟩
  walk_at "ss"
  refine ⟨a, dx, _, rfl, e1, a, n, rs, rfl, hL, fun tr xr etr rvr => ?_⟩
  walk_at "ss"
  refine ⟨⟨_, SqT.of etr⟩, fun D hD => ?_⟩
  refine lc2_out walk_tup (fun i H' => Same H H' ∧ ∃ zs, H' D = some (.lst zs) ∧ RowsV H' zs (besR (rs.take i) qs)) ⟨same_new hD _, [], upd_same, .nil⟩ (fun i H' _ hv => SqT.of (hv.1 _ _ etr)) (fun i x H' H'' hi hv hy => ?_) (fun H' hv => ?_)
  · obtain ⟨rfl, ex⟩ := hy
    obtain ⟨s3, zs, eD, rz⟩ := hv
    obtain ⟨r, hr2, u, rfl, eu⟩ := L2.paired_get (rvr.same s3) ex
    have hrm := List.mem_of_getElem? hr2
    have htk : besR (rs.take (i + 1)) qs = besR (rs.take i) qs ++ qs.map (r ++ ·) := by
      rw [List.take_add_one, hr2]
      show (rs.take i ++ [r]).flatMap _ = _
      rw [List.flatMap_append]
      simp [besR]
    walk_at "ss"
    refine ⟨b, dx', _, rfl, s3 _ _ e1', b, m, qs, rfl, hM.same s3, fun tq xq etq rvq => ?_⟩
    walk_at "ss"
    refine ⟨⟨_, SqT.of etq⟩, ?_⟩
    refine lc2_in (walk_tup (xs := xq)) (fun j H5 => Same H H5 ∧ (∀ b' ws, H'' b' = some (.tup ws) → H5 b' = some (.tup ws)) ∧ ∃ ys, H5 D = some (.lst ys) ∧ RowsV H5 ys (besR (rs.take i) qs ++ (qs.take j).map (r ++ ·))) ⟨s3, fun _ _ e => e, zs, eD, by rw [List.take_zero, List.map_nil, List.append_nil]; exact rz⟩ (fun j H5 _ hv => SqT.of (hv.2.1 _ _ etq)) (fun j x H5 H6 hj hv hy => ?_) (fun H5 hv => ?_)
    · obtain ⟨rfl, ex2⟩ := hy
      obtain ⟨s5, k5, ys, eD5, ry⟩ := hv
      obtain ⟨q, hq2, v, rfl, ev⟩ := L2.paired_get (rvq.tups k5) ex2
      have hqm := List.mem_of_getElem? hq2
      have hjk : (qs.take (j + 1)).map (r ++ ·) = (qs.take j).map (r ++ ·) ++ [r ++ q] := by
        rw [List.take_add_one, hq2, List.map_append]
        rfl
      have lr := (okL.row r hrm).1
      have lq := (okM.row q hqm).1
      have n1 := okL.n1
      have m1 := okM.n1
      have yl : ys.length ≤ 5000 := by
        rw [ry.len, List.length_append, besR_len, List.length_map, List.length_take, List.length_take]
        have a1 : min i rs.length * qs.length ≤ 64 * 64 := Nat.mul_le_mul (Nat.le_trans (Nat.min_le_right _ _) okL.len) okM.len
        have a2 := okM.len
        omega
      walk_at "ss"
      refine ⟨u, v, _, _, rfl, rfl, SqT.of (k5 _ _ eu), SqT.of ev, small (by rw [List.length_map, List.length_map]; omega), fun z => ?_, fun _ z => ?_, fun _ _ p hp => ?_⟩
      · exfalso
        rw [show r = [] by simpa using z] at lr
        have : 0 = n := lr
        omega
      · exfalso
        rw [show q = [] by simpa using z] at lq
        have : 0 = m := lq
        omega
      · have s6 := same_new hp (.tup (r.map V.int ++ q.map V.int))
        have nu : ∀ b' ws, H6 b' = some (.tup ws) → upd (upd H6 p (.tup (r.map V.int ++ q.map V.int))) D (.lst (ys ++ [.ref p])) b' = some (.tup ws) := fun b' ws e => tup_upd (s6 _ _ eD5) (fun _ z => by cases z) (s6 _ _ e)
        have pD : p ≠ D := fun z => by rw [z, eD5] at hp; cases hp
        refine ⟨ys, s6 _ _ eD5, smallt (by omega), same_over hD (s5.trans s6) _, fun b' ws e => nu _ _ (k5 _ _ e), ys ++ [.ref p], upd_same, ?_⟩
        rw [hjk, ← List.append_assoc]
        refine RowsV.append (ry.tups nu) (.cons ⟨p, rfl, ?_⟩ .nil)
        rw [upd_ne pD, upd_same, List.map_append]
    · obtain ⟨s5, k5, ys, eD5, ry⟩ := hv
      refine ⟨s5, ys, eD5, ?_⟩
      rw [htk]
      rw [rvq.len, List.take_length] at ry
      exact ry
  · obtain ⟨s3, zs, eD, rz⟩ := hv
    rw [rvr.len, List.take_length] at rz
    walk_at "ss"
    intro x dx2 hx hd hne
    refine make_lot hx hd hne eD rz (besR_row okL.row okM.row) (besR_nd okL.row okL.nd okM.nd) (by have := okL.n1; omega) hnm ?_
    exact h.same s3
end
end KK
/-! W1: _law_rows. -/
namespace KK
open PySem PySem.Spec PyProof.Rows L2 LamX Cov
/-- one step of a reading -/
local macro_rules | `(tactic| walk_at "s") => `(tactic| first | refine ⟨_, rfl, ?_⟩ | refine ⟨_, _, rfl, rfl, ?_⟩ | refine ⟨rfl, ?_⟩ | refine ⟨⟨_, rfl⟩, ?_⟩)
local macro_rules | `(tactic| walk_at "ss") => `(tactic| repeat walk_at "s")
section
variable {P : Program} {w : World} {K : PySem.W.Frag} {mg : Str → Option Value} {base : Heap} {T : List (Addr × Str)}
variable {C fI pP gP pR gR fH fM fE : Addr}
theorem cat_row {u v : Addr} {r : List Int} {c : Int} {H : Hp} {Q : VK} (eu : H u = some (.tup (r.map .int))) (ev : H v = some (.tup [.int c])) (hr : r.length ≤ 100) (h : ∀ H' p, Same H H' → H' p = some (.tup ((r ++ [c]).map .int)) → Q (.ref p) H') : rCatA K (.ref u) (.ref v) H Q := by
  refine ⟨u, v, _, _, rfl, rfl, SqT.of eu, SqT.of ev, small (by rw [List.length_map]; simp; omega), fun z => ?_, (fun _ z => by cases z), fun _ _ p hp => ?_⟩
  · have : r = [] := by simpa using z
    subst this
    exact h H v (Same.refl H) ev
  · refine h _ p (same_new hp _) ?_
    rw [upd_same, List.map_append]
    rfl
theorem sc_law_rows : FnScope ["places", "found", "place", "later", "row"] ["places"] (defScope s_law_rows) := ⟨rfl, rfl, rfl, by decide +kernel, rfl, by decide +kernel, by decide +kernel⟩
theorem ok_law_rows {f : Addr} {fd : FuncData} (F : FnP K "_law_rows" s_law_rows f fd) (Z : Zs mg) : FnOk P w K mg base (L2.CX P w) 1 f fd ["places"] spAA := by
  refine F.ok sc_law_rows (fun vs H Q E h => ?_) (fun cdv A outer s H vs Q E hr h => ?_)
  · obtain ⟨_, rfl, _⟩ := h
    rfl
  obtain ⟨n, rfl, hn, h⟩ := h
  refine ⟨_, (pss_cons (ps_set (i := 1) sc_law_rows.nd rfl (Or.inl rfl) (pe_lst (pa_cons (pe_tup pa_nil) pa_nil)))
    (pss_cons (ps_for (passes_of rfl) rfl (pi_range1 (by rfl) Z.range_ (pa_cons (pv 0) pa_nil)) (pg_name (i := 2) sc_law_rows.nd rfl (Or.inl rfl)) (pss_cons (ps_set (i := 3) sc_law_rows.nd rfl (Or.inl rfl) (pe_lst pa_nil))
    (pss_cons (ps_for (passes_of rfl) rfl (pi_list (pv 1)) (pg_name (i := 4) sc_law_rows.nd rfl (Or.inl rfl)) (pss_one (ps_set (i := 3) sc_law_rows.nd rfl (Or.inl rfl) (pe_op op_cat (pv 3) (pe_lst (pa_cons (pe_op op_catA (pv 4) (pe_tup (pa_cons pe_int pa_nil))) (pa_cons (pe_op op_catA (pv 4) (pe_tup (pa_cons pe_int pa_nil))) pa_nil)))))))
    (pss_one (ps_set (i := 1) sc_law_rows.nd rfl (Or.inl rfl) (pv 3))))))
    (pss_one (ps_ret (pv 1))))), ?_⟩
  walk_at "ss"
  refine ⟨small (by simp), fun p0 hp0 => ?_⟩
  refine ⟨small (by simp), fun q0 hq0 => ?_⟩
  refine gn ?_
  have s0 := (same_new hp0 (.tup [])).trans (same_new hq0 (.lst [.ref p0]))
  walk_at "ss"
  refine ⟨by omega, by omega, ?_⟩
  rw [Int.toNat_natCast]
  refine for_it walk_range (fun i σ H' => ∃ (p : Addr) (xs : List V) (y2 y3 y4 : Option V), σ = [some (.int n), some (.ref p), y2, y3, y4] ∧ Same H H' ∧ H p = none ∧ H' p = some (.lst xs) ∧ RowsV H' xs (rowsN i)) ⟨q0, [.ref p0], _, _, _, rfl, s0, none_of (same_new hp0 _) hq0, upd_same, .cons ⟨p0, rfl, nw hq0 upd_same⟩ .nil⟩ (fun i σ H' _ hv => trivial) (fun i x σ H' H'' hi hv hy => ?_) (fun σ H' hv => ?_)
  · obtain ⟨p, xs, y2, y3, y4, rfl, s1, np, ep, rv⟩ := hv
    obtain ⟨rfl, rfl⟩ := hy
    refine gn ?_
    refine ⟨small (by simp), fun l0 hl0 => ?_⟩
    refine gn ?_
    have sl := same_new hl0 (.lst [])
    have hlen : xs.length = 2 ^ i := by rw [rv.len, rowsN_len]
    have hi6 : 2 ^ i ≤ 64 := pow64 (by omega)
    have hrl : ∀ r ∈ rowsN i, r.length ≤ 100 := fun r hr => by rw [(rowsN_row i r hr).1]; omega
    walk_at "ss"
    refine ⟨⟨_, SqL.of (sl _ _ ep)⟩, ?_⟩
    refine for_it walk_list (fun j σ H3 => ∃ (l : Addr) (ys : List V) (z4 : Option V), σ = [some (.int n), some (.ref p), some (.int (0 + (i : Nat))), some (.ref l), z4] ∧ Same H'' H3 ∧ H'' l = none ∧ H3 l = some (.lst ys) ∧ RowsV H3 ys (((rowsN i).take j).flatMap fun r => [r ++ [0], r ++ [1]])) ⟨l0, [], _, rfl, sl, hl0, upd_same, .nil⟩ (fun j σ H3 _ ⟨_, _, _, hv⟩ => SqL.of (hv.2.1 _ _ ep)) (fun j x σ H3 H4 hj hv hy => ?_) (fun σ H3 hv => ?_)
    · obtain ⟨l, ys, z4, rfl, s3, nl, el, ry⟩ := hv
      obtain ⟨rfl, ex⟩ := hy
      obtain ⟨r, hr2, b, rfl, eb⟩ := L2.paired_get (rv.same s3) ex
      have hrm := List.mem_of_getElem? hr2
      have htk : ((rowsN i).take (j + 1)).flatMap (fun r => [r ++ [(0 : Int)], r ++ [1]]) = ((rowsN i).take j).flatMap (fun r => [r ++ [(0 : Int)], r ++ [1]]) ++ [r ++ [0], r ++ [1]] := by
        rw [List.take_add_one, hr2, List.flatMap_append]
        rfl
      have hyl : ys.length ≤ 128 := by
        rw [ry.len, flat_len, List.length_take, rowsN_len]
        omega
      walk_at "ss"
      refine ⟨small (by simp), fun t0 ht0 => ?_⟩
      have t0s := same_new ht0 (.tup [.int 0])
      refine cat_row (t0s _ _ eb) upd_same (hrl r hrm) fun H5 u0 s5 e5 => ?_
      walk_at "ss"
      refine ⟨small (by simp), fun t1 ht1 => ?_⟩
      have t1s := same_new ht1 (.tup [.int 1])
      have s45 := (t0s.trans s5).trans t1s
      refine cat_row (s45 _ _ eb) upd_same (hrl r hrm) fun H6 u1 s6 e6 => ?_
      have s46 := s45.trans s6
      have e56 := (t1s.trans s6) _ _ e5
      walk_at "ss"
      refine ⟨small (by simp), fun t2 ht2 => ?_⟩
      have t2s := same_new ht2 (.lst [.ref u0, .ref u1])
      have s47 := s46.trans t2s
      refine ⟨l, t2, ys, [.ref u0, .ref u1], rfl, rfl, s47 _ _ el, upd_same, small (by simp; omega), fun q hq => ?_⟩
      have s8 := same_new hq (.lst (ys ++ [.ref u0, .ref u1]))
      refine gn ?_
      have nq : H'' q = none := none_of ((s3.trans s47)) hq
      refine ⟨q, _, some (.ref b), rfl, (s3.trans s47).trans s8, nq, upd_same, ?_⟩
      rw [htk]
      refine RowsV.append (ry.same (s47.trans s8)) (.cons ⟨u0, rfl, s8 _ _ (t2s _ _ e56)⟩ (.cons ⟨u1, rfl, s8 _ _ (t2s _ _ e6)⟩ .nil))
    · obtain ⟨l, ys, z4, rfl, s3, nl, el, ry⟩ := hv
      rw [hlen, ← rowsN_len i, List.take_length] at ry
      walk_at "ss"
      refine ⟨l, ys, _, _, _, rfl, s1.trans s3, none_of s1 nl, el, ry⟩
  · obtain ⟨p, xs, y2, y3, y4, rfl, s1, np, ep, rv⟩ := hv
    walk_at "ss"
    exact h H' p xs s1 np ep rv
end
end KK
/-! W2: _law_many, _law_number, _law_at, _law_fits. -/
namespace KK
open PySem PySem.Spec PyProof.Rows L2 LamX Cov
/-- one step of a reading -/
local macro_rules | `(tactic| walk_at "s") => `(tactic| first | refine ⟨_, rfl, ?_⟩ | refine ⟨_, _, rfl, rfl, ?_⟩ | refine ⟨rfl, ?_⟩ | refine ⟨⟨_, rfl⟩, ?_⟩)
local macro_rules | `(tactic| walk_at "ss") => `(tactic| repeat walk_at "s")
section
variable {P : Program} {w : World} {K : PySem.W.Frag} {mg : Str → Option Value} {base : Heap} {T : List (Addr × Str)}
variable {C fI pP gP pR gR fH fM fE : Addr}
variable {f_law_rows : Addr} {fdR : FuncData}
theorem sc_law_many : FnScope ["places", "power", "row"] ["places"] (defScope s_law_many) := ⟨rfl, rfl, rfl, by decide +kernel, rfl, by decide +kernel, by decide +kernel⟩
def spMany : Sp := fun vs H Q _ => ∃ n : Nat, vs = [.int n] ∧ n ≤ 6 ∧ ∀ H', Same H H' → Q (.int ((2 : Int) ^ 2 ^ n)) H'
theorem ok_law_many {f : Addr} {fd : FuncData} (F : FnP K "_law_many" s_law_many f fd) (Z : Zs mg) (G_law_rows : FnOk P w K mg base (L2.CX P w) 1 f_law_rows fdR ["places"] spAA) (M_law_rows : Dat K mg "_law_rows" f_law_rows fdR ["places"]) : FnOk P w K mg base (L2.CX P w) 2 f fd ["places"] spMany := by
  refine F.ok sc_law_many (fun vs H Q E h => ?_) (fun cdv A outer s H vs Q E hr h => ?_)
  · obtain ⟨_, rfl, _⟩ := h
    rfl
  obtain ⟨n, rfl, hn, h⟩ := h
  refine ⟨_, (pss_cons (ps_set (i := 1) sc_law_many.nd rfl (Or.inl rfl) pe_int)
    (pss_cons (ps_for (passes_of rfl) rfl (pi_list (pe_fn G_law_rows M_law_rows (hr.mono (by omega)) (pa_cons (pv 0) pa_nil))) (pg_name (i := 2) sc_law_many.nd rfl (Or.inl rfl)) (pss_one (ps_set (i := 1) sc_law_many.nd rfl (Or.inl rfl) (pe_op op_mul (pv 1) pe_int))))
    (pss_one (ps_ret (pv 1))))), ?_⟩
  walk_at "ss"
  refine ⟨hn, fun H1 p xs s1 np ep rv => ?_⟩
  walk_at "ss"
  refine ⟨⟨_, SqL.of ep⟩, ?_⟩
  refine for_it walk_list (fun i σ H' => (∃ y2, σ = [some (.int n), some (.int ((2 : Int) ^ i)), y2]) ∧ H' = H1) ⟨⟨_, rfl⟩, rfl⟩ (fun i σ H' _ hv => by rw [hv.2]; exact SqL.of ep) (fun i x σ H' H'' hi hv hy => ?_) (fun σ H' hv => ?_)
  · obtain ⟨⟨y2, rfl⟩, rfl⟩ := hv
    obtain ⟨rfl, _⟩ := hy
    walk_at "ss"
    refine ⟨.inr (by omega), ?_⟩
    walk_at "ss"
    rfl
  · obtain ⟨⟨y2, rfl⟩, rfl⟩ := hv
    rw [rv.len, rowsN_len]
    walk_at "ss"
    exact h _ s1
theorem sc_law_number : FnScope ["places", "rows", "total", "power", "row"] ["places", "rows"] (defScope s_law_number) := ⟨rfl, rfl, rfl, by decide +kernel, rfl, by decide +kernel, by decide +kernel⟩
def spNum2 : Sp := fun vs H Q _ => ∃ (n : Nat) (a : Addr) (xs : List V) (rs : List (List Int)), vs = [.int n, .ref a] ∧ n ≤ 6 ∧ H a = some (.lst xs) ∧ RowsV H xs rs ∧ ∀ H', Same H H' → Q (.int (numL n rs)) H'
theorem inD_rows (r : List Int) : ∀ rs : List (List Int), ((dRows rs).any fun z => PyData.eqv z (.tuple (r.map .int))) = decide (r ∈ rs)
  | [] => by simp [dRows]
  | q :: rs => by
    have ih := inD_rows r rs
    unfold dRows at ih ⊢
    rw [List.map_cons, List.any_cons, ih, eqvRow]
    by_cases c : q = r
    · subst c; simp
    · rw [decide_eq_false c, Bool.false_or, decide_eq_decide]
      exact ⟨fun h => List.mem_cons_of_mem _ h, fun h => (List.mem_cons.mp h).resolve_left fun e => c e.symm⟩
theorem ok_law_number {f : Addr} {fd : FuncData} (F : FnP K "_law_number" s_law_number f fd) (Z : Zs mg) (G_law_rows : FnOk P w K mg base (L2.CX P w) 1 f_law_rows fdR ["places"] spAA) (M_law_rows : Dat K mg "_law_rows" f_law_rows fdR ["places"]) : FnOk P w K mg base (L2.CX P w) 2 f fd ["places", "rows"] spNum2 := by
  refine F.ok sc_law_number (fun vs H Q E h => ?_) (fun cdv A outer s H vs Q E hr h => ?_)
  · obtain ⟨_, _, _, _, rfl, _⟩ := h
    rfl
  obtain ⟨n, a, ys, rs, rfl, hn, ea, ry, h⟩ := h
  refine ⟨_, (pss_cons (ps_asg (pe_tup (pa_cons pe_int (pa_cons pe_int pa_nil))) (pg_tup rfl (pgs_cons (pg_name (i := 2) sc_law_number.nd rfl (Or.inl rfl)) (pgs_cons (pg_name (i := 3) sc_law_number.nd rfl (Or.inl rfl)) pgs_nil))))
    (pss_cons (ps_for (passes_of rfl) rfl (pi_list (pe_fn G_law_rows M_law_rows (hr.mono (by omega)) (pa_cons (pv 0) pa_nil))) (pg_name (i := 4) sc_law_number.nd rfl (Or.inl rfl)) (pss_cons (ps_set (i := 2) sc_law_number.nd rfl (Or.inl rfl) (pe_op op_add (pv 2) (pe_ifExp (pt_cmpR (op_inD (units65 hr)) (pv 4) (pv 1) (by rfl)) (pv 3) pe_int)))
    (pss_one (ps_set (i := 3) sc_law_number.nd rfl (Or.inl rfl) (pe_op op_mul (pv 3) pe_int)))))
    (pss_one (ps_ret (pv 2))))), ?_⟩
  walk_at "ss"
  refine ⟨small (by simp), fun t0 ht0 => ⟨_, _, rfl, SqT.of upd_same, rfl, _, _, rfl, _, _, rfl, rfl, ?_⟩⟩
  have st0 := same_new ht0 (.tup [.int 0, .int 1])
  walk_at "ss"
  refine ⟨hn, fun H1 p xs s1' np ep rv => ?_⟩
  have s1 := st0.trans s1'
  walk_at "ss"
  refine ⟨⟨_, SqL.of ep⟩, ?_⟩
  have ea1 := s1 _ _ ea
  have ry1 := ry.same s1
  have h64 := pow64 hn
  have hlen : xs.length = 2 ^ n := by rw [rv.len, rowsN_len]
  refine for_it walk_list (fun i σ H' => (∃ y4, σ = [some (.int n), some (.ref a), some (.int (numP (fun r => decide (r ∈ rs)) ((rowsN n).take i))), some (.int ((2 : Int) ^ i)), y4]) ∧ H' = H1) ⟨⟨_, rfl⟩, rfl⟩ (fun i σ H' _ hv => by rw [hv.2]; exact SqL.of ep) (fun i x σ H' H'' hi hv hy => ?_) (fun σ H' hv => ?_)
  · obtain ⟨⟨y4, rfl⟩, rfl⟩ := hv
    obtain ⟨rfl, ex⟩ := hy
    obtain ⟨r, hr2, b, rfl, eb⟩ := L2.paired_get rv ex
    have hnum : numP (fun r => decide (r ∈ rs)) ((rowsN n).take (i + 1)) = numP (fun r => decide (r ∈ rs)) ((rowsN n).take i) + if decide (r ∈ rs) = true then 2 ^ i else 0 := by
      rw [List.take_add_one, hr2]
      show numP _ ((rowsN n).take i ++ [r]) = _
      rw [numP_snoc, List.length_take, Nat.min_eq_left (by rw [← rv.len]; omega)]
    have fin : ∀ z : Int, z = numP (fun r => decide (r ∈ rs)) ((rowsN n).take (i + 1)) → (∃ y4, ([some (.int n), some (.ref a), some (.int z), some (.int ((2 : Int) ^ i * 2)), some (.ref b)] : L2.St) = [some (.int n), some (.ref a), some (.int (numP (fun r => decide (r ∈ rs)) ((rowsN n).take (i + 1)))), some (.int ((2 : Int) ^ (i + 1))), y4]) ∧ H'' = H'' := fun z ez => ⟨⟨some (.ref b), by rw [ez, Int.pow_succ]⟩, rfl⟩
    walk_at "ss"
    refine ⟨_, _, dp_row eb, .lst (SqL.of ea1) (dpRows ry1), shRow _, shRowsL _, ?_⟩
    rw [inD_rows]
    walk_at "ss"
    refine ite2 (fun c => ?_) (fun c => ?_)
    · rw [if_pos c] at hnum
      walk_at "ss"
      refine ⟨.inr (by omega), ?_⟩
      exact fin _ hnum.symm
    · rw [if_neg c] at hnum
      walk_at "ss"
      refine ⟨.inr (by omega), ?_⟩
      exact fin _ hnum.symm
  · obtain ⟨⟨y4, rfl⟩, rfl⟩ := hv
    walk_at "ss"
    have := h _ s1
    rw [hlen, ← rowsN_len n, List.take_length]
    exact this
theorem sc_law_at : FnScope ["row", "asked", "place"] ["row", "asked"] (defScope s_law_at) := ⟨rfl, rfl, rfl, by decide +kernel, rfl, by decide +kernel, by decide +kernel⟩
def spAt : Sp := fun vs H Q _ => ∃ (b a : Addr) (r ks : List Int), vs = [.ref b, .ref a] ∧ H b = some (.tup (r.map .int)) ∧ H a = some (.tup (ks.map .int)) ∧ (∀ k ∈ ks, 0 ≤ k ∧ k < r.length) ∧ ks.length ≤ 6 ∧ ∀ (H' : Hp) (p : Addr) (qs : List Int), Same H H' → H' p = some (.tup (qs.map .int)) → Q (.ref p) H'
theorem ok_law_at {f : Addr} {fd : FuncData} (F : FnP K "_law_at" s_law_at f fd) (Z : Zs mg) : FnOk P w K mg base (L2.CX P w) 1 f fd ["row", "asked"] spAt := by
  refine F.ok sc_law_at (fun vs H Q E h => ?_) (fun cdv A outer s H vs Q E hr h => ?_)
  · obtain ⟨_, _, _, _, rfl, _⟩ := h
    rfl
  obtain ⟨b, a, r, ks, rfl, eb, ea, hk, hl, h⟩ := h
  refine ⟨_, (pss_one (ps_ret (pe_callTy call_tuple_of (by rfl) Z.tuple_ (by decide +kernel) (pa_cons (pe_lc (own := [("place", 2)]) (g := gName 2) (tt := tYes) rfl sc_law_at.nd (pi_tup (pv 1)) (blkOk_by (own := [("place", 2)]) (N := ["row", "asked", "place"]) (sc := defScope s_law_at) (by decide +kernel)) (fun _ _ _ _ _ => pg_name (i := 2) sc_law_at.nd rfl (Or.inl rfl)) (fun _ _ _ _ _ => pts_nil) (fun _ _ _ _ _ => (pe_ix (ix_tupK K rfl) (pv 0) (pv 2) (fun _ _ => rfl)))) pa_nil)))), ?_⟩
  walk_at "ss"
  refine ⟨⟨_, SqT.of ea⟩, fun D hD => ?_⟩
  refine lc_it walk_tup (fun i H' => Same H H' ∧ ∃ qs : List Int, qs.length = i ∧ H' D = some (.lst (qs.map .int))) ⟨same_new hD _, [], rfl, upd_same⟩ (fun i H' _ hv => SqT.of (hv.1 _ _ ea)) (fun i x H' H'' hi hv hy => ?_) (fun H' hv => ?_)
  · obtain ⟨rfl, ex⟩ := hy
    obtain ⟨s1, qs, ql, eD⟩ := hv
    obtain ⟨k, hkm, rfl⟩ := List.mem_map.mp (List.mem_of_getElem? ex)
    obtain ⟨k0, k1⟩ := hk k hkm
    rw [List.length_map] at hi
    have hx : (r.map V.int)[k.toNat]? = some (.int r[k.toNat]) := by simp [show k.toNat < r.length by omega]
    walk_at "ss"
    refine ⟨_, _, _, _, rfl, rfl, SqT.of (s1 _ _ eb), (by have := atI_nat hx; rw [Int.toNat_of_nonneg k0] at this; exact this), ?_⟩
    refine ⟨_, eD, smallt (by rw [List.length_map]; omega), same_over hD s1 _, qs ++ [r[k.toNat]], by simp [ql], ?_⟩
    rw [upd_same, List.map_append]
    rfl
  · obtain ⟨s1, qs, ql, eD⟩ := hv
    walk_at "ss"
    refine ⟨D, _, rfl, .inl ⟨SqL.of eD, fun t ht => ?_⟩⟩
    walk_at "ss"
    exact h _ t qs (same_over (none_of s1 ht) s1 _) upd_same
theorem sc_law_fits : FnScope ["told", "row", "answer", "had"] ["told", "row"] (defScope s_law_fits) := ⟨rfl, rfl, rfl, by decide +kernel, rfl, by decide +kernel, by decide +kernel⟩
/-- None, or a number -/
def NoI (v : V) : Prop := v = .non ∨ ∃ i, v = .int i
def spFits : Sp := fun vs H Q _ => ∃ (c b : Addr) (ts : List V) (r : List Int), vs = [.ref c, .ref b] ∧ H c = some (.tup ts) ∧ H b = some (.tup (r.map .int)) ∧ (∀ t ∈ ts, NoI t) ∧ r.length ≤ 6 ∧ ∀ H' z, Same H H' → Q (.bl z) H'
theorem ok_law_fits {f : Addr} {fd : FuncData} (F : FnP K "_law_fits" s_law_fits f fd) (Z : Zs mg) : FnOk P w K mg base (L2.CX P w) 1 f fd ["told", "row"] spFits := by
  refine F.ok sc_law_fits (fun vs H Q E h => ?_) (fun cdv A outer s H vs Q E hr h => ?_)
  · obtain ⟨_, _, _, _, rfl, _⟩ := h
    rfl
  obtain ⟨c, b, ts, r, rfl, ec, eb, hts, hl, h⟩ := h
  refine ⟨_, (pss_one (ps_ret (pe_cmpR (op_eqD hr.units) (pe_lc (own := [("answer", 2), ("had", 3)]) (g := gTup K 2 (gCons (gName 2) (gCons (gName 3) gNil))) rfl sc_law_fits.nd (RZ.pi_zipA (by rfl) Z.zip_ (pa_cons (pv 0) (pa_cons (pv 1) pa_nil))) (blkOk_by (own := [("answer", 2), ("had", 3)]) (N := ["told", "row", "answer", "had"]) (sc := defScope s_law_fits) (by decide +kernel)) (fun _ _ _ _ _ => pg_tupK K rfl rfl (pgs_cons (pg_name (i := 2) sc_law_fits.nd rfl (Or.inl rfl)) (pgs_cons (pg_name (i := 3) sc_law_fits.nd rfl (Or.inl rfl)) pgs_nil))) (fun _ _ _ _ _ => (pts_one (PW.pt (pw_and (pt_cmp (pc_notN (pv 2))) (pw_and1 (pt_cmpR op_ne (pv 2) (pv 3) (nomark _))))))) (fun _ _ _ _ _ => pe_int)) (pe_lst pa_nil) (nomark _)))), ?_⟩
  walk_at "ss"
  refine ⟨c, b, _, _, rfl, .inr ⟨SqT.of ec, SqT.of eb, ?_⟩⟩
  intro D hD
  refine lc_it (walk_zipTT rfl) (fun i H' => Same H H' ∧ ∃ qs : List Int, qs.length ≤ i ∧ H' D = some (.lst (qs.map .int))) ⟨same_new hD _, [], Nat.le_refl 0, upd_same⟩ (fun i H' _ hv => ⟨SqT.of (hv.1 _ _ ec), SqT.of (hv.1 _ _ eb)⟩) (fun i x H' H'' hi hv hy => ?_) (fun H' hv => ?_)
  · obtain ⟨s1, qs, ql, eD⟩ := hv
    obtain ⟨q, u1, u2, rfl, hq, rfl, f1, f2⟩ := hy
    have hi2 : i < r.length := by rw [List.length_map] at hi; omega
    have s4 := same_new hq (.tup [u1, u2])
    refine ⟨_, _, rfl, SqT.of upd_same, rfl, _, _, rfl, _, _, rfl, rfl, ?_⟩
    obtain ⟨k, _, rfl⟩ := List.mem_map.mp (List.mem_of_getElem? f2)
    have fin : ∃ acc, (upd H' q (.tup [u1, .int k])) D = some (.lst acc) ∧ acc.length < sizeLine ∧ Same H (upd (upd H' q (.tup [u1, .int k])) D (.lst (acc ++ [.int 1]))) ∧ ∃ qs : List Int, qs.length ≤ i + 1 ∧ upd (upd H' q (.tup [u1, .int k])) D (.lst (acc ++ [.int 1])) D = some (.lst (qs.map .int)) := by
      refine ⟨_, s4 _ _ eD, smallt (by rw [List.length_map]; omega), same_over hD (s1.trans s4) _, qs ++ [1], by simp; omega, ?_⟩
      rw [upd_same, List.map_append]
      rfl
    have sk : Same H (upd H' q (.tup [u1, .int k])) ∧ ∃ qs : List Int, qs.length ≤ i + 1 ∧ upd H' q (.tup [u1, .int k]) D = some (.lst (qs.map .int)) := ⟨s1.trans s4, qs, by omega, s4 _ _ eD⟩
    rcases hts u1 (List.mem_of_getElem? f1) with rfl | ⟨j, rfl⟩
    · walk_at "ss"
      exact sk
    · walk_at "ss"
      refine ite2 (fun c => ?_) (fun c => ?_)
      · exact fin
      · exact sk
  · obtain ⟨s1, qs, ql, eD⟩ := hv
    walk_at "ss"
    refine ⟨small (by simp), fun t ht => ?_⟩
    have s2 := same_new ht (.lst [])
    refine ⟨_, _, .lst (SqL.of (s2 _ _ eD)) (dpInts qs), .lst (SqL.of upd_same) .nil, PySem.W.ke_shaped_ints _, PySem.W.ke_shaped_ints [], ?_⟩
    exact h _ _ (s1.trans s2)
end
end KK
/-! W3: comprehensions that draw; _law_share. -/
namespace KK
open PySem PySem.Spec PyProof.Rows L2 LamX Cov
/-- one step of a reading -/
local macro_rules | `(tactic| walk_at "s") => `(tactic| first | refine ⟨_, rfl, ?_⟩ | refine ⟨_, _, rfl, rfl, ?_⟩ | refine ⟨rfl, ?_⟩ | refine ⟨⟨_, rfl⟩, ?_⟩)
local macro_rules | `(tactic| walk_at "ss") => `(tactic| repeat walk_at "s")
section
variable {P : Program} {w : World} {K : PySem.W.Frag} {mg : Str → Option Value} {base : Heap} {T : List (Addr × Str)}
variable {C fI pP gP pR gR fH fM fE : Addr}
/-- a comprehension that draws: D the new list, H1 the heap ahead of it -/
structure CI (T : List (Addr × Str)) (st g c : Addr) (H1 : Hp) (D : Addr) (B : Nat) (H' : Hp) (acc : List V) : Prop where
  hD : H1 D = none
  n1 : D ≠ st
  n2 : D ≠ g
  n3 : D ≠ c
  e : Ext T (fun b => Fs st g b ∨ b = D) (upd H1 D (.lst [])) H'
  s : Stt st g c B H'
  l : H' D = some (.lst acc)
theorem Stt.here {st g c : Addr} {B : Nat} {H : Hp} (h : Stt st g c B H) : (∃ o, H st = some o) ∧ (∃ o, H g = some o) ∧ ∃ o, H c = some o := by
  obtain ⟨_, ⟨_, _, _, h1⟩, ⟨_, h2⟩, ⟨_, h3⟩⟩ := h
  exact ⟨⟨_, h1⟩, ⟨_, h2⟩, ⟨_, h3⟩⟩
theorem CI.start {st g c D : Addr} {H1 : Hp} {B : Nat} (hD : H1 D = none) (S : Stt st g c B H1) : CI T st g c H1 D B (upd H1 D (.lst [])) [] := by
  obtain ⟨⟨_, h1⟩, ⟨_, h2⟩, ⟨_, h3⟩⟩ := S.here
  exact ⟨hD, (fun z => by rw [z, h1] at hD; cases hD), (fun z => by rw [z, h2] at hD; cases hD), (fun z => by rw [z, h3] at hD; cases hD), Ext.refl, S.same (same_new hD _), upd_same⟩
theorem CI.draw {st g c D : Addr} {H1 H' H2 : Hp} {B B' : Nat} {acc : List V} (h : CI T st g c H1 D B H' acc) (x : Ext T (Fs st g) H' H2) (S : Stt st g c B' H2) : CI T st g c H1 D B' H2 acc :=
  ⟨h.hD, h.n1, h.n2, h.n3, h.e.trans (x.wk fun _ z => .inl z), S, x.keep _ _ h.l (fun z => z.elim h.n1 h.n2) (fun _ z => nomatch z)⟩
theorem CI.same {st g c D : Addr} {H1 H' H2 : Hp} {B : Nat} {acc : List V} (h : CI T st g c H1 D B H' acc) (x : Same H' H2) : CI T st g c H1 D B H2 acc := h.draw (Ext.same x) (h.s.same x)
theorem CI.mono {st g c D : Addr} {H1 H' : Hp} {B B' : Nat} {acc : List V} (h : CI T st g c H1 D B H' acc) (x : B ≤ B') : CI T st g c H1 D B' H' acc := ⟨h.hD, h.n1, h.n2, h.n3, h.e, h.s.mono x, h.l⟩
theorem CI.app {st g c D : Addr} {H1 H' : Hp} {B : Nat} {acc : List V} (h : CI T st g c H1 D B H' acc) (y : V) : CI T st g c H1 D B (upd H' D (.lst (acc ++ [y]))) (acc ++ [y]) := by
  have x : Ext T (fun b => b = D) H' (upd H' D (.lst (acc ++ [y]))) := Ext.upd rfl h.l mut_lst
  exact ⟨h.hD, h.n1, h.n2, h.n3, h.e.trans (x.wk fun _ z => .inr z), h.s.ext x (Ne.symm h.n1) (Ne.symm h.n2) (Ne.symm h.n3), upd_same⟩
theorem CI.out {st g c D : Addr} {H1 H' : Hp} {B : Nat} {acc : List V} (h : CI T st g c H1 D B H' acc) : Ext T (Fs st g) H1 H' := Ext.out (same_new h.hD _) h.hD h.e
theorem CI.lst {st g c D : Addr} {H1 H' : Hp} {B : Nat} {acc : List V} (h : CI T st g c H1 D B H' acc) {a : Addr} {xs : List V} (l : Li (Fs st g) H1 a xs) : Li (Fs st g) H' a xs := l.ext h.out
variable {f_law_draw f_law_pick : Addr} {fdD fdK : FuncData}
theorem sc_law_share : FnScope ["state", "several", "share", "few", "thing"] ["state", "several"] (defScope s_law_share) := ⟨rfl, rfl, rfl, by decide +kernel, rfl, by decide +kernel, by decide +kernel⟩
def spSh (T : List (Addr × Str)) : Sp := fun vs H Q _ => ∃ (st g c sl : Addr) (B : Nat) (xs : List V), vs = [.ref st, .ref sl] ∧ Stt st g c B H ∧ B + 100 ≤ 2 ^ 40 ∧ Li (Fs st g) H sl xs ∧ xs.length ≤ 64 ∧
  ∀ (H' : Hp) (p : Addr) (ys : List V), ys.Sublist xs → Ext T (Fs st g) H H' → Stt st g c (B + 70) H' → Li (Fs st g) H' p ys → Q (.ref p) H'
theorem ok_law_share {f : Addr} {fd : FuncData} (F : FnP K "_law_share" s_law_share f fd) (Z : Zs mg) (G_law_draw : FnOk P w K mg base (L2.CX P w) 2 f_law_draw fdD ["state", "size"] (spDr T)) (M_law_draw : Dat K mg "_law_draw" f_law_draw fdD ["state", "size"]) :
    FnOk P w K mg base (L2.CX P w) 3 f fd ["state", "several"] (spSh T) := by
  refine F.ok sc_law_share (fun vs H Q E h => ?_) (fun cdv A outer s H vs Q E hr h => ?_)
  · obtain ⟨_, _, _, _, _, _, rfl, _⟩ := h
    rfl
  obtain ⟨st, g, c, sl, B, xs, rfl, S0, hB, hl, hn, h⟩ := h
  refine ⟨_, (pss_cons (ps_asg (pe_tup (pa_cons (pe_op op_add pe_int (pe_fn G_law_draw M_law_draw (hr.mono (by omega)) (pa_cons (pv 0) (pa_cons pe_int pa_nil)))) (pa_cons (pe_cmpR op_eq (pe_fn G_law_draw M_law_draw (hr.mono (by omega)) (pa_cons (pv 0) (pa_cons pe_int pa_nil))) pe_int (nomark _)) pa_nil))) (pg_tup rfl (pgs_cons (pg_name (i := 2) sc_law_share.nd rfl (Or.inr rfl)) (pgs_cons (pg_name (i := 3) sc_law_share.nd rfl (Or.inr rfl)) pgs_nil))))
    (pss_one (ps_ret (pe_lc (own := [("thing", 4)]) (g := gName 4) rfl sc_law_share.nd (pi_list (pv 1)) (blkOk_by (own := [("thing", 4)]) (N := ["state", "several", "share", "few", "thing"]) (sc := defScope s_law_share) (by decide +kernel)) (fun _ _ _ _ _ => pg_name (i := 4) sc_law_share.nd rfl (Or.inl rfl)) (fun _ _ _ _ _ => (pts_one (pt_cmpR op_eq (pe_cmpR op_eq (pe_fn G_law_draw M_law_draw (hr.mono (by omega)) (pa_cons (pv 0) (pa_cons (pv 2) pa_nil))) pe_int (nomark _)) (pv 3) (nomark _)))) (fun _ _ _ _ _ => (pv 4)))))), ?_⟩
  walk_at "ss"
  refine ⟨st, g, c, B, 3, rfl, by omega, by omega, S0, by omega, fun H1 k1 hk1 x1 S1 => ?_⟩
  walk_at "ss"
  refine ⟨st, g, c, _, 2, rfl, by omega, by omega, S1, by omega, fun H2 k2 hk2 x2 S2 => ?_⟩
  walk_at "ss"
  refine ⟨small (by simp), fun t0 ht0 => ⟨_, _, rfl, SqT.of upd_same, rfl, _, _, rfl, _, _, rfl, rfl, ?_⟩⟩
  have st0 := same_new ht0 (.tup [.int (2 + (k1 : Nat)), .bl (decide (V.int (k2 : Nat) = V.int 0))])
  have x12 := (x1.trans x2).trans (Ext.same st0)
  have S3 := S2.same st0
  have hl3 := hl.ext x12
  obtain ⟨J, hJ⟩ : ∃ J, J = upd H2 t0 (.tup [.int (2 + (k1 : Nat)), .bl (decide (V.int (k2 : Nat) = V.int 0))]) := ⟨_, rfl⟩
  rw [← hJ] at S3 hl3 x12
  walk_at "ss"
  rw [← hJ]
  refine ⟨⟨_, hl3.sq⟩, fun D hD => ?_⟩
  refine lc_it walk_list (fun i H' => ∃ ys, ys.Sublist (xs.take i) ∧ CI T st g c J D (B + 2 + i) H' ys) ⟨[], .slnil, CI.start hD (S3.mono (by omega))⟩ (fun i H' _ ⟨ys, _, hv⟩ => (hv.lst hl3).sq) (fun i x H' H'' hi hv hy => ?_) (fun H' hv => ?_)
  · obtain ⟨rfl, ex⟩ := hy
    obtain ⟨ys, sub, hv⟩ := hv
    have stk : xs.take (i + 1) = xs.take i ++ [x] := by rw [List.take_add_one, ex]; rfl
    have yl : ys.length ≤ 64 := Nat.le_trans sub.length_le (by rw [List.length_take]; omega)
    walk_at "ss"
    refine ⟨st, g, c, _, 2 + k1, rfl, by omega, by omega, hv.s, by omega, fun H5 k5 hk5 x5 S5 => ?_⟩
    have hv5 := hv.draw x5 S5
    walk_at "ss"
    refine ite2 (fun _ => ?_) (fun _ => ?_)
    · walk_at "ss"
      refine ⟨ys, hv5.l, smallt (by omega), ys ++ [x], ?_, (hv5.app x).mono (by omega)⟩
      rw [stk]
      exact sub.append (List.Sublist.refl _)
    · refine ⟨ys, ?_, hv5.mono (by omega)⟩
      rw [stk]
      exact sub.trans (List.sublist_append_left _ _)
  · obtain ⟨ys, sub, hv⟩ := hv
    rw [List.take_length] at sub
    refine h H' D ys sub (x12.trans hv.out) (hv.s.mono (by omega)) ⟨hv.l, fun z => z.elim hv.n1 hv.n2⟩
end
end KK
/-! G5: sorted of a list of pairs (n, tuple of ints). -/
namespace KK
open PySem PySem.Spec PyProof.Rows
/-- a pair of an int and a tuple of ints: the key is both in a row -/
def PairI (h : Heap) (v : Value) (k : List Int) : Prop := ∃ (a b : Addr) (t : Tok) (n : Int) (ns : List Int), k = n :: ns ∧ v = .ref a ∧ h.IsTuple a #[.int n t, .ref b] ∧ TS.TupInts h (.ref b) ns
theorem PairI.keeps {h h' : Heap} {v : Value} {k : List Int} (p : PairI h v k) (kp : ∀ b o, h.get? b = some o → o.cls = .type "tuple" → h'.get? b = some o) : PairI h' v k := by
  obtain ⟨a, b, t, n, ns, e1, e2, ⟨o, ho, hc, m, hd⟩, q⟩ := p
  exact ⟨a, b, t, n, ns, e1, e2, ⟨o, kp _ _ ho hc, hc, m, hd⟩, q.keeps kp⟩
section
variable {prog : Program} {w : World} {A : Around} {s : Shared}
theorem ints_reads {h : Heap} : ∀ {vs : List Value} {ns : List Int}, IntsAre vs ns → ∃ as, ReadsAll h vs (ns.map PyData.int) as
  | _, _, .nil => ⟨_, .nil⟩
  | _, _, .cons n t r => by
    obtain ⟨as, q⟩ := ints_reads (h := h) r
    exact ⟨_, .cons (Reads.int n t) q⟩
theorem lex_same (a b : List Int) : HT.lexLt a b = lexI a b := by
  induction a generalizing b with
  | nil => cases b <;> rfl
  | cons x a ih =>
    cases b with
    | nil => rfl
    | cons y b =>
      show (if x = y then HT.lexLt a b else decide (x < y)) = (if x = y then lexI a b else decide (x < y))
      rw [ih]
theorem pairs_cmp (hu : A.units + 16 < cLine) {vs : List Value} {k : Value → List Int} (hp : ∀ v ∈ vs, PairI s.heap v (k v)) : SrtO.Cmp prog w A s (tuples' true) (fun p => p.1 ∈ vs) (SrtO.lt2 fun v u => lexI (k v) (k u)) := by
  intro p q mp mq
  show wpAny (model prog w) A (keyLt' (tuples' true) p.1 q.1) (fun r s' => s' = s ∧ r = lexI (k p.1) (k q.1)) (fun _ _ => False) s
  obtain ⟨a, b, t, n, ns, e1, e2, ⟨o, ho, hc, z, hd⟩, q1⟩ := hp _ mp
  obtain ⟨a', b', t', n', ns', e1', e2', ⟨o', ho', hc', z', hd'⟩, q1'⟩ := hp _ mq
  rw [e1, e1', e2, e2']
  refine PySem.W.kat_lt ho hd ho' hd' ?_
  show PySem.W.KatLex prog w A true _ _ [(.int n t, .int n' t'), (.ref b, .ref b')] 0 s
  refine PySem.W.kat_cons (SeqAt.EqAt.int_int n t n' t' prog w _ _ ?_)
  have hlex : lexI (n :: ns) (n' :: ns') = if n = n' then lexI ns ns' else decide (n < n') := rfl
  refine PySem.W.kat_go (fun e => ?_) (fun e => ?_)
  · have ex : n = n' := by simpa using e
    rw [if_pos ex] at hlex
    obtain ⟨c, xs, f1, p1, i1⟩ := id q1
    obtain ⟨c', xs', f1', p1', i1'⟩ := id q1'
    cases f1
    cases f1'
    obtain ⟨as, r1⟩ := ints_reads (h := s.heap) i1
    obtain ⟨as', r1'⟩ := ints_reads (h := s.heap) i1'
    obtain ⟨ob, hob, hcb, zb, hdb⟩ := id p1
    obtain ⟨ob', hob', hcb', zb', hdb'⟩ := id p1'
    have rd := reads_tuple_at (n := zb) hob hcb (by rw [hdb]) r1
    have rd' := reads_tuple_at (n := zb') hob' hcb' (by rw [hdb']) r1'
    refine PySem.W.kat_yes (PySem.W.kat_cons (SeqAt.eqAt_reads _ _ A s _ _ _ _ rd rd' (by simp [PyData.canLay0, PySem.W.ke_canLayAll0]) (by simp [PyData.canLay0, PySem.W.ke_canLayAll0]) (by simp [PyData.depth, PySem.W.ke_depthAll]; omega) prog w _ _ ?_))
    have heq : PyData.eqv (.tuple (ns.map .int)) (.tuple (ns'.map .int)) = decide (ns = ns') := by
      simp only [PyData.eqv]
      exact PySem.W.ked_eqvAll ns ns'
    refine PySem.W.kat_go (fun e3 => ?_) (fun e3 => ?_)
    · rw [heq] at e3
      have e4 : ns = ns' := of_decide_eq_true e3
      refine PySem.W.kat_yes (PySem.W.kat_nil ⟨rfl, ?_⟩)
      rw [hlex, e4, lexI_irr]
      rfl
    · refine PySem.W.kat_no ?_
      show wpAny (model prog w) A (oneLt' false _ _) _ _ s
      have fin : (s = s ∧ HT.lexLt ns ns' = lexI (n :: ns) (n' :: ns')) := ⟨rfl, by rw [hlex, lex_same]⟩
      refine PySem.W.kat_one (E := fun _ _ => False) _ _ (HT.lt_tupInts p1 p1' i1 i1' (by omega) ?_)
      exact fin
  · have ex : ¬ n = n' := by simpa using e
    rw [if_neg ex] at hlex
    refine PySem.W.kat_no (TS.oneLt_ints _ ⟨rfl, ?_⟩)
    rw [hlex]
theorem pairs_firsts {h : Heap} {k : Value → List Int} : ∀ {vs : List Value}, (∀ v ∈ vs, PairI h v (k v)) → ∃ fs : List Value, PySem.W.KatTups h vs fs ∧ fs.length = vs.length ∧ ∀ f ∈ fs, ∃ x t, f = Value.int x t
  | [], _ => ⟨[], PySem.W.KatTups.nil, rfl, fun _ m => nomatch m⟩
  | v :: vs, hp => by
    obtain ⟨fs, g1, g2, g3⟩ := pairs_firsts (vs := vs) fun u m => hp u (List.mem_cons_of_mem _ m)
    obtain ⟨a, b, t, n, ns, e1, e2, ⟨o, ho, hc, z, hd⟩, q1⟩ := hp v List.mem_cons_self
    subst e2
    refine ⟨.int n t :: fs, PySem.W.KatTups.cons ho hc hd rfl g1, by simp [g2], fun f m => ?_⟩
    rcases List.mem_cons.mp m with rfl | m
    · exact ⟨n, t, rfl⟩
    · exact g3 f m
theorem pairs_sortable (hu : A.units + 16 < cLine) {a : Addr} {vs : List Value} {k : Value → List Int} (h0 : 0 < vs.length) (hp : ∀ v ∈ vs, PairI s.heap v (k v)) (ha : ∀ o, s.heap.get? a = some o → o.cls ≠ .type "tuple") : SrtO.SortableO prog w A s a vs fun v u => lexI (k v) (k u) := by
  intro h' keep
  have hp' : ∀ v ∈ vs, PairI h' v (k v) := fun v m => (hp v m).keeps fun b o e c => keep b o (fun z => by subst z; exact ha o e c) e
  obtain ⟨fs, g1, g2, g3⟩ := pairs_firsts hp'
  refine ⟨tuples' true, fun Q E hq => ?_, pairs_cmp (s := { s with heap := h' }) hu hp'⟩
  refine PySem.W.kat_kind (T := .type "int") g1 (by omega) (fun f m => ?_) (by rfl) ?_
  · obtain ⟨x, t, rfl⟩ := g3 f m
    exact PySem.W.Looks.now
  · rw [show (Value.type "int" != Value.type "tuple") = true by first | decide +kernel | rfl]
    exact hq
end
end KK
namespace L2
open PySem PySem.Spec PyProof.Rows
/-- sorted(xs), xs a list of pairs (n, tuple of ints) -/
def rSortPI : List V → Hp → VK → Prop := fun vs H Q => ∃ (a : Addr) (xs : List V), vs = [V.ref a] ∧ H a = some (.lst xs) ∧ (∀ x ∈ xs, ∃ (p b : Addr) (n : Int) (ns : List Int), x = .ref p ∧ H p = some (.tup [.int n, .ref b]) ∧ H b = some (.tup (ns.map .int))) ∧
  ∀ ys p, ys.Perm xs → H p = none → Q (.ref p) (upd H p (.lst ys))
theorem cr_sortedPI {X : Cx} (hu : X.A.units + 64 < cLine) : CallR X (.builtin "sorted") rSortPI := by
  intro pins s σ H vs us Q I r h
  obtain ⟨a, xs, rfl, hs, hx, q⟩ := h
  obtain ⟨its, rv, hl, hz⟩ := I.list (SqL.of hs)
  obtain ⟨u, rfl, ru⟩ := vals1 r
  obtain rfl : u = Value.ref a := ru
  obtain ⟨e1, e2⟩ := refs_back rv fun x m => let ⟨p, _, _, _, e, _⟩ := hx x m; ⟨p, e⟩
  have raw : ∀ v ∈ its, ∃ k, KK.PairI s.heap v k := fun v m => by
    obtain ⟨t, rfl⟩ := e2 v m
    have hm : V.ref t ∈ xs := by
      rw [e1]
      exact List.mem_map.mpr ⟨_, m, rfl⟩
    obtain ⟨p, b, n, ns, e, h1, h2⟩ := hx _ hm
    cases e
    obtain ⟨ws, rw1, tp, _⟩ := I.tuple (SqT.of h1)
    cases rw1 with
    | cons r1 rr =>
      cases rr with
      | cons r2 rr =>
        cases rr
        obtain ⟨tk, rfl⟩ := r1
        cases r2
        exact ⟨n :: ns, t, b, tk, n, ns, rfl, rfl, tp, tupI_raw I (SqT.of h2)⟩
  have ch : ∃ k : Value → List Int, ∀ v ∈ its, KK.PairI s.heap v (k v) := by
    classical
    refine ⟨fun v => if hv : v ∈ its then Classical.choose (raw v hv) else [], fun v m => ?_⟩
    simp only [dif_pos m]
    exact Classical.choose_spec (raw v m)
  obtain ⟨k, hk⟩ := ch
  refine SrtO.sorted_ord (KK.lexI_swo k) hl.isList (by rw [← rv.length]; exact hz) (fun h2 h1 b hb kk => ?_) fun out o1 o2 => ?_
  · refine KK.pairs_sortable (s := { s with heap := h1 }) (show X.A.units + 1 + 1 + 16 < cLine by omega) (by omega) (fun v m => (hk v m).keeps fun c o e _ => (kk c o e).2) fun o e => ?_
    cases Option.some.inj (e.symm.trans hb)
    exact fun c => absurd (Value.type.inj c) (by decide)
  · have refs : ∀ u ∈ out, ∃ a, u = Value.ref a := fun u hu => e2 u (o2.perm.mem_iff.mp hu)
    have pm : (out.map backV).Perm xs := by
      rw [e1]
      exact o2.perm.map _
    obtain ⟨n, hn⟩ := sortedAll_at s.heap its out.toArray
    refine ⟨.ref (s.heap.objs.size + 1), upd H (s.heap.objs.size + 1) (.lst (out.map backV)), I.laid (t' := s.toks) (fun _ _ => sortedAll_old) (Nat.le_succ _) ⟨?_, out, n, vals_back refs, hn⟩, rfl, q _ _ pm (I.hok.fresh (Nat.le_succ _))⟩
    rw [pm.length_eq]
    exact hz
end L2
/-! W4: _law_sets. -/
namespace KK
open PySem PySem.Spec PyProof.Rows L2 LamX Cov
/-- one step of a reading -/
local macro_rules | `(tactic| walk_at "s") => `(tactic| first | refine ⟨_, rfl, ?_⟩ | refine ⟨_, _, rfl, rfl, ?_⟩ | refine ⟨rfl, ?_⟩ | refine ⟨⟨_, rfl⟩, ?_⟩)
local macro_rules | `(tactic| walk_at "ss") => `(tactic| repeat walk_at "s")
section
variable {P : Program} {w : World} {K : PySem.W.Frag} {mg : Str → Option Value} {base : Heap} {T : List (Addr × Str)}
variable {C fI pP gP pR gR fH fM fE : Addr}
/-- ascending numbers below n -/
structure Asc (n : Nat) (s : List Int) : Prop where
  len : s.length ≤ n
  bd : ∀ k ∈ s, 0 ≤ k ∧ k < (n : Int)
  asc : List.Pairwise (· < ·) s
theorem asc_up {n : Nat} {s : List Int} (h : Asc n s) : Asc (n + 1) s := ⟨Nat.le_succ_of_le h.len, fun k hk => by have := h.bd k hk; omega, h.asc⟩
theorem asc_snoc {n : Nat} {s : List Int} (h : Asc n s) : Asc (n + 1) (s ++ [(n : Int)]) :=
  ⟨by rw [List.length_append, List.length_singleton]; exact Nat.succ_le_succ h.len, fun k hk => by
    rcases List.mem_append.mp hk with m | m
    · have := h.bd k m; omega
    · rw [List.mem_singleton.mp m]; omega, List.pairwise_append.mpr ⟨h.asc, List.pairwise_singleton _ _, fun a ha b hb => by
    rw [List.mem_singleton.mp hb]
    exact (h.bd a ha).2⟩⟩
/-- v is a pair of a number and the tuple s -/
def PV (H : Hp) (v : V) (s : List Int) : Prop := ∃ (q b : Addr) (m : Int), v = .ref q ∧ H q = some (.tup [.int m, .ref b]) ∧ H b = some (.tup (s.map .int))
theorem PV.tups {H H' : Hp} (e : ∀ b xs, H b = some (.tup xs) → H' b = some (.tup xs)) {v : V} {s : List Int} (h : PV H v s) : PV H' v s := let ⟨q, b, m, h1, h2, h3⟩ := h; ⟨q, b, m, h1, e _ _ h2, e _ _ h3⟩
theorem sc_law_sets : FnScope ["places", "found", "place", "size", "asked"] ["places"] (defScope s_law_sets) := ⟨rfl, rfl, rfl, by decide +kernel, rfl, by decide +kernel, by decide +kernel⟩
def spSets : Sp := fun vs H Q _ => ∃ n : Nat, vs = [.int n] ∧ n ≤ 6 ∧ ∀ (H' : Hp) (p : Addr) (xs : List V) (ss : List (List Int)), Same H H' → H p = none → H' p = some (.lst xs) → RowsV H' xs ss → (∀ s ∈ ss, Asc n s) → 0 < ss.length → ss.length ≤ 64 → Q (.ref p) H'
theorem ok_law_sets {f : Addr} {fd : FuncData} (F : FnP K "_law_sets" s_law_sets f fd) (Z : Zs mg) : FnOk P w K mg base (L2.CX P w) 1 f fd ["places"] spSets := by
  refine F.ok sc_law_sets (fun vs H Q E h => ?_) (fun cdv A outer s H vs Q E hr h => ?_)
  · obtain ⟨_, rfl, _⟩ := h
    rfl
  obtain ⟨n, rfl, hn, h⟩ := h
  refine ⟨_, (pss_cons (ps_set (i := 1) sc_law_sets.nd rfl (Or.inl rfl) (pe_lst (pa_cons (pe_tup pa_nil) pa_nil)))
    (pss_cons (ps_for (passes_of rfl) rfl (pi_range1 (by rfl) Z.range_ (pa_cons (pv 0) pa_nil)) (pg_name (i := 2) sc_law_sets.nd rfl (Or.inr rfl)) (pss_one (ps_set (i := 1) sc_law_sets.nd rfl (Or.inl rfl) (pe_op op_cat (pv 1) (pe_lc (own := [("asked", 4)]) (g := gName 4) (tt := tYes) rfl sc_law_sets.nd (pi_list (pv 1)) (blkOk_by (own := [("asked", 4)]) (N := ["places", "found", "place", "size", "asked"]) (sc := defScope s_law_sets) (by decide +kernel)) (fun _ _ _ _ _ => pg_name (i := 4) sc_law_sets.nd rfl (by first | exact Or.inl rfl | exact Or.inr rfl)) (fun _ _ _ _ _ => pts_nil) (fun _ _ _ _ _ => (pe_op (op_catAK K rfl) (pv 4) (pe_tup (pa_cons (pv 2) pa_nil)))))))))
    (pss_one (ps_ret (pe_lc (own := [("size", 3), ("asked", 4)]) (g := gTup K 2 (gCons (gName 3) (gCons (gName 4) gNil))) (tt := tYes) rfl sc_law_sets.nd (pi_list (pe_callB (cr_sortedPI hr.units) (by rfl) Z.sorted_ (by decide +kernel) (pa_cons (pe_lc (own := [("asked", 4)]) (g := gName 4) (tt := tYes) rfl sc_law_sets.nd (pi_list (pv 1)) (blkOk_by (own := [("asked", 4)]) (N := ["places", "found", "place", "size", "asked"]) (sc := defScope s_law_sets) (by decide +kernel)) (fun _ _ _ _ _ => pg_name (i := 4) sc_law_sets.nd rfl (by first | exact Or.inl rfl | exact Or.inr rfl)) (fun _ _ _ _ _ => pts_nil) (fun _ _ _ _ _ => (pe_tup (pa_cons (pe_callB (call_len_seqK K rfl) (by rfl) Z.len_ (by decide +kernel) (pa_cons (pv 4) pa_nil)) (pa_cons (pv 4) pa_nil))))) pa_nil))) (blkOk_by (own := [("size", 3), ("asked", 4)]) (N := ["places", "found", "place", "size", "asked"]) (sc := defScope s_law_sets) (by decide +kernel)) (fun _ _ _ _ _ => pg_tupK K rfl rfl (pgs_cons (pg_name (i := 3) sc_law_sets.nd rfl (by first | exact Or.inl rfl | exact Or.inr rfl)) (pgs_cons (pg_name (i := 4) sc_law_sets.nd rfl (by first | exact Or.inl rfl | exact Or.inr rfl)) pgs_nil))) (fun _ _ _ _ _ => pts_nil) (fun _ _ _ _ _ => (pv 4))))))), ?_⟩
  walk_at "ss"
  refine ⟨small (by simp), fun p0 hp0 => ?_⟩
  refine ⟨small (by simp), fun q0 hq0 => ?_⟩
  refine gn ?_
  have s0 := (same_new hp0 (.tup [])).trans (same_new hq0 (.lst [.ref p0]))
  walk_at "ss"
  refine ⟨by omega, by omega, ?_⟩
  rw [Int.toNat_natCast]
  refine for_it walk_range (fun i σ H' => ∃ (p : Addr) (xs : List V) (ss : List (List Int)) (y2 y3 y4 : Option V), σ = [some (.int n), some (.ref p), y2, y3, y4] ∧ Same H H' ∧ H' p = some (.lst xs) ∧ RowsV H' xs ss ∧ (∀ s ∈ ss, Asc i s) ∧ ss.length = 2 ^ i) ⟨q0, [.ref p0], [[]], _, _, _, rfl, s0, upd_same, .cons ⟨p0, rfl, nw hq0 upd_same⟩ .nil, fun s hs => by rw [List.mem_singleton.mp hs]; exact ⟨Nat.le_refl 0, fun k hk => absurd hk (by simp), .nil⟩, rfl⟩ (fun i σ H' _ hv => trivial) (fun i x σ H' H'' hi hv hy => ?_) (fun σ H' hv => ?_)
  · obtain ⟨p, xs, ss, y2, y3, y4, rfl, s1, ep, rv, hA, hL⟩ := hv
    obtain ⟨rfl, rfl⟩ := hy
    have hi6 : 2 ^ i ≤ 64 := pow64 (by omega)
    refine gn ?_
    walk_at "ss"
    refine ⟨⟨_, SqL.of ep⟩, fun D hD => ?_⟩
    refine lc_it walk_list (fun j H3 => Same H'' H3 ∧ ∃ ys, H3 D = some (.lst ys) ∧ RowsV H3 ys ((ss.take j).map fun s => s ++ [(i : Int)])) ⟨same_new hD _, [], upd_same, .nil⟩ (fun j H3 _ hv => SqL.of (hv.1 _ _ ep)) (fun j x H3 H4 hj hv hy => ?_) (fun H3 hv => ?_)
    · obtain ⟨s3, ys, eD, ry⟩ := hv
      obtain ⟨rfl, ex⟩ := hy
      obtain ⟨r, hr2, b, rfl, eb⟩ := L2.paired_get (rv.same s3) ex
      have hrm := List.mem_of_getElem? hr2
      have htk : (ss.take (j + 1)).map (fun s => s ++ [(i : Int)]) = (ss.take j).map (fun s => s ++ [(i : Int)]) ++ [r ++ [(i : Int)]] := by
        rw [List.take_add_one, hr2, List.map_append]
        rfl
      have yl : ys.length ≤ 64 := by
        rw [ry.len, List.length_map, List.length_take]
        omega
      walk_at "ss"
      refine ⟨small (by simp), fun t0 ht0 => ?_⟩
      have t0s := same_new ht0 (.tup [.int (0 + (i : Nat))])
      refine cat_row (c := (i : Int)) (t0s _ _ eb) (by rw [upd_same]; show some (HO.tup [V.int (0 + (i : Nat))]) = _; rw [Int.zero_add]) (by have := (hA r hrm).len; omega) fun H5 u0 s5 e5 => ?_
      have s45 := t0s.trans s5
      have kp : ∀ b' zs, H5 b' = some (.tup zs) → upd H5 D (.lst (ys ++ [.ref u0])) b' = some (.tup zs) := fun b' zs e => tup_upd (s45 _ _ eD) (fun _ z => by cases z) e
      refine ⟨ys, s45 _ _ eD, smallt (by omega), same_over hD (s3.trans s45) _, ys ++ [.ref u0], upd_same, ?_⟩
      rw [htk]
      exact RowsV.append (ry.tups fun b' zs e => kp _ _ (s45 _ _ e)) (.cons ⟨u0, rfl, kp _ _ e5⟩ .nil)
    · obtain ⟨s3, ys, eD, ry⟩ := hv
      rw [rv.len, List.take_length] at ry
      have l1 : xs.length ≤ 64 := by rw [rv.len]; omega
      have l2 : ys.length ≤ 64 := by rw [ry.len, List.length_map]; omega
      refine ⟨p, D, xs, ys, rfl, rfl, s3 _ _ ep, eD, small (by omega), fun q hq => ?_⟩
      have s4 := same_new hq (.lst (xs ++ ys))
      refine gn ?_
      refine tn ?_
      refine ⟨q, xs ++ ys, ss ++ ss.map (fun s => s ++ [(i : Int)]), _, _, _, rfl, (s1.trans s3).trans s4, upd_same, RowsV.append (rv.same (s3.trans s4)) (ry.same s4), fun s hs => ?_, ?_⟩
      · rcases List.mem_append.mp hs with m | m
        · exact asc_up (hA s m)
        · obtain ⟨s', hs', rfl⟩ := List.mem_map.mp m
          exact asc_snoc (hA s' hs')
      · rw [List.length_append, List.length_map, hL, Nat.pow_succ]
        omega
  · obtain ⟨p, xs, ss, y2, y3, y4, rfl, s1, ep, rv, hA, hL⟩ := hv
    have h64 := pow64 hn
    walk_at "ss"
    refine ⟨⟨_, SqL.of ep⟩, fun D hD => ?_⟩
    refine lc_it walk_list (fun j H3 => Same H' H3 ∧ ∃ ys, H3 D = some (.lst ys) ∧ ys.length = j ∧ ∀ y ∈ ys, ∃ s ∈ ss, PV H3 y s) ⟨same_new hD _, [], upd_same, rfl, fun y hy => absurd hy (by simp)⟩ (fun j H3 _ hv => SqL.of (hv.1 _ _ ep)) (fun j x H3 H4 hj hv hy => ?_) (fun H3 hv => ?_)
    · obtain ⟨s3, ys, eD, yl, hys⟩ := hv
      obtain ⟨rfl, ex⟩ := hy
      obtain ⟨r, hr2, b, rfl, eb⟩ := L2.paired_get (rv.same s3) ex
      have hrm := List.mem_of_getElem? hr2
      have jl : j < 64 := by rw [rv.len] at hj; omega
      walk_at "ss"
      refine ⟨b, _, rfl, .inr (SqT.of eb), ?_⟩
      walk_at "ss"
      refine ⟨small (by simp), fun t0 ht0 => ?_⟩
      have t0s := same_new ht0 (.tup [.int ((r.map V.int).length : Nat), .ref b])
      have kp : ∀ b' zs, H4 b' = some (.tup zs) → upd (upd H4 t0 (.tup [.int ((r.map V.int).length : Nat), .ref b])) D (.lst (ys ++ [.ref t0])) b' = some (.tup zs) := fun b' zs e => tup_upd (t0s _ _ eD) (fun _ z => by cases z) (t0s _ _ e)
      have tD : t0 ≠ D := fun z => by rw [z, eD] at ht0; cases ht0
      refine ⟨ys, t0s _ _ eD, smallt (by omega), same_over hD (s3.trans t0s) _, ys ++ [.ref t0], upd_same, by simp [yl], fun y hy => ?_⟩
      rcases List.mem_append.mp hy with m | m
      · obtain ⟨s', hs', q⟩ := hys y m
        exact ⟨s', hs', q.tups kp⟩
      · rw [List.mem_singleton.mp m]
        exact ⟨r, hrm, t0, b, _, rfl, by rw [upd_ne tD, upd_same], kp _ _ eb⟩
    · obtain ⟨s3, ys, eD, yl, hys⟩ := hv
      walk_at "ss"
      refine ⟨D, ys, rfl, eD, fun x hx => ?_, fun zs q perm hq => ?_⟩
      · obtain ⟨s', _, a, b, m, e1, e2, e3⟩ := hys x hx
        exact ⟨a, b, m, s', e1, e2, e3⟩
      have sq := same_new hq (.lst zs)
      have zl : zs.length = xs.length := by rw [perm.length_eq, yl]
      walk_at "ss"
      refine ⟨⟨_, SqL.of upd_same⟩, fun D2 hD2 => ?_⟩
      refine lc_it (walk_list (xs := zs)) (fun j H5 => Same (upd H3 q (.lst zs)) H5 ∧ ∃ ws qs, H5 D2 = some (.lst ws) ∧ RowsV H5 ws qs ∧ qs.length = j ∧ ∀ s ∈ qs, s ∈ ss) ⟨same_new hD2 _, [], [], upd_same, .nil, rfl, fun s hs => absurd hs (by simp)⟩ (fun j H5 _ hv => SqL.of (hv.1 _ _ upd_same)) (fun j x H5 H6 hj hv hy => ?_) (fun H5 hv => ?_)
      · obtain ⟨s5, ws, qs, eD2, rw2, ql, hqs⟩ := hv
        obtain ⟨rfl, ex⟩ := hy
        obtain ⟨s', hs', a, b, m, rfl, e2, e3⟩ := hys x (perm.mem_iff.mp (List.mem_of_getElem? ex))
        have sq5 := sq.trans s5
        refine ⟨_, _, rfl, SqT.of (sq5 _ _ e2), rfl, _, _, rfl, _, _, rfl, rfl, ?_⟩
        walk_at "ss"
        have wl : ws.length ≤ 64 := by rw [rw2.len, ql]; rw [zl, rv.len] at hj; omega
        have kp : ∀ b' zs, H6 b' = some (.tup zs) → upd H6 D2 (.lst (ws ++ [.ref b])) b' = some (.tup zs) := fun b' zs e => tup_upd eD2 (fun _ z => by cases z) e
        refine ⟨ws, eD2, smallt (by omega), same_over hD2 s5 _, ws ++ [.ref b], qs ++ [s'], upd_same, RowsV.append (rw2.tups kp) (.cons ⟨b, rfl, kp _ _ (sq5 _ _ e3)⟩ .nil), by simp [ql], fun s hs => ?_⟩
        rcases List.mem_append.mp hs with k | k
        · exact hqs s k
        · rw [List.mem_singleton.mp k]; exact hs'
      · obtain ⟨s5, ws, qs, eD2, rw2, ql, hqs⟩ := hv
        have ql2 : qs.length = 2 ^ n := by rw [ql, zl, rv.len, hL]
        refine h H5 D2 ws qs (((s1.trans s3).trans sq).trans s5) (none_of ((s1.trans s3).trans sq) hD2) eD2 rw2 (fun s hs => hA s (hqs s hs)) (by rw [ql2]; exact Nat.two_pow_pos n) (by omega)
end
end KK
/-! G6: sum of a tuple of ints. -/
namespace L2
open PySem PySem.Spec PyProof.Rows
section
variable {X : Cx}
def rSumT (K : PySem.W.Frag) : List V → Hp → VK → Prop := fun vs H Q => ∃ (a : Addr) (ns : List Int), vs = [V.ref a] ∧ SqT K H a (ns.map V.int) ∧ Q (.int ns.sum) H
theorem cr_sumT (hc : X.calm = true) : CallR X (.builtin "sum") (rSumT X.K) := by
  intro pins s σ H vs us Q I r h
  obtain ⟨a, ns, rfl, hs, q⟩ := h
  obtain ⟨its, rv, hl, _⟩ := I.tuple hs
  rw [Vals.ref1 r]
  have hi := rv.ints
  obtain ⟨xs, e⟩ := hi.allInts.items
  have hn : numsOf (intItems xs).toList = ns := by
    rw [← e]
    exact hi.numsOf
  rw [nums_intItems] at hn
  rw [e] at hl
  refine PySem.W.ktm_sumG (I.ok.hd hc) hl fun h' tk t' hk => ?_
  rw [preSum_eq, List.take_of_length_le (by simp), hn]
  exact ⟨.int _, H, I.kept hk, ⟨_, rfl⟩, q⟩
theorem cr_sumTK (K : PySem.W.Frag) (h : X.K = K) (hc : X.calm = true) : CallR X (.builtin "sum") (rSumT K) := h ▸ cr_sumT hc
end
end L2
/-! W5: comprehensions over rows, of draws. -/
namespace KK
open PySem PySem.Spec PyProof.Rows L2 LamX Cov
/-- one step of a reading -/
local macro_rules | `(tactic| walk_at "s") => `(tactic| first | refine ⟨_, rfl, ?_⟩ | refine ⟨_, _, rfl, rfl, ?_⟩ | refine ⟨rfl, ?_⟩ | refine ⟨⟨_, rfl⟩, ?_⟩)
local macro_rules | `(tactic| walk_at "ss") => `(tactic| repeat walk_at "s")
section
variable {P : Program} {w : World} {K : PySem.W.Frag} {mg : Str → Option Value} {base : Heap} {T : List (Addr × Str)}
variable {C fI pP gP pR gR fH fM fE : Addr}
/-- a comprehension that lets go of some items; its test makes new objects alone -/
theorem lc_sub {j : Nat} {vs : List Nat} {σ : L2.St} {H1 : Hp} {p D : Addr} {xs : List V} {tt : TT} {Qd : Hp → Prop} (hD : H1 D = none) (ep : H1 p = some (.lst xs)) (hl : xs.length ≤ 1000) (hw : ∀ x, wipe ((wipe σ vs).set j x) vs = wipe σ vs) (hv : ∀ x, ((wipe σ vs).set j (some x))[j]? = some (some x))
    (hs : ∀ x ∈ xs, ∀ H', Same H1 H' → ∀ N : Bool → Hp → Prop, (∀ z H'', Same H' H'' → N z H'') → tt ((wipe σ vs).set j (some x)) H' N)
    (hd : ∀ H' ys, Same H1 H' → H' D = some (.lst ys) → ys.Sublist xs → Qd H') :
    ∃ W : Nat → Nat → Hp → Prop, (∃ m, W 0 m (upd H1 D (.lst []))) ∧ ∀ i m H, W i m H →
      ((Itl K p).stop i H ∧ Qd H) ∨ ((Itl K p).go i H ∧ ∃ Nx : Hp → Prop, (∀ H', Nx H' → ∃ m', m' < m ∧ W (i + 1) m' H') ∧ ∀ x H', (Itl K p).yld i H x H' → gName j x (wipe σ vs) H' fun σ2 H2 => wipe σ2 vs = wipe σ vs ∧ tt σ2 H2 fun b H3 =>
        if b = true then tVar j σ2 H3 fun y H4 => ∃ acc, H4 D = some (.lst acc) ∧ acc.length < sizeLine ∧ Nx (upd H4 D (.lst (acc ++ [y]))) else Nx H3) := by
  refine lc_it (g := gName j) (tt := tt) (te := tVar j) walk_list (fun i H' => Same H1 H' ∧ ∃ ys, H' D = some (.lst ys) ∧ ys.Sublist (xs.take i)) ⟨same_new hD _, [], upd_same, .slnil⟩ (fun i H' _ hv => SqL.of (hv.1 _ _ ep)) (fun i x H' H'' hi hv2 hy => ?_) (fun H' hv2 => ?_)
  · obtain ⟨rfl, ex⟩ := hy
    obtain ⟨s1, ys, eD, sub⟩ := hv2
    have stk : xs.take (i + 1) = xs.take i ++ [x] := by rw [List.take_add_one, ex]; rfl
    have yl : ys.length ≤ 1000 := Nat.le_trans sub.length_le (by rw [List.length_take]; omega)
    refine gn ⟨hw _, hs x (List.mem_of_getElem? ex) _ s1 _ fun z H3 s3 => ?_⟩
    refine ite2 (fun _ => ?_) (fun _ => ?_)
    · refine ⟨x, hv x, ys, s3 _ _ eD, smallt (by omega), same_over hD (s1.trans s3) _, ys ++ [x], upd_same, ?_⟩
      rw [stk]
      exact sub.append (List.Sublist.refl _)
    · refine ⟨s1.trans s3, ys, s3 _ _ eD, ?_⟩
      rw [stk]
      exact sub.trans (List.sublist_append_left _ _)
  · obtain ⟨s1, ys, eD, sub⟩ := hv2
    rw [List.take_length] at sub
    exact hd H' ys s1 eD sub
/-- a comprehension whose items are drawn: at most m draws each -/
theorem lc_ci {Jt : It} {k m B : Nat} {Y : Nat → Hp → V → Hp → Prop} (wk : Walk Jt k (fun _ => True) Y) (hY : ∀ i H x H', Y i H x H' → H' = H) {j : Nat} {vs : List Nat} {σ : L2.St} {st g c D : Addr} {J : Hp} {te : TE} {Qd : Hp → Prop} (hD : J D = none) (S : Stt st g c B J) (hk : k ≤ 1000)
    (hw : ∀ x, wipe ((wipe σ vs).set j x) vs = wipe σ vs) (Pr : Hp → V → Prop) (hP : ∀ H H' y, (∀ b zs, H b = some (.tup zs) → H' b = some (.tup zs)) → Pr H y → Pr H' y)
    (hte : ∀ i x H' acc, i < k → CI T st g c J D (B + i * m) H' acc → ∀ N : V → Hp → Prop, (∀ y H'', CI T st g c J D (B + i * m + m) H'' acc → (∀ b zs, H' b = some (.tup zs) → H'' b = some (.tup zs)) → Pr H'' y → N y H'') → te ((wipe σ vs).set j (some x)) H' N)
    (hd : ∀ H' ys, CI T st g c J D (B + k * m) H' ys → ys.length = k → (∀ y ∈ ys, Pr H' y) → Qd H') :
    ∃ W : Nat → Nat → Hp → Prop, (∃ m, W 0 m (upd J D (.lst []))) ∧ ∀ i m H, W i m H →
      (Jt.stop i H ∧ Qd H) ∨ (Jt.go i H ∧ ∃ Nx : Hp → Prop, (∀ H', Nx H' → ∃ m', m' < m ∧ W (i + 1) m' H') ∧ ∀ x H', Jt.yld i H x H' → gName j x (wipe σ vs) H' fun σ2 H2 => wipe σ2 vs = wipe σ vs ∧ tYes σ2 H2 fun b H3 =>
        if b = true then te σ2 H3 fun y H4 => ∃ acc, H4 D = some (.lst acc) ∧ acc.length < sizeLine ∧ Nx (upd H4 D (.lst (acc ++ [y]))) else Nx H3) := by
  refine lc_it (g := gName j) (tt := tYes) (te := te) wk (fun i H' => ∃ ys, CI T st g c J D (B + i * m) H' ys ∧ ys.length = i ∧ ∀ y ∈ ys, Pr H' y) ⟨[], CI.start hD (S.mono (by omega)), rfl, fun y hy => absurd hy (by simp)⟩ (fun i H' _ _ => trivial) (fun i x H' H'' hi hv2 hy => ?_) (fun H' hv2 => ?_)
  · obtain rfl := hY _ _ _ _ hy
    obtain ⟨ys, hc, yl, hp⟩ := hv2
    refine gn ⟨hw _, yes_if ?_⟩
    refine hte i x _ ys hi hc _ fun y H3 hc3 kt hy3 => ?_
    have kt2 : ∀ b zs, H3 b = some (.tup zs) → upd H3 D (.lst (ys ++ [y])) b = some (.tup zs) := fun b zs e => tup_upd hc3.l (fun _ z => by cases z) e
    refine ⟨ys, hc3.l, smallt (by omega), ys ++ [y], ?_, by simp [yl], fun z hz => ?_⟩
    · have := hc3.app y
      rw [show B + (i + 1) * m = B + i * m + m by rw [Nat.add_mul, Nat.one_mul, Nat.add_assoc]]
      exact this
    · rcases List.mem_append.mp hz with q | q
      · exact hP _ _ _ (fun b zs e => kt2 b zs (kt b zs e)) (hp z q)
      · rw [List.mem_singleton.mp q]
        exact hP _ _ _ kt2 hy3
  · obtain ⟨ys, hc, yl, hp⟩ := hv2
    exact hd H' ys hc yl hp
theorem paired_sub {H : Hp} : ∀ {ys xs : List V} {rs : List (List Int)}, ys.Sublist xs → RowsV H xs rs → ∃ qs, RowsV H ys qs ∧ qs.Sublist rs
  | _, _, _, .slnil, .nil => ⟨[], .nil, .slnil⟩
  | _, _, _, .cons x s, .cons a r => by
    obtain ⟨qs, h1, h2⟩ := paired_sub s r
    exact ⟨qs, h1, h2.cons _⟩
  | _, _, _, .cons₂ x s, .cons a r => by
    obtain ⟨qs, h1, h2⟩ := paired_sub s r
    exact ⟨_ :: qs, .cons a h1, h2.cons₂ _⟩
/-- v is one of the rows rs -/
def InR (rs : List (List Int)) (H : Hp) (v : V) : Prop := ∃ r ∈ rs, RowV H v r
theorem inR_tups {rs : List (List Int)} : ∀ H H' y, (∀ b zs, H b = some (.tup zs) → H' b = some (.tup zs)) → InR rs H y → InR rs H' y := fun _ _ _ e ⟨r, hr, q⟩ => ⟨r, hr, q.tups e⟩
theorem inR_list {rs : List (List Int)} {H : Hp} : ∀ {ys : List V}, (∀ y ∈ ys, InR rs H y) → ∃ qs, RowsV H ys qs ∧ ∀ q ∈ qs, q ∈ rs
  | [], _ => ⟨[], .nil, fun q hq => absurd hq (by simp)⟩
  | y :: ys, h => by
    obtain ⟨r, hr, q⟩ := h y List.mem_cons_self
    obtain ⟨qs, h1, h2⟩ := inR_list (ys := ys) fun z hz => h z (List.mem_cons_of_mem _ hz)
    refine ⟨r :: qs, .cons q h1, fun z hz => ?_⟩
    rcases List.mem_cons.mp hz with rfl | hz
    · exact hr
    · exact h2 z hz
/-- a tuple of None and numbers -/
def NoT (H : Hp) (v : V) : Prop := ∃ b ts, v = .ref b ∧ H b = some (.tup ts) ∧ ∀ t ∈ ts, NoI t
theorem noT_tups : ∀ H H' y, (∀ b zs, H b = some (.tup zs) → H' b = some (.tup zs)) → NoT H y → NoT H' y := fun _ _ _ e ⟨b, ts, h1, h2, h3⟩ => ⟨b, ts, h1, e _ _ h2, h3⟩
theorem dp_noi {H : Hp} : ∀ {ts : List V}, (∀ t ∈ ts, NoI t) → ∃ ds, DpAll K H ts ds ∧ PyData.canLayAll0 ds = true ∧ PyData.depthAll ds = 0
  | [], _ => ⟨[], .nil, rfl, rfl⟩
  | t :: ts, h => by
    obtain ⟨ds, h1, h2, h3⟩ := dp_noi (H := H) (ts := ts) fun x m => h x (List.mem_cons_of_mem _ m)
    rcases h t List.mem_cons_self with rfl | ⟨i, rfl⟩
    · exact ⟨.none :: ds, .cons .non h1, by simp [PyData.canLayAll0, PyData.canLay0, h2], by simp [PyData.depthAll, PyData.depth, h3]⟩
    · exact ⟨.int i :: ds, .cons (.int i) h1, by simp [PyData.canLayAll0, PyData.canLay0, h2], by simp [PyData.depthAll, PyData.depth, h3]⟩
theorem dp_not {H : Hp} : ∀ {ys : List V}, (∀ y ∈ ys, NoT H y) → ∃ ds, DpAll K H ys ds ∧ PyData.canLayAll0 ds = true ∧ PyData.depthAll ds ≤ 1
  | [], _ => ⟨[], .nil, rfl, Nat.zero_le 1⟩
  | y :: ys, h => by
    obtain ⟨ds, h1, h2, h3⟩ := dp_not (H := H) (ys := ys) fun x m => h x (List.mem_cons_of_mem _ m)
    obtain ⟨b, ts, rfl, e, hn⟩ := h y List.mem_cons_self
    obtain ⟨es, g1, g2, g3⟩ := dp_noi (K := K) (H := H) hn
    refine ⟨.tuple es :: ds, .cons (.tup (SqT.of e) g1) h1, by simp [PyData.canLayAll0, PyData.canLay0, h2, g2], ?_⟩
    simp only [PyData.depthAll, PyData.depth, g3]
    exact Nat.max_le.mpr ⟨Nat.le_refl 1, h3⟩
theorem sh_not {ds : List PyData} (h1 : PyData.canLayAll0 ds = true) (h2 : PyData.depthAll ds ≤ 1) : SeqAt.shaped (.list ds) = true := by
  simp only [SeqAt.shaped, PyData.canLay0, PyData.depth, h1, Bool.true_and]
  exact decide_eq_true (Nat.le_trans (Nat.succ_le_succ h2) (show (2 : Nat) ≤ 64 by decide))
theorem cut_ints (r : List Int) (lo hi : Option Int) : ∃ q : List Int, cutV (r.map V.int) lo hi = q.map V.int := ⟨(r.drop (HT.sIx (r.map V.int).length 0 lo)).take (HT.sIx (r.map V.int).length (r.map V.int).length hi - HT.sIx (r.map V.int).length 0 lo), by
  unfold cutV
  rw [List.map_take, List.map_drop]⟩
/-- rows of one length, by their code -/
theorem code_pos : ∀ {r : List Int}, (∀ b ∈ r, 0 ≤ b ∧ b ≤ (1 : Int)) → 0 ≤ TS.code 2 r ∧ TS.code 2 r < 2 ^ r.length
  | [], _ => ⟨Int.le_refl 0, show (0 : Int) < 1 by omega⟩
  | d :: r, h => by
    obtain ⟨a, b⟩ := code_pos (r := r) fun x m => h x (List.mem_cons_of_mem _ m)
    obtain ⟨c, e⟩ := h d List.mem_cons_self
    show 0 ≤ d * 2 ^ r.length + TS.code 2 r ∧ d * 2 ^ r.length + TS.code 2 r < 2 ^ (r.length + 1)
    rw [Int.pow_succ]
    rcases (show d = 0 ∨ d = 1 by omega) with rfl | rfl
    · rw [Int.zero_mul]; omega
    · rw [Int.one_mul]; omega
theorem code_lt : ∀ {r q : List Int}, (∀ b ∈ r, 0 ≤ b ∧ b ≤ (1 : Int)) → (∀ b ∈ q, 0 ≤ b ∧ b ≤ (1 : Int)) → r.length = q.length → lexI r q = true → TS.code 2 r < TS.code 2 q
  | [], [], _, _, _, h => by cases h
  | [], _ :: _, _, _, h, _ => by simp at h
  | _ :: _, [], _, _, h, _ => by simp at h
  | x :: r, y :: q, h1, h2, hl, h => by
    have hl' : r.length = q.length := by simpa using hl
    have h' : (if x = y then lexI r q else decide (x < y)) = true := h
    show x * 2 ^ r.length + TS.code 2 r < y * 2 ^ q.length + TS.code 2 q
    obtain ⟨a, b⟩ := code_pos (r := r) fun z m => h1 z (List.mem_cons_of_mem _ m)
    obtain ⟨c, d⟩ := code_pos (r := q) fun z m => h2 z (List.mem_cons_of_mem _ m)
    rw [← hl'] at d ⊢
    by_cases e : x = y
    · rw [if_pos e] at h'
      have := code_lt (r := r) (q := q) (fun z m => h1 z (List.mem_cons_of_mem _ m)) (fun z m => h2 z (List.mem_cons_of_mem _ m)) hl' h'
      rw [e]
      omega
    · rw [if_neg e] at h'
      have e2 := of_decide_eq_true h'
      obtain ⟨x0, x1⟩ := h1 x List.mem_cons_self
      obtain ⟨y0, y1⟩ := h2 y List.mem_cons_self
      obtain rfl : x = 0 := by omega
      obtain rfl : y = 1 := by omega
      rw [Int.zero_mul, Int.one_mul]
      omega
/-- v is a tuple of ascending numbers below n -/
def InA (n : Nat) (H : Hp) (v : V) : Prop := ∃ s, Asc n s ∧ RowV H v s
theorem inA_tups {n : Nat} : ∀ H H' y, (∀ b zs, H b = some (.tup zs) → H' b = some (.tup zs)) → InA n H y → InA n H' y := fun _ _ _ e ⟨r, hr, q⟩ => ⟨r, hr, q.tups e⟩
theorem inA_list {n : Nat} {H : Hp} : ∀ {ys : List V}, (∀ y ∈ ys, InA n H y) → ∃ qs, RowsV H ys qs
  | [], _ => ⟨[], .nil⟩
  | y :: ys, h => by
    obtain ⟨r, _, q⟩ := h y List.mem_cons_self
    obtain ⟨qs, h1⟩ := inA_list (ys := ys) fun z hz => h z (List.mem_cons_of_mem _ hz)
    exact ⟨r :: qs, .cons q h1⟩
theorem ks_of {rs : List (List Int)} {H : Hp} : ∀ {ys : List V}, (∀ y ∈ ys, InR rs H y) → ∃ ks : List (Addr × List Int), ys = ks.map (fun p => V.ref p.1) ∧ ∀ p ∈ ks, H p.1 = some (.tup (p.2.map .int)) ∧ p.2 ∈ rs
  | [], _ => ⟨[], rfl, fun p hp => absurd hp (by simp)⟩
  | y :: ys, h => by
    obtain ⟨r, hr, b, rfl, e⟩ := h y List.mem_cons_self
    obtain ⟨ks, h1, h2⟩ := ks_of (ys := ys) fun z hz => h z (List.mem_cons_of_mem _ hz)
    refine ⟨(b, r) :: ks, by rw [h1]; rfl, fun p hp => ?_⟩
    rcases List.mem_cons.mp hp with rfl | hp
    · exact ⟨e, hr⟩
    · exact h2 p hp
theorem rows_of_ks {H : Hp} : ∀ {ks : List (Addr × List Int)}, (∀ p ∈ ks, H p.1 = some (.tup (p.2.map .int))) → RowsV H (ks.map fun p => V.ref p.1) (ks.map (·.2))
  | [], _ => .nil
  | p :: ks, h => .cons ⟨p.1, rfl, h p List.mem_cons_self⟩ (rows_of_ks fun q m => h q (List.mem_cons_of_mem _ m))
end
end KK
/-! W6: _law_lot. -/
namespace KK
open PySem PySem.Spec PyProof.Rows L2 LamX Cov
/-- one step of a reading -/
local macro_rules | `(tactic| walk_at "s") => `(tactic| first | refine ⟨_, rfl, ?_⟩ | refine ⟨_, _, rfl, rfl, ?_⟩ | refine ⟨rfl, ?_⟩ | refine ⟨⟨_, rfl⟩, ?_⟩)
local macro_rules | `(tactic| walk_at "ss") => `(tactic| repeat walk_at "s")
section
variable {P : Program} {w : World} {K : PySem.W.Frag} {mg : Str → Option Value} {base : Heap} {T : List (Addr × Str)}
variable {C fI pP gP pR gR fH fM fE : Addr}
variable {f_law_rows f_law_draw f_law_pick f_law_share f_law_sets f_law_at f_law_fits : Addr} {fdR fdD fdK fdS fdT fdA fdF : FuncData}
theorem sc_law_lot : FnScope ["state", "places", "rows", "way", "tops", "one", "ones", "cubes", "gone", "cut", "other", "asked", "odd", "lap", "row", "place", "top", "cube", "some", "most"] ["state", "places"] (defScope s_law_lot) := ⟨rfl, rfl, rfl, by decide +kernel, rfl, by decide +kernel, by decide +kernel⟩
def spLot (T : List (Addr × Str)) : Sp := fun vs H Q _ => ∃ (st g c : Addr) (B n : Nat), vs = [.ref st, .int n] ∧ Stt st g c B H ∧ B + 1000 ≤ 2 ^ 40 ∧ 2 ≤ n ∧ n ≤ 6 ∧
  ∀ (H' : Hp) (p : Addr) (xs : List V) (rs : List (List Int)), LotOk n rs → Ext T (Fs st g) H H' → Stt st g c (B + 500) H' → Li (Fs st g) H' p xs → RowsV H' xs rs → Q (.ref p) H'
theorem ok_law_lot {f : Addr} {fd : FuncData} (F : FnP K "_law_lot" s_law_lot f fd) (Z : Zs mg)
    (G_law_rows : FnOk P w K mg base (L2.CX P w) 1 f_law_rows fdR ["places"] spAA) (M_law_rows : Dat K mg "_law_rows" f_law_rows fdR ["places"])
    (G_law_draw : FnOk P w K mg base (L2.CX P w) 2 f_law_draw fdD ["state", "size"] (spDr T)) (M_law_draw : Dat K mg "_law_draw" f_law_draw fdD ["state", "size"])
    (G_law_pick : FnOk P w K mg base (L2.CX P w) 3 f_law_pick fdK ["state", "several"] (spPi T)) (M_law_pick : Dat K mg "_law_pick" f_law_pick fdK ["state", "several"])
    (G_law_share : FnOk P w K mg base (L2.CX P w) 3 f_law_share fdS ["state", "several"] (spSh T)) (M_law_share : Dat K mg "_law_share" f_law_share fdS ["state", "several"])
    (G_law_sets : FnOk P w K mg base (L2.CX P w) 1 f_law_sets fdT ["places"] spSets) (M_law_sets : Dat K mg "_law_sets" f_law_sets fdT ["places"])
    (G_law_at : FnOk P w K mg base (L2.CX P w) 1 f_law_at fdA ["row", "asked"] spAt) (M_law_at : Dat K mg "_law_at" f_law_at fdA ["row", "asked"])
    (G_law_fits : FnOk P w K mg base (L2.CX P w) 1 f_law_fits fdF ["told", "row"] spFits) (M_law_fits : Dat K mg "_law_fits" f_law_fits fdF ["told", "row"]) :
    FnOk P w K mg base (L2.CX P w) 4 f fd ["state", "places"] (spLot T) := by
  refine F.ok sc_law_lot (fun vs H Q E h => ?_) (fun cdv A outer s H vs Q E hr h => ?_)
  · obtain ⟨_, _, _, _, _, rfl, _⟩ := h
    rfl
  obtain ⟨st, g, c, B, n, rfl, S0, hB, h2, h6, h⟩ := h
  have h1 : 1 ≤ n := by omega
  refine ⟨_, (pss_cons (ps_asg (pe_tup (pa_cons (pe_fn G_law_rows M_law_rows (hr.mono (by omega)) (pa_cons (pv 1) pa_nil)) (pa_cons (pe_fn G_law_draw M_law_draw (hr.mono (by omega)) (pa_cons (pv 0) (pa_cons pe_int pa_nil))) pa_nil))) (pg_tup rfl (pgs_cons (pg_name (i := 2) sc_law_lot.nd rfl (Or.inr rfl)) (pgs_cons (pg_name (i := 3) sc_law_lot.nd rfl (Or.inl rfl)) pgs_nil))))
    (pss_cons (ps_if (pt_cmpR op_eq (pv 3) pe_int (nomark _)) (pss_cons (ps_set (i := 4) sc_law_lot.nd rfl (Or.inr rfl) (pe_lc (own := [("lap", 13)]) (g := gName 13) (tt := tYes) rfl sc_law_lot.nd (pi_range1 (by rfl) Z.range_ (pa_cons (pe_op op_add pe_int (pe_fn G_law_draw M_law_draw (hr.mono (by omega)) (pa_cons (pv 0) (pa_cons pe_int pa_nil)))) pa_nil)) (blkOk_by (own := [("lap", 13)]) (N := ["state", "places", "rows", "way", "tops", "one", "ones", "cubes", "gone", "cut", "other", "asked", "odd", "lap", "row", "place", "top", "cube", "some", "most"]) (sc := defScope s_law_lot) (by decide +kernel)) (fun _ _ _ _ _ => pg_name (i := 13) sc_law_lot.nd rfl (by first | exact Or.inl rfl | exact Or.inr rfl)) (fun _ _ _ _ _ => pts_nil) (fun _ _ _ _ _ => (pe_fn G_law_pick M_law_pick (hr.mono (by omega)) (pa_cons (pv 0) (pa_cons (pv 2) pa_nil))))))
    (pss_one (ps_ret (pe_lc (own := [("row", 14)]) (g := gName 14) rfl sc_law_lot.nd (pi_list (pv 2)) (blkOk_by (own := [("row", 14)]) (N := ["state", "places", "rows", "way", "tops", "one", "ones", "cubes", "gone", "cut", "other", "asked", "odd", "lap", "row", "place", "top", "cube", "some", "most"]) (sc := defScope s_law_lot) (by decide +kernel)) (fun _ _ _ _ _ => pg_name (i := 14) sc_law_lot.nd rfl (by first | exact Or.inl rfl | exact Or.inr rfl)) (fun _ _ _ _ _ => (pts_one (pt_cmpR (op_neDK K rfl hr.units) (pe_lc (own := [("top", 16)]) (g := gName 16) rfl sc_law_lot.nd (pi_listK K rfl (pv 4)) (blkOk_by (own := [("top", 16)]) (N := ["state", "places", "rows", "way", "tops", "one", "ones", "cubes", "gone", "cut", "other", "asked", "odd", "lap", "row", "place", "top", "cube", "some", "most"]) (by first | decide +kernel | kernel_rfl | rfl)) (fun _ _ _ _ _ => pg_name (i := 16) sc_law_lot.nd rfl (by first | exact Or.inl rfl | exact Or.inr rfl)) (fun _ _ _ _ _ => (pts_one (pt_cmpR (op_eqDK K rfl hr.units) (pe_lc (own := [("one", 5), ("most", 19)]) (g := gTup K 2 (gCons (gName 5) (gCons (gName 19) gNil))) rfl sc_law_lot.nd (pi_zipAK K rfl (by rfl) Z.zip_ (pa_cons (pv 14) (pa_cons (pv 16) pa_nil))) (blkOk_by (own := [("one", 5), ("most", 19)]) (N := ["state", "places", "rows", "way", "tops", "one", "ones", "cubes", "gone", "cut", "other", "asked", "odd", "lap", "row", "place", "top", "cube", "some", "most"]) (by first | decide +kernel | kernel_rfl | rfl)) (fun _ _ _ _ _ => pg_tupK K rfl rfl (pgs_cons (pg_name (i := 5) sc_law_lot.nd rfl (by first | exact Or.inl rfl | exact Or.inr rfl)) (pgs_cons (pg_name (i := 19) sc_law_lot.nd rfl (by first | exact Or.inl rfl | exact Or.inr rfl)) pgs_nil))) (fun _ _ _ _ _ => (pts_one (pt_cmpR op_gt (pv 5) (pv 19) (nomark _)))) (fun _ _ _ _ _ => pe_int)) (pe_lst pa_nil) (nomark _)))) (fun _ _ _ _ _ => (pv 16))) (pe_lst pa_nil) (nomark _)))) (fun _ _ _ _ _ => (pv 14)))))) pss_nil)
    (pss_cons (ps_if (pt_cmpR op_eq (pv 3) pe_int (nomark _)) (pss_cons (ps_set (i := 6) sc_law_lot.nd rfl (Or.inr rfl) (pe_fn G_law_share M_law_share (hr.mono (by omega)) (pa_cons (pv 0) (pa_cons (pe_listRg rfl (by rfl) Z.list_ (prg_1 (by rfl) Z.range_ (pe_op op_add (pv 1) pe_int))) pa_nil))))
    (pss_one (ps_ret (pe_lc (own := [("row", 14)]) (g := gName 14) rfl sc_law_lot.nd (pi_list (pv 2)) (blkOk_by (own := [("row", 14)]) (N := ["state", "places", "rows", "way", "tops", "one", "ones", "cubes", "gone", "cut", "other", "asked", "odd", "lap", "row", "place", "top", "cube", "some", "most"]) (sc := defScope s_law_lot) (by decide +kernel)) (fun _ _ _ _ _ => pg_name (i := 14) sc_law_lot.nd rfl (by first | exact Or.inl rfl | exact Or.inr rfl)) (fun _ _ _ _ _ => (pts_one (pt_cmpR (op_in_seqK K rfl) (pe_callB (cr_sumTK K rfl rfl) (by rfl) Z.sum_ (by decide +kernel) (pa_cons (pv 14) pa_nil)) (pv 6) (by rfl)))) (fun _ _ _ _ _ => (pv 14)))))) pss_nil)
    (pss_cons (ps_if (pt_cmpR op_eq (pv 3) pe_int (nomark _)) (pss_cons (ps_set (i := 7) sc_law_lot.nd rfl (Or.inr rfl) (pe_lc (own := [("lap", 13)]) (g := gName 13) (tt := tYes) rfl sc_law_lot.nd (pi_range1 (by rfl) Z.range_ (pa_cons (pe_op op_add pe_int (pe_fn G_law_draw M_law_draw (hr.mono (by omega)) (pa_cons (pv 0) (pa_cons pe_int pa_nil)))) pa_nil)) (blkOk_by (own := [("lap", 13)]) (N := ["state", "places", "rows", "way", "tops", "one", "ones", "cubes", "gone", "cut", "other", "asked", "odd", "lap", "row", "place", "top", "cube", "some", "most"]) (sc := defScope s_law_lot) (by decide +kernel)) (fun _ _ _ _ _ => pg_name (i := 13) sc_law_lot.nd rfl (by first | exact Or.inl rfl | exact Or.inr rfl)) (fun _ _ _ _ _ => pts_nil) (fun _ _ _ _ _ => (pe_callTy (call_tuple_ofK K rfl) (by rfl) Z.tuple_ (by decide +kernel) (pa_cons (pe_lc (own := [("place", 15)]) (g := gName 15) (tt := tYes) rfl sc_law_lot.nd (pi_range1 (by rfl) Z.range_ (pa_cons (pv 1) pa_nil)) (blkOk_by (own := [("place", 15)]) (N := ["state", "places", "rows", "way", "tops", "one", "ones", "cubes", "gone", "cut", "other", "asked", "odd", "lap", "row", "place", "top", "cube", "some", "most"]) (by first | decide +kernel | kernel_rfl | rfl)) (fun _ _ _ _ _ => pg_name (i := 15) sc_law_lot.nd rfl (by first | exact Or.inl rfl | exact Or.inr rfl)) (fun _ _ _ _ _ => pts_nil) (fun _ _ _ _ _ => (pe_fn G_law_pick M_law_pick (hr.mono (by omega)) (pa_cons (pv 0) (pa_cons (pe_lst (pa_cons pe_non (pa_cons pe_int (pa_cons pe_int pa_nil)))) pa_nil))))) pa_nil)))))
    (pss_one (ps_ret (pe_lc (own := [("row", 14)]) (g := gName 14) rfl sc_law_lot.nd (pi_list (pv 2)) (blkOk_by (own := [("row", 14)]) (N := ["state", "places", "rows", "way", "tops", "one", "ones", "cubes", "gone", "cut", "other", "asked", "odd", "lap", "row", "place", "top", "cube", "some", "most"]) (sc := defScope s_law_lot) (by decide +kernel)) (fun _ _ _ _ _ => pg_name (i := 14) sc_law_lot.nd rfl (by first | exact Or.inl rfl | exact Or.inr rfl)) (fun _ _ _ _ _ => (pts_one (pt_cmpR (op_neDK K rfl hr.units) (pe_lc (own := [("cube", 17)]) (g := gName 17) rfl sc_law_lot.nd (pi_listK K rfl (pv 7)) (blkOk_by (own := [("cube", 17)]) (N := ["state", "places", "rows", "way", "tops", "one", "ones", "cubes", "gone", "cut", "other", "asked", "odd", "lap", "row", "place", "top", "cube", "some", "most"]) (by first | decide +kernel | kernel_rfl | rfl)) (fun _ _ _ _ _ => pg_name (i := 17) sc_law_lot.nd rfl (by first | exact Or.inl rfl | exact Or.inr rfl)) (fun _ _ _ _ _ => (pts_one (pt_val (pe_fn G_law_fits M_law_fits (hr.mono (by omega)) (pa_cons (pv 17) (pa_cons (pv 14) pa_nil)))))) (fun _ _ _ _ _ => (pv 17))) (pe_lst pa_nil) (nomark _)))) (fun _ _ _ _ _ => (pv 14)))))) pss_nil)
    (pss_cons (ps_if (pt_cmpR op_eq (pv 3) pe_int (nomark _)) (pss_cons (ps_set (i := 8) sc_law_lot.nd rfl (Or.inr rfl) (pe_lc (own := [("lap", 13)]) (g := gName 13) (tt := tYes) rfl sc_law_lot.nd (pi_range1 (by rfl) Z.range_ (pa_cons (pe_fn G_law_draw M_law_draw (hr.mono (by omega)) (pa_cons (pv 0) (pa_cons pe_int pa_nil))) pa_nil)) (blkOk_by (own := [("lap", 13)]) (N := ["state", "places", "rows", "way", "tops", "one", "ones", "cubes", "gone", "cut", "other", "asked", "odd", "lap", "row", "place", "top", "cube", "some", "most"]) (sc := defScope s_law_lot) (by decide +kernel)) (fun _ _ _ _ _ => pg_name (i := 13) sc_law_lot.nd rfl (by first | exact Or.inl rfl | exact Or.inr rfl)) (fun _ _ _ _ _ => pts_nil) (fun _ _ _ _ _ => (pe_fn G_law_pick M_law_pick (hr.mono (by omega)) (pa_cons (pv 0) (pa_cons (pv 2) pa_nil))))))
    (pss_one (ps_ret (pe_lc (own := [("row", 14)]) (g := gName 14) rfl sc_law_lot.nd (pi_list (pv 2)) (blkOk_by (own := [("row", 14)]) (N := ["state", "places", "rows", "way", "tops", "one", "ones", "cubes", "gone", "cut", "other", "asked", "odd", "lap", "row", "place", "top", "cube", "some", "most"]) (sc := defScope s_law_lot) (by decide +kernel)) (fun _ _ _ _ _ => pg_name (i := 14) sc_law_lot.nd rfl (by first | exact Or.inl rfl | exact Or.inr rfl)) (fun _ _ _ _ _ => (pts_one (pt_cmpR (op_notInDK K rfl (units65 hr)) (pv 14) (pv 8) (by rfl)))) (fun _ _ _ _ _ => (pv 14)))))) pss_nil)
    (pss_cons (ps_if (PW.pt (pw_and (pt_cmpR op_eq (pv 3) pe_int (nomark _)) (pw_and1 (pt_cmpR op_gt (pv 1) pe_int (nomark _))))) (pss_cons (ps_set (i := 9) sc_law_lot.nd rfl (Or.inr rfl) (pe_op op_add pe_int (pe_fn G_law_draw M_law_draw (hr.mono (by omega)) (pa_cons (pv 0) (pa_cons (pe_op op_sub (pv 1) pe_int) pa_nil)))))
    (pss_cons (ps_asg (pe_tup (pa_cons (pe_fn G_law_share M_law_share (hr.mono (by omega)) (pa_cons (pv 0) (pa_cons (pe_fn G_law_rows M_law_rows (hr.mono (by omega)) (pa_cons (pv 9) pa_nil)) pa_nil))) (pa_cons (pe_fn G_law_share M_law_share (hr.mono (by omega)) (pa_cons (pv 0) (pa_cons (pe_fn G_law_rows M_law_rows (hr.mono (by omega)) (pa_cons (pe_op op_sub (pv 1) (pv 9)) pa_nil)) pa_nil))) pa_nil))) (pg_tup rfl (pgs_cons (pg_name (i := 5) sc_law_lot.nd rfl (Or.inr rfl)) (pgs_cons (pg_name (i := 10) sc_law_lot.nd rfl (Or.inr rfl)) pgs_nil))))
    (pss_one (ps_ret (pe_lc (own := [("row", 14)]) (g := gName 14) rfl sc_law_lot.nd (pi_list (pv 2)) (blkOk_by (own := [("row", 14)]) (N := ["state", "places", "rows", "way", "tops", "one", "ones", "cubes", "gone", "cut", "other", "asked", "odd", "lap", "row", "place", "top", "cube", "some", "most"]) (sc := defScope s_law_lot) (by decide +kernel)) (fun _ _ _ _ _ => pg_name (i := 14) sc_law_lot.nd rfl (by first | exact Or.inl rfl | exact Or.inr rfl)) (fun _ _ _ _ _ => (pts_one (PW.pt (pw_and (pt_cmpR (op_inDK K rfl (units65 hr)) (pe_slice (sl_tupK K rfl) (pv 14) po_none (po_some (pv 9))) (pv 5) (by rfl)) (pw_and1 (pt_cmpR (op_inDK K rfl (units65 hr)) (pe_slice (sl_tupK K rfl) (pv 14) (po_some (pv 9)) po_none) (pv 10) (by rfl))))))) (fun _ _ _ _ _ => (pv 14))))))) pss_nil)
    (pss_cons (ps_if (pt_cmpR op_eq (pv 3) pe_int (nomark _)) (pss_one (ps_ret (pe_callB (cr_sortedT rfl) (by rfl) Z.sorted_ (by decide +kernel) (pa_cons (pe_callTy (cr_setOfT rfl hr.units) (by rfl) Z.set_ (by decide +kernel) (pa_cons (pe_lc (own := [("lap", 13)]) (g := gName 13) (tt := tYes) rfl sc_law_lot.nd (pi_range1 (by rfl) Z.range_ (pa_cons (pe_fn G_law_draw M_law_draw (hr.mono (by omega)) (pa_cons (pv 0) (pa_cons pe_int pa_nil))) pa_nil)) (blkOk_by (own := [("lap", 13)]) (N := ["state", "places", "rows", "way", "tops", "one", "ones", "cubes", "gone", "cut", "other", "asked", "odd", "lap", "row", "place", "top", "cube", "some", "most"]) (sc := defScope s_law_lot) (by decide +kernel)) (fun _ _ _ _ _ => pg_name (i := 13) sc_law_lot.nd rfl (by first | exact Or.inl rfl | exact Or.inr rfl)) (fun _ _ _ _ _ => pts_nil) (fun _ _ _ _ _ => (pe_fn G_law_pick M_law_pick (hr.mono (by omega)) (pa_cons (pv 0) (pa_cons (pv 2) pa_nil))))) pa_nil)) pa_nil)))) pss_nil)
    (pss_cons (ps_if (pt_cmpR op_eq (pv 3) pe_int (nomark _)) (pss_cons (ps_asg (pe_tup (pa_cons (pe_lc (own := [("lap", 13)]) (g := gName 13) (tt := tYes) rfl sc_law_lot.nd (pi_range1 (by rfl) Z.range_ (pa_cons (pe_op op_add pe_int (pe_fn G_law_draw M_law_draw (hr.mono (by omega)) (pa_cons (pv 0) (pa_cons pe_int pa_nil)))) pa_nil)) (blkOk_by (own := [("lap", 13)]) (N := ["state", "places", "rows", "way", "tops", "one", "ones", "cubes", "gone", "cut", "other", "asked", "odd", "lap", "row", "place", "top", "cube", "some", "most"]) (sc := defScope s_law_lot) (by decide +kernel)) (fun _ _ _ _ _ => pg_name (i := 13) sc_law_lot.nd rfl (by first | exact Or.inl rfl | exact Or.inr rfl)) (fun _ _ _ _ _ => pts_nil) (fun _ _ _ _ _ => (pe_fn G_law_pick M_law_pick (hr.mono (by omega)) (pa_cons (pv 0) (pa_cons (pe_fn G_law_sets M_law_sets (hr.mono (by omega)) (pa_cons (pv 1) pa_nil)) pa_nil))))) (pa_cons (pe_fn G_law_draw M_law_draw (hr.mono (by omega)) (pa_cons (pv 0) (pa_cons pe_int pa_nil))) pa_nil))) (pg_tup rfl (pgs_cons (pg_name (i := 11) sc_law_lot.nd rfl (Or.inr rfl)) (pgs_cons (pg_name (i := 12) sc_law_lot.nd rfl (Or.inr rfl)) pgs_nil))))
    (pss_one (ps_ret (pe_lc (own := [("row", 14)]) (g := gName 14) rfl sc_law_lot.nd (pi_list (pv 2)) (blkOk_by (own := [("row", 14)]) (N := ["state", "places", "rows", "way", "tops", "one", "ones", "cubes", "gone", "cut", "other", "asked", "odd", "lap", "row", "place", "top", "cube", "some", "most"]) (sc := defScope s_law_lot) (by decide +kernel)) (fun _ _ _ _ _ => pg_name (i := 14) sc_law_lot.nd rfl (by first | exact Or.inl rfl | exact Or.inr rfl)) (fun _ _ _ _ _ => (pts_one (pt_cmpR (op_eqDK K rfl hr.units) (pe_lc (own := [("some", 18)]) (g := gName 18) rfl sc_law_lot.nd (pi_listK K rfl (pv 11)) (blkOk_by (own := [("some", 18)]) (N := ["state", "places", "rows", "way", "tops", "one", "ones", "cubes", "gone", "cut", "other", "asked", "odd", "lap", "row", "place", "top", "cube", "some", "most"]) (by first | decide +kernel | kernel_rfl | rfl)) (fun _ _ _ _ _ => pg_name (i := 18) sc_law_lot.nd rfl (by first | exact Or.inl rfl | exact Or.inr rfl)) (fun _ _ _ _ _ => (pts_one (pt_cmpR op_ne (pe_op op_mod (pe_callTy call_int1 (by rfl) Z.int_ (by decide +kernel) (pa_cons (pe_callB (cr_sumTK K rfl rfl) (by rfl) Z.sum_ (by decide +kernel) (pa_cons (pe_fn G_law_at M_law_at (hr.mono (by omega)) (pa_cons (pv 14) (pa_cons (pv 18) pa_nil))) pa_nil)) pa_nil)) pe_int) (pv 12) (nomark _)))) (fun _ _ _ _ _ => (pv 18))) (pe_lst pa_nil) (nomark _)))) (fun _ _ _ _ _ => (pv 14)))))) pss_nil)
    (pss_one (ps_ret (pe_fn G_law_share M_law_share (hr.mono (by omega)) (pa_cons (pv 0) (pa_cons (pv 2) pa_nil))))))))))))), ?_⟩
  walk_at "ss"
  refine ⟨h6, fun H1 p xs s1 np ep rv => ?_⟩
  walk_at "ss"
  refine ⟨st, g, c, B, 8, rfl, by omega, by omega, S0.same s1, by omega, fun H2 k hk x2 S2 => ?_⟩
  walk_at "ss"
  refine ⟨small (by simp), fun t0 ht0 => ⟨_, _, rfl, SqT.of upd_same, rfl, _, _, rfl, _, _, rfl, rfl, ?_⟩⟩
  have st0 := same_new ht0 (.tup [.ref p, .int (k : Nat)])
  obtain ⟨⟨_, hst⟩, ⟨_, hg⟩, ⟨_, hc⟩⟩ := S0.here
  have lp1 : Li (Fs st g) H1 p xs := ⟨ep, fun z => z.elim (fun z => by rw [z, hst] at np; cases np) (fun z => by rw [z, hg] at np; cases np)⟩
  have x1 : Ext T (Fs st g) H H1 := Ext.same s1
  have xJ0 := (x1.trans x2).trans (Ext.same (T := T) (F := Fs st g) st0)
  have lp0 := (lp1.ext x2).ext (Ext.same (T := T) st0)
  have rv0 : RowsV (upd H2 t0 (.tup [.ref p, .int (k : Nat)])) xs (rowsN n) := (rv.tups x2.tups).same st0
  have S3 := S2.same st0
  obtain ⟨J, hJ⟩ : ∃ J, J = upd H2 t0 (.tup [.ref p, .int (k : Nat)]) := ⟨_, rfl⟩
  rw [← hJ] at xJ0 lp0 rv0 S3 ⊢
  clear hJ st0 lp1 S2 x2 ht0 H2 ep rv np
  have hlen : xs.length = 2 ^ n := by rw [rv0.len, rowsN_len]
  have h64 := pow64 h6
  have hpos : 0 < xs.length := by rw [hlen]; exact Nat.two_pow_pos n
  have fin : ∀ (J' : Hp), Ext T (Fs st g) H J' → Stt st g c (B + 500) J' → ∀ D, J' D = none → ∀ H' ys qs, Same J' H' → H' D = some (.lst ys) → RowsV H' ys qs → qs.Sublist (rowsN n) → Q (.ref D) H' := fun J' x S D hD H' ys qs s eD rq sub => by
    obtain ⟨⟨_, a1⟩, ⟨_, a2⟩, _⟩ := S.here
    exact h H' D ys qs (lotOk_sub h1 h6 sub) (x.trans (Ext.same s)) (S.same s) ⟨eD, fun z => z.elim (fun z => by rw [z, a1] at hD; cases hD) (fun z => by rw [z, a2] at hD; cases hD)⟩ rq
  walk_at "ss"
  refine ite2 (fun c1 => ?_) (fun _ => ?_)
  · -- way 1
    walk_at "ss"
    refine ⟨st, g, c, _, 3, rfl, by omega, by omega, S3, by omega, fun J1 k1 hk1 x1 S1 => ?_⟩
    walk_at "ss"
    refine ⟨by omega, by omega, fun D hD => ?_⟩
    rw [show (1 + (k1 : Int)).toNat = 1 + k1 by omega]
    have xJ1 := xJ0.trans x1
    have lp1 := lp0.ext x1
    have rv1 := rv0.tups x1.tups
    refine lc_ci (T := T) (m := 1) walk_range (fun _ _ _ _ hy => hy.1) hD S1 (by omega) (fun _ => rfl) (InR (rowsN n)) inR_tups (fun i x H' acc hi hc N hN => ?_) (fun H' ys hc yl hp => ?_)
    · walk_at "ss"
      refine ⟨st, g, c, p, _, xs, rfl, hc.s, by omega, hc.lst lp1, hpos, by omega, fun H5 k5 x5 hx5 xx5 S5 => hN _ _ (hc.draw xx5 S5) xx5.tups ?_⟩
      obtain ⟨r, hr, b, rfl, eb⟩ := L2.paired_get ((rv1.tups hc.out.tups).tups xx5.tups) hx5
      exact ⟨r, List.mem_of_getElem? hr, b, rfl, eb⟩
    · refine gn ?_
      have lpH := hc.lst lp1
      have rvH := rv1.tups hc.out.tups
      have xH := xJ1.trans hc.out
      walk_at "ss"
      refine ⟨⟨_, lpH.sq⟩, fun D2 hD2 => ?_⟩
      refine lc_sub hD2 lpH.1 (by omega) (fun _ => rfl) (fun _ => rfl) (fun x hx H5 s5 N hN => ?_) (fun H5 zs s5 eD2 sub => ?_)
      · obtain ⟨r, hr, bx, rfl, ebx⟩ := (rows_mem (rvH.same s5) x hx).2 |> fun _ => (⟨_, (rows_mem (rvH.same s5) x hx).2, (rows_mem (rvH.same s5) x hx).1⟩ : ∃ r, r ∈ rowsN n ∧ RowV H5 x r)
        have lr := (rowsN_row n r hr).1
        walk_at "ss"
        refine ⟨⟨_, SqL.of (s5 _ _ hc.l)⟩, fun D3 hD3 => ?_⟩
        refine lc_sub hD3 (s5 _ _ hc.l) (by omega) (fun _ => rfl) (fun _ => rfl) (fun y hy H6 s6 N2 hN2 => ?_) (fun H6 ws s6 eD3 sub2 => ?_)
        · obtain ⟨q, hq, bq, rfl, ebq⟩ := inR_tups _ _ _ (fun b zs e => s6 _ _ (s5 _ _ e)) (hp y hy)
          have lq := (rowsN_row n q hq).1
          walk_at "ss"
          refine ⟨bx, bq, _, _, rfl, .inr ⟨SqT.of (s6 _ _ ebx), SqT.of ebq, ?_⟩⟩
          intro D4 hD4
          refine lc_it (walk_zipTT rfl) (fun i H7 => Same H6 H7 ∧ ∃ qs : List Int, qs.length ≤ i ∧ H7 D4 = some (.lst (qs.map .int))) ⟨same_new hD4 _, [], Nat.le_refl 0, upd_same⟩ (fun i H7 _ hv => ⟨SqT.of (hv.1 _ _ (s6 _ _ ebx)), SqT.of (hv.1 _ _ ebq)⟩) (fun i x H7 H8 hi hv hy => ?_) (fun H7 hv => ?_)
          · obtain ⟨s7, qs, ql, eD4⟩ := hv
            obtain ⟨t, u1, u2, rfl, ht, rfl, f1, f2⟩ := hy
            have hi2 : i < 100 := by rw [List.length_map, List.length_map] at hi; omega
            have s8 := same_new ht (.tup [u1, u2])
            refine ⟨_, _, rfl, SqT.of upd_same, rfl, _, _, rfl, _, _, rfl, rfl, ?_⟩
            obtain ⟨z1, _, rfl⟩ := List.mem_map.mp (List.mem_of_getElem? f1)
            obtain ⟨z2, _, rfl⟩ := List.mem_map.mp (List.mem_of_getElem? f2)
            walk_at "ss"
            refine ite2 (fun _ => ?_) (fun _ => ?_)
            · refine ⟨_, s8 _ _ eD4, smallt (by rw [List.length_map]; omega), same_over hD4 (s7.trans s8) _, qs ++ [1], by simp; omega, ?_⟩
              rw [upd_same, List.map_append]
              rfl
            · exact ⟨s7.trans s8, qs, by omega, s8 _ _ eD4⟩
          · obtain ⟨s7, qs, ql, eD4⟩ := hv
            walk_at "ss"
            refine ⟨small (by simp), fun t ht => ?_⟩
            have s8 := same_new ht (.lst [])
            refine ⟨_, _, .lst (SqL.of (s8 _ _ eD4)) (dpInts qs), .lst (SqL.of upd_same) .nil, PySem.W.ke_shaped_ints _, PySem.W.ke_shaped_ints [], ?_⟩
            exact ⟨_, rfl, hN2 _ _ (s7.trans s8)⟩
        · obtain ⟨qs, rq, _⟩ := inR_list (ys := ws) fun y hy => inR_tups (rs := rowsN n) _ _ _ (fun b zs e => s6 _ _ (s5 _ _ e)) (hp y (sub2.subset hy))
          walk_at "ss"
          refine ⟨small (by simp), fun t ht => ?_⟩
          have s8 := same_new ht (.lst [])
          refine ⟨_, _, .lst (SqL.of (s8 _ _ eD3)) (dpRows (rq.same s8)), .lst (SqL.of upd_same) .nil, shRowsL _, shRowsL [], ?_⟩
          exact ⟨_, rfl, hN _ _ (s6.trans s8)⟩
      · obtain ⟨qs, rq, sq⟩ := paired_sub sub (rvH.same s5)
        exact fin H' xH (hc.s.mono (by omega)) D2 hD2 H5 zs qs s5 eD2 rq sq
  walk_at "ss"
  refine ite2 (fun c1 => ?_) (fun _ => ?_)
  · -- way 2
    walk_at "ss"
    refine ⟨RgOk.of_le (by omega) (by omega) (by omega) (by omega), fun q hq => ?_⟩
    have sq := same_new hq (.lst (rgV 0 ((n : Int) + 1)))
    obtain ⟨⟨_, a1⟩, ⟨_, a2⟩, _⟩ := S3.here
    have lq : Li (Fs st g) (upd J q (.lst (rgV 0 ((n : Int) + 1)))) q (rgV 0 ((n : Int) + 1)) := ⟨upd_same, fun z => z.elim (fun z => by rw [z, a1] at hq; cases hq) (fun z => by rw [z, a2] at hq; cases hq)⟩
    walk_at "ss"
    refine ⟨st, g, c, q, _, _, rfl, S3.same sq, by omega, lq, by rw [rgV_length]; omega, fun H5 p5 ys sub x5 S5 l5 => ?_⟩
    refine gn ?_
    have xs5 := (Ext.same (T := T) (F := Fs st g) sq).trans x5
    have lp5 := lp0.ext xs5
    have rv5 := rv0.tups xs5.tups
    walk_at "ss"
    refine ⟨⟨_, lp5.sq⟩, fun D2 hD2 => ?_⟩
    refine lc_sub hD2 lp5.1 (by omega) (fun _ => rfl) (fun _ => rfl) (fun x hx H6 s6 N hN => ?_) (fun H6 zs s6 eD2 sub2 => ?_)
    · obtain ⟨⟨bx, rfl, ebx⟩, hr⟩ := rows_mem (rv5.same s6) x hx
      walk_at "ss"
      refine ⟨bx, _, rfl, SqT.of ebx, ?_⟩
      walk_at "ss"
      refine ⟨p5, ys, rfl, .inl (SqL.of (s6 _ _ l5.1)), rfl, List.all_eq_true.mpr fun y hy => ?_, ?_⟩
      · obtain ⟨i, _, rfl⟩ := List.mem_map.mp (show y ∈ (List.range _).map _ from sub.subset hy)
        rfl
      · exact ⟨_, rfl, hN _ _ (Same.refl H6)⟩
    · obtain ⟨qs, rq, sq2⟩ := paired_sub sub2 (rv5.same s6)
      exact fin H5 (xJ0.trans xs5) (S5.mono (by omega)) D2 hD2 H6 zs qs s6 eD2 rq sq2
  walk_at "ss"
  refine ite2 (fun c1 => ?_) (fun _ => ?_)
  · -- way 3
    walk_at "ss"
    refine ⟨st, g, c, _, 3, rfl, by omega, by omega, S3, by omega, fun J1 k1 hk1 x1 S1 => ?_⟩
    walk_at "ss"
    refine ⟨by omega, by omega, fun D hD => ?_⟩
    rw [show (1 + (k1 : Int)).toNat = 1 + k1 by omega]
    have xJ1 := xJ0.trans x1
    have lp1 := lp0.ext x1
    have rv1 := rv0.tups x1.tups
    have bk : (1 + k1) * n ≤ 18 := Nat.le_trans (Nat.mul_le_mul (show 1 + k1 ≤ 3 by omega) h6) (Nat.le_refl 18)
    refine lc_ci (T := T) (m := n) walk_range (fun _ _ _ _ hy => hy.1) hD S1 (by omega) (fun _ => rfl) NoT noT_tups (fun i x H' acc hi hc N hN => ?_) (fun H' ys hc yl hp => ?_)
    · have bi : i * n ≤ 18 := Nat.le_trans (Nat.mul_le_mul (show i ≤ 3 by omega) h6) (Nat.le_refl 18)
      walk_at "ss"
      refine ⟨by omega, by omega, fun D3 hD3 => ?_⟩
      rw [Int.toNat_natCast]
      refine lc_ci (T := T) (m := 1) walk_range (fun _ _ _ _ hy => hy.1) hD3 hc.s (by omega) (fun _ => rfl) (fun _ v => NoI v) (fun _ _ _ _ h => h) (fun i2 x2 H2 acc2 hi2 hc2 N2 hN2 => ?_) (fun H2 zs hc2 zl hz => ?_)
      · walk_at "ss"
        refine ⟨small (by simp), fun l hl => ?_⟩
        have sl := same_new hl (.lst [.non, .int 0, .int 1])
        obtain ⟨⟨_, a1⟩, ⟨_, a2⟩, _⟩ := hc2.s.here
        walk_at "ss"
        refine ⟨st, g, c, l, _, _, rfl, hc2.s.same sl, by omega, ⟨upd_same, fun z => z.elim (fun z => by rw [z, a1] at hl; cases hl) (fun z => by rw [z, a2] at hl; cases hl)⟩, (show 0 < 3 by omega), (show 3 ≤ 1000000 by omega), fun H5 k5 x5 hx5 xx5 S5 => hN2 _ _ ((hc2.same sl).draw xx5 S5) (fun b ws e => xx5.tups _ _ (sl _ _ e)) ?_⟩
        match k5, hx5 with
        | 0, e => exact .inl (Option.some.inj e).symm
        | 1, e => exact .inr ⟨0, (Option.some.inj e).symm⟩
        | 2, e => exact .inr ⟨1, (Option.some.inj e).symm⟩
      · walk_at "ss"
        refine ⟨D3, zs, rfl, .inl ⟨SqL.of hc2.l, fun t ht => ?_⟩⟩
        have st' := same_new ht (.tup zs)
        rw [Nat.mul_one] at hc2
        exact hN _ _ ((hc.draw hc2.out hc2.s).same st') (fun b ws e => st' _ _ (hc2.out.tups _ _ e)) ⟨t, zs, rfl, upd_same, hz⟩
    · refine gn ?_
      have lpH := hc.lst lp1
      have rvH := rv1.tups hc.out.tups
      have xH := xJ1.trans hc.out
      walk_at "ss"
      refine ⟨⟨_, lpH.sq⟩, fun D2 hD2 => ?_⟩
      refine lc_sub hD2 lpH.1 (by omega) (fun _ => rfl) (fun _ => rfl) (fun x hx H5 s5 N hN => ?_) (fun H5 zs s5 eD2 sub => ?_)
      · obtain ⟨⟨bx, rfl, ebx⟩, hr⟩ := rows_mem (rvH.same s5) x hx
        have lr := (rowsN_row n _ hr).1
        walk_at "ss"
        refine ⟨⟨_, SqL.of (s5 _ _ hc.l)⟩, fun D3 hD3 => ?_⟩
        refine lc_sub hD3 (s5 _ _ hc.l) (by omega) (fun _ => rfl) (fun _ => rfl) (fun y hy H6 s6 N2 hN2 => ?_) (fun H6 ws s6 eD3 sub2 => ?_)
        · obtain ⟨bc, ts, rfl, ec, hts⟩ := noT_tups _ _ _ (fun b zs e => s6 _ _ (s5 _ _ e)) (hp y hy)
          walk_at "ss"
          exact ⟨bc, bx, ts, _, rfl, ec, s6 _ _ ebx, hts, by omega, fun H7 z s7 => ⟨_, rfl, hN2 z H7 s7⟩⟩
        · walk_at "ss"
          refine ⟨small (by simp), fun t ht => ?_⟩
          have s8 := same_new ht (.lst [])
          obtain ⟨ds, g1, g2, g3⟩ := dp_not (K := K) (H := upd H6 t (.lst [])) (ys := ws) fun y hy => noT_tups _ _ _ (fun b zs e => s8 _ _ (s6 _ _ (s5 _ _ e))) (hp y (sub2.subset hy))
          refine ⟨_, _, .lst (SqL.of (s8 _ _ eD3)) g1, .lst (SqL.of upd_same) .nil, sh_not g2 g3, shRowsL [], ?_⟩
          exact ⟨_, rfl, hN _ _ (s6.trans s8)⟩
      · obtain ⟨qs, rq, sq⟩ := paired_sub sub (rvH.same s5)
        exact fin H' xH (hc.s.mono (by omega)) D2 hD2 H5 zs qs s5 eD2 rq sq
  walk_at "ss"
  refine ite2 (fun c1 => ?_) (fun _ => ?_)
  · -- way 4
    walk_at "ss"
    refine ⟨st, g, c, _, 4, rfl, by omega, by omega, S3, by omega, fun J1 k1 hk1 x1 S1 => ?_⟩
    walk_at "ss"
    refine ⟨by omega, by omega, fun D hD => ?_⟩
    rw [show ((k1 : Nat) : Int).toNat = k1 by omega]
    have xJ1 := xJ0.trans x1
    have lp1 := lp0.ext x1
    have rv1 := rv0.tups x1.tups
    refine lc_ci (T := T) (m := 1) walk_range (fun _ _ _ _ hy => hy.1) hD S1 (by omega) (fun _ => rfl) (InR (rowsN n)) inR_tups (fun i x H' acc hi hc N hN => ?_) (fun H' ys hc yl hp => ?_)
    · walk_at "ss"
      refine ⟨st, g, c, p, _, xs, rfl, hc.s, by omega, hc.lst lp1, hpos, by omega, fun H5 k5 x5 hx5 xx5 S5 => hN _ _ (hc.draw xx5 S5) xx5.tups ?_⟩
      obtain ⟨r, hr, b, rfl, eb⟩ := L2.paired_get ((rv1.tups hc.out.tups).tups xx5.tups) hx5
      exact ⟨r, List.mem_of_getElem? hr, b, rfl, eb⟩
    · refine gn ?_
      have lpH := hc.lst lp1
      have rvH := rv1.tups hc.out.tups
      have xH := xJ1.trans hc.out
      walk_at "ss"
      refine ⟨⟨_, lpH.sq⟩, fun D2 hD2 => ?_⟩
      refine lc_sub hD2 lpH.1 (by omega) (fun _ => rfl) (fun _ => rfl) (fun x hx H5 s5 N hN => ?_) (fun H5 zs s5 eD2 sub => ?_)
      · obtain ⟨⟨bx, rfl, ebx⟩, hr⟩ := rows_mem (rvH.same s5) x hx
        obtain ⟨qs, rq, _⟩ := inR_list (ys := ys) fun y hy => inR_tups (rs := rowsN n) _ _ _ (fun b zs e => s5 _ _ e) (hp y hy)
        walk_at "ss"
        refine ⟨_, _, dp_row ebx, .lst (SqL.of (s5 _ _ hc.l)) (dpRows rq), shRow _, shRowsL _, ?_⟩
        exact ⟨_, rfl, hN _ _ (Same.refl H5)⟩
      · obtain ⟨qs, rq, sq⟩ := paired_sub sub (rvH.same s5)
        exact fin H' xH (hc.s.mono (by omega)) D2 hD2 H5 zs qs s5 eD2 rq sq
  walk_at "ss"
  refine ite2 (fun c1 => ?_) (fun _ => ?_)
  · -- way 5
    walk_at "ss"
    refine ite2 (fun _ => ?_) (fun c2 => absurd (decide_eq_true (show (1 : Int) < (n : Int) by omega)) c2)
    walk_at "ss"
    refine ⟨st, g, c, _, n - 1, by rw [show ((n - 1 : Nat) : Int) = (n : Int) - 1 by omega]; rfl, by omega, by omega, S3, by omega, fun J1 k1 hk1 x1 S1 => ?_⟩
    walk_at "ss"
    refine ⟨(show 1 + k1 ≤ 6 by omega), fun H2 p2 xs2 s2 np2 ep2 rv2 => ?_⟩
    have fresh : ∀ {Ja Jb : Hp} {B' : Nat} {q : Addr} {zs : List V}, Stt st g c B' Ja → Ja q = none → Jb q = some (.lst zs) → Li (Fs st g) Jb q zs := fun S hq e => by
      obtain ⟨⟨_, a1⟩, ⟨_, a2⟩, _⟩ := S.here
      exact ⟨e, fun z => z.elim (fun z => by rw [z, a1] at hq; cases hq) (fun z => by rw [z, a2] at hq; cases hq)⟩
    have c6 := pow64 (show 1 + k1 ≤ 6 by omega)
    have d6 := pow64 (show n - (1 + k1) ≤ 6 by omega)
    walk_at "ss"
    refine ⟨st, g, c, p2, _, xs2, rfl, S1.same s2, by omega, fresh S1 np2 ep2, by rw [rv2.len, rowsN_len]; exact c6, fun H3 p3 ys3 sub3 x3 S33 l3 => ?_⟩
    walk_at "ss"
    refine ⟨n - (1 + k1), by rw [show ((n - (1 + k1) : Nat) : Int) = (n : Int) - (1 + (k1 : Int)) by omega]; rfl, by omega, fun H4 p4 xs4 s4 np4 ep4 rv4 => ?_⟩
    walk_at "ss"
    refine ⟨st, g, c, p4, _, xs4, rfl, S33.same s4, by omega, fresh S33 np4 ep4, by rw [rv4.len, rowsN_len]; exact d6, fun H5 p5 ys5 sub5 x5 S55 l5 => ?_⟩
    walk_at "ss"
    refine ⟨small (by simp), fun t ht => ⟨_, _, rfl, SqT.of upd_same, rfl, _, _, rfl, _, _, rfl, rfl, ?_⟩⟩
    have s6 := same_new ht (.tup [.ref p3, .ref p5])
    have xJ3 := ((x1.trans (Ext.same (T := T) s2)).trans x3)
    have xJ5 := ((Ext.same (T := T) (F := Fs st g) s4).trans x5).trans (Ext.same (T := T) s6)
    have xJ := xJ3.trans xJ5
    have lpH := lp0.ext xJ
    have rvH := rv0.tups xJ.tups
    have l3H := l3.ext xJ5
    have l5H := l5.ext (Ext.same (T := T) s6)
    have S6 := S55.same s6
    obtain ⟨qs3, rq3, _⟩ := paired_sub sub3 (rv2.tups x3.tups)
    obtain ⟨qs5, rq5, _⟩ := paired_sub sub5 (rv4.tups x5.tups)
    have rq3H := rq3.tups xJ5.tups
    have rq5H := rq5.tups (Ext.same (T := T) (F := Fs st g) s6).tups
    walk_at "ss"
    refine ⟨⟨_, lpH.sq⟩, fun D2 hD2 => ?_⟩
    refine lc_sub hD2 lpH.1 (by omega) (fun _ => rfl) (fun _ => rfl) (fun x hx H7 s7 N hN => ?_) (fun H7 zs s7 eD2 sub => ?_)
    · obtain ⟨⟨bx, rfl, ebx⟩, hr⟩ := rows_mem (rvH.same s7) x hx
      have lr := (rowsN_row n _ hr).1
      have ck : (1 + (k1 : Int)) = ((1 + k1 : Nat) : Int) := by omega
      walk_at "ss"
      refine ⟨bx, _, rfl, SqT.of ebx, fun z => ?_, fun q hq => ?_⟩
      · have := z.2
        rw [ck, HT.sIx_nat, List.length_map, lr] at this
        omega
      obtain ⟨q1, hq1⟩ := cut_ints (rowOf H7 (.ref bx)) none (some (1 + (k1 : Int)))
      have sq := same_new hq (.tup (cutV ((rowOf H7 (.ref bx)).map V.int) none (some (1 + (k1 : Int)))))
      have s77 := s7.trans sq
      walk_at "ss"
      refine ⟨_, _, dp_row (r := q1) (by rw [upd_same, hq1]), .lst (SqL.of (s77 _ _ l3H.1)) (dpRows (rq3H.same s77)), shRow _, shRowsL _, ?_⟩
      walk_at "ss"
      refine ite2 (fun _ => ?_) (fun _ => ?_)
      · walk_at "ss"
        refine ⟨bx, _, rfl, SqT.of (sq _ _ ebx), fun z => ?_, fun q' hq' => ?_⟩
        · have := z.1
          rw [ck, HT.sIx_nat, List.length_map, lr] at this
          omega
        obtain ⟨q2, hq2⟩ := cut_ints (rowOf H7 (.ref bx)) (some (1 + (k1 : Int))) none
        have sq' := same_new hq' (.tup (cutV ((rowOf H7 (.ref bx)).map V.int) (some (1 + (k1 : Int))) none))
        have s777 := s77.trans sq'
        walk_at "ss"
        refine ⟨_, _, dp_row (r := q2) (by rw [upd_same, hq2]), .lst (SqL.of (s777 _ _ l5H.1)) (dpRows (rq5H.same s777)), shRow _, shRowsL _, ?_⟩
        exact ⟨_, rfl, hN _ _ (sq.trans sq')⟩
      · exact hN _ _ sq
    · obtain ⟨qs, rq, sq⟩ := paired_sub sub (rvH.same s7)
      exact fin _ (xJ0.trans xJ) (S6.mono (by omega)) D2 hD2 H7 zs qs s7 eD2 rq sq
  walk_at "ss"
  refine ite2 (fun c1 => ?_) (fun _ => ?_)
  · -- way 6
    walk_at "ss"
    refine ⟨st, g, c, _, 4, rfl, by omega, by omega, S3, by omega, fun J1 k1 hk1 x1 S1 => ?_⟩
    walk_at "ss"
    refine ⟨by omega, by omega, fun D hD => ?_⟩
    rw [show ((k1 : Nat) : Int).toNat = k1 by omega]
    have xJ1 := xJ0.trans x1
    have lp1 := lp0.ext x1
    have rv1 := rv0.tups x1.tups
    refine lc_ci (T := T) (m := 1) walk_range (fun _ _ _ _ hy => hy.1) hD S1 (by omega) (fun _ => rfl) (InR (rowsN n)) inR_tups (fun i x H' acc hi hc N hN => ?_) (fun H' ys hc yl hp => ?_)
    · walk_at "ss"
      refine ⟨st, g, c, p, _, xs, rfl, hc.s, by omega, hc.lst lp1, hpos, by omega, fun H5 k5 x5 hx5 xx5 S5 => hN _ _ (hc.draw xx5 S5) xx5.tups ?_⟩
      obtain ⟨r, hr, b, rfl, eb⟩ := L2.paired_get ((rv1.tups hc.out.tups).tups xx5.tups) hx5
      exact ⟨r, List.mem_of_getElem? hr, b, rfl, eb⟩
    · have xH := xJ1.trans hc.out
      obtain ⟨ks, ek, hks⟩ := ks_of hp
      have kl : ks.length = k1 := by rw [← yl, ek, List.length_map]
      walk_at "ss"
      refine ⟨D, ks, rfl, SqL.of (by rw [← ek]; exact hc.l), fun q hq => SqT.of (hks q hq).1, by omega, fun a L ha hL1 hL2 => ?_⟩
      have sa := same_new ha (L2.SetTO P w a L)
      walk_at "ss"
      refine ⟨a, L, n, 2, rfl, upd_same, fun q hq => SqT.of (sa _ _ (hks q (hL1 q hq)).1), by omega, fun q hq => ?_, fun L' q pm nd l64 pw hq => ?_⟩
      · have := rowsN_row n q.2 (hks q (hL1 q hq)).2
        exact ⟨this.1, fun m hm => by have := this.2 m hm; omega⟩
      have hmem : ∀ z ∈ L', z ∈ ks := fun z hz => hL1 z (pm.mem_iff.mp hz)
      have sq := same_new hq (.lst (L'.map fun z => V.ref z.1))
      obtain ⟨⟨_, a1⟩, ⟨_, a2⟩, _⟩ := (hc.s.same sa).here
      have hq2 : upd H' a (L2.SetTO P w a L) q = none := hq
      have hrow : ∀ r ∈ L'.map (·.2), IsRow n r := fun r hr => by
        obtain ⟨z, hz, rfl⟩ := List.mem_map.mp hr
        exact rowsN_row n _ (hks z (hmem z hz)).2
      have hsrt : SrtR (L'.map (·.2)) := by
        refine List.pairwise_map.mpr (List.Pairwise.imp_of_mem (fun {y z} hy hz hyz => ?_) pw)
        cases e : lexI z.2 y.2 with
        | false => rfl
        | true =>
          exfalso
          have ry := hrow _ (List.mem_map.mpr ⟨y, hy, rfl⟩)
          have rz := hrow _ (List.mem_map.mpr ⟨z, hz, rfl⟩)
          have := code_lt rz.2 ry.2 (by rw [rz.1, ry.1]) e
          omega
      exact h _ q _ (L'.map (·.2)) ⟨h1, h6, hrow, nd, hsrt, by rw [List.length_map]; omega⟩ (xH.trans (Ext.same (sa.trans sq))) ((hc.s.same (sa.trans sq)).mono (by omega))
        ⟨upd_same, fun z => z.elim (fun z => by rw [z, a1] at hq2; cases hq2) (fun z => by rw [z, a2] at hq2; cases hq2)⟩ (rows_of_ks fun z hz => (sa.trans sq) _ _ (hks z (hmem z hz)).1)
  walk_at "ss"
  refine ite2 (fun c1 => ?_) (fun _ => ?_)
  · -- way 7
    walk_at "ss"
    refine ⟨st, g, c, _, 2, rfl, by omega, by omega, S3, by omega, fun J1 k1 hk1 x1 S1 => ?_⟩
    walk_at "ss"
    refine ⟨by omega, by omega, fun D hD => ?_⟩
    rw [show (1 + (k1 : Int)).toNat = 1 + k1 by omega]
    have xJ1 := xJ0.trans x1
    have lp1 := lp0.ext x1
    have rv1 := rv0.tups x1.tups
    refine lc_ci (T := T) (m := 1) walk_range (fun _ _ _ _ hy => hy.1) hD S1 (by omega) (fun _ => rfl) (InA n) inA_tups (fun i x H' acc hi hc N hN => ?_) (fun H' ys hc yl hp => ?_)
    · walk_at "ss"
      refine ⟨h6, fun H5 p5 xs5 ss5 s5 n5 e5 r5 hA l0 l64 => ?_⟩
      obtain ⟨⟨_, a1⟩, ⟨_, a2⟩, _⟩ := hc.s.here
      walk_at "ss"
      refine ⟨st, g, c, p5, _, xs5, rfl, hc.s.same s5, by omega, ⟨e5, fun z => z.elim (fun z => by rw [z, a1] at n5; cases n5) (fun z => by rw [z, a2] at n5; cases n5)⟩, by rw [r5.len]; omega, by rw [r5.len]; omega, fun H6 k6 x6 hx6 xx6 S6 => hN _ _ ((hc.same s5).draw xx6 S6) (fun b ws e => xx6.tups _ _ (s5 _ _ e)) ?_⟩
      obtain ⟨r, hr, b, rfl, eb⟩ := L2.paired_get (r5.tups xx6.tups) hx6
      exact ⟨r, hA r (List.mem_of_getElem? hr), b, rfl, eb⟩
    · walk_at "ss"
      refine ⟨st, g, c, _, 2, rfl, by omega, by omega, hc.s, by omega, fun H2 k2 hk2 x2 S2 => ?_⟩
      walk_at "ss"
      refine ⟨small (by simp), fun t ht => ⟨_, _, rfl, SqT.of upd_same, rfl, _, _, rfl, _, _, rfl, rfl, ?_⟩⟩
      have s4 := same_new ht (.tup [.ref D, .int (k2 : Nat)])
      have x4 : Ext T (Fs st g) H' (upd H2 t (.tup [.ref D, .int (k2 : Nat)])) := x2.trans (Ext.same s4)
      have lpH := (hc.lst lp1).ext x4
      have rvH := (rv1.tups hc.out.tups).tups x4.tups
      have lD : Li (Fs st g) (upd H2 t (.tup [.ref D, .int (k2 : Nat)])) D ys := (show Li (Fs st g) H' D ys from ⟨hc.l, fun z => z.elim hc.n1 hc.n2⟩).ext x4
      have hp4 : ∀ y ∈ ys, InA n (upd H2 t (.tup [.ref D, .int (k2 : Nat)])) y := fun y hy => inA_tups _ _ _ x4.tups (hp y hy)
      have xH := (xJ1.trans hc.out).trans x4
      walk_at "ss"
      refine ⟨⟨_, lpH.sq⟩, fun D2 hD2 => ?_⟩
      refine lc_sub hD2 lpH.1 (by omega) (fun _ => rfl) (fun _ => rfl) (fun x hx H5 s5 N hN => ?_) (fun H5 zs s5 eD2 sub => ?_)
      · obtain ⟨⟨bx, rfl, ebx⟩, hr⟩ := rows_mem (rvH.same s5) x hx
        have lr := (rowsN_row n _ hr).1
        walk_at "ss"
        refine ⟨⟨_, SqL.of (s5 _ _ lD.1)⟩, fun D3 hD3 => ?_⟩
        refine lc_sub hD3 (s5 _ _ lD.1) (by omega) (fun _ => rfl) (fun _ => rfl) (fun y hy H6 s6 N2 hN2 => ?_) (fun H6 ws s6 eD3 sub2 => ?_)
        · obtain ⟨q, hq, bq, rfl, ebq⟩ := inA_tups _ _ _ (fun b zs e => s6 _ _ (s5 _ _ e)) (hp4 y hy)
          walk_at "ss"
          refine ⟨bx, bq, _, q, rfl, s6 _ _ ebx, ebq, fun k hk => by rw [lr]; exact hq.bd k hk, by have := hq.len; omega, fun H7 t7 qs7 s7 e7 => ?_⟩
          walk_at "ss"
          refine ⟨t7, qs7, rfl, SqT.of e7, ?_⟩
          walk_at "ss"
          refine .inl ⟨_, rfl, ?_⟩
          walk_at "ss"
          refine ⟨by omega, ?_⟩
          walk_at "ss"
          exact hN2 _ _ s7
        · obtain ⟨qs, rq⟩ := inA_list (n := n) (ys := ws) fun y hy => inA_tups _ _ _ (fun b zs e => s6 _ _ (s5 _ _ e)) (hp4 y (sub2.subset hy))
          walk_at "ss"
          refine ⟨small (by simp), fun t ht => ?_⟩
          have s8 := same_new ht (.lst [])
          refine ⟨_, _, .lst (SqL.of (s8 _ _ eD3)) (dpRows (rq.same s8)), .lst (SqL.of upd_same) .nil, shRowsL _, shRowsL [], ?_⟩
          exact ⟨_, rfl, hN _ _ (s6.trans s8)⟩
      · obtain ⟨qs, rq, sq⟩ := paired_sub sub (rvH.same s5)
        exact fin _ xH (S2.same s4 |>.mono (by omega)) D2 hD2 H5 zs qs s5 eD2 rq sq
  walk_at "ss"
  refine ⟨st, g, c, p, _, xs, rfl, S3, by omega, lp0, by omega, fun H5 p5 ys sub x5 S5 l5 => ?_⟩
  obtain ⟨qs, rq, sq⟩ := paired_sub sub (rv0.tups x5.tups)
  exact h H5 p5 ys qs (lotOk_sub h1 h6 sq) (xJ0.trans x5) (S5.mono (by omega)) l5 rq
end
end KK
/-! N2: what follows of numbers, plain. -/
namespace KK
open PySem PySem.Spec PyProof.Rows L2 LamX Cov
theorem split_first {p : List Int → Bool} : ∀ {l : List (List Int)}, (∃ r ∈ l, p r = false) → ∃ A g B, l = A ++ g :: B ∧ (∀ a ∈ A, p a = true) ∧ p g = false
  | [], ⟨r, hr, _⟩ => absurd hr (by simp)
  | x :: l, ⟨r, hr, hp⟩ => by
    cases e : p x with
    | false => exact ⟨[], x, l, rfl, fun a ha => absurd ha (by simp), e⟩
    | true =>
      have : r ∈ l := by
        rcases List.mem_cons.mp hr with rfl | h
        · rw [hp] at e; cases e
        · exact h
      obtain ⟨A, g, B, h1, h2, h3⟩ := split_first (l := l) ⟨r, this, hp⟩
      refine ⟨x :: A, g, B, by rw [h1]; rfl, fun a ha => ?_, h3⟩
      rcases List.mem_cons.mp ha with rfl | ha
      · exact e
      · exact h2 a ha
theorem num_of_bits {n : Nat} {m : Int} (h0 : 0 ≤ m) (h1 : m < 2 ^ 2 ^ n) : numL n (bitsOf m (rowsN n)) = m := num_bits (rowsN_nd n) h0 (by rw [rowsN_len]; exact h1)
theorem num_rest {n : Nat} (rs : List (List Int)) : numL n ((rowsN n).filter fun r => !decide (r ∈ rs)) = 2 ^ 2 ^ n - 1 - numL n rs := by
  have h := numP_not (fun r => decide (r ∈ rs)) (rowsN n)
  rw [rowsN_len] at h
  refine Eq.trans (numP_congr fun r hr => ?_) h
  rw [show (!decide (r ∈ rs)) = decide (¬ r ∈ rs) by simp, decide_eq_decide, List.mem_filter]
  exact ⟨fun k => by simpa using k.2, fun k => ⟨hr, by simpa using k⟩⟩
theorem num_one {n : Nat} {rs : List (List Int)} {g : List Int} (hg : g ∉ rs) : numL n (sortR (rs ++ [g])) = numL n rs + numL n [g] := by
  refine numP_add fun r hr => ⟨fun h => ?_, ?_⟩
  · have h1 := of_decide_eq_true h
    exact decide_eq_false fun z => hg (by rw [List.mem_singleton.mp z] at h1; exact h1)
  · rw [← Bool.decide_or, decide_eq_decide, (sortR_perm _).mem_iff, List.mem_append]
theorem full_rows {n : Nat} {rs : List (List Int)} (ok : LotOk n rs) (h : numL n rs + 1 = 2 ^ 2 ^ n) : rs = rowsN n := by
  have a := numP_full (p := fun r => decide (r ∈ rs)) (l := rowsN n) (by rw [rowsN_len]; exact h)
  have b := lot_filter ok
  rw [List.filter_eq_self.mpr a] at b
  exact b.symm
theorem lr_facts {n : Nat} {rs : List (List Int)} (ok : LotOk n rs) (nf : numL n rs + 1 ≠ 2 ^ 2 ^ n) : ∃ A g B, rowsN n = A ++ g :: B ∧ g ∉ rs ∧ IsRow n g ∧
    (rowsN n).filter (fun r => !decide (r ∈ rs)) = g :: B.filter (fun r => !decide (r ∈ rs)) ∧ sortR (g :: rs.filter fun r => !decide (r ∈ A)) = bitsOf (numL n rs + 1) (rowsN n) := by
  have ex : ∃ r ∈ rowsN n, (fun r => decide (r ∈ rs)) r = false := by
    rcases Classical.em (∃ r ∈ rowsN n, (fun r => decide (r ∈ rs)) r = false) with h | h
    · exact h
    · refine absurd ?_ nf
      have := numP_all (p := fun r => decide (r ∈ rs)) (l := rowsN n) fun r hr => by
        cases e : decide (r ∈ rs) with
        | true => rfl
        | false => exact absurd ⟨r, hr, e⟩ h
      rw [rowsN_len] at this
      exact this
  obtain ⟨A, g, B, e, hA, hg⟩ := split_first ex
  have gn : g ∉ rs := of_decide_eq_false hg
  have gm : g ∈ rowsN n := by rw [e]; simp
  have carry := bits_carry (p := fun r => decide (r ∈ rs)) (A := A) (B := B) (g := g) hA hg
  rw [← e] at carry
  have nd := rowsN_nd n
  rw [e] at nd
  obtain ⟨d1, d2, d3⟩ := List.nodup_append.mp nd
  have fl : rs.filter (fun r => !decide (r ∈ A)) = B.filter (fun r => decide (r ∈ rs)) := by
    have e0 : rs = (A.filter fun r => decide (r ∈ rs)) ++ B.filter fun r => decide (r ∈ rs) := by
      have := lot_filter ok
      rw [e, List.filter_append, List.filter_cons_of_neg (by simpa using gn)] at this
      exact this.symm
    have e1 : (A.filter fun r => decide (r ∈ rs)).filter (fun r => !decide (r ∈ A)) = [] := by
      rw [List.filter_eq_nil_iff]
      intro a ha
      have := (List.mem_filter.mp ha).1
      simp [this]
    have e2 : (B.filter fun r => decide (r ∈ rs)).filter (fun r => !decide (r ∈ A)) = B.filter (fun r => decide (r ∈ rs)) := by
      rw [List.filter_eq_self]
      intro b hb
      have hb2 := (List.mem_filter.mp hb).1
      have : b ∉ A := fun k => d3 b k b (List.mem_cons_of_mem _ hb2) rfl
      simp [this]
    refine (congrArg (List.filter fun r => !decide (r ∈ A)) e0).trans ?_
    rw [List.filter_append, e1, e2, List.nil_append]
  refine ⟨A, g, B, e, gn, rowsN_row n g gm, ?_, ?_⟩
  · rw [e, List.filter_append, List.filter_cons_of_pos (by simpa using gn)]
    rw [List.filter_eq_nil_iff.mpr fun a ha => by simpa using hA a ha]
    rfl
  · rw [fl]
    have c2 : bitsOf (numL n rs + 1) (rowsN n) = g :: B.filter (fun r => decide (r ∈ rs)) := carry
    rw [c2]
    refine sortR_id (List.Pairwise.sublist ?_ (rowsN_srt n))
    rw [e]
    exact (List.Sublist.cons₂ g List.filter_sublist).trans (List.sublist_append_right A _)
section
variable {K : PySem.W.Frag}
/-- a comprehension that keeps just the rows of which a test is true -/
theorem lc_filter (pred : List Int → Bool) {j : Nat} {vs : List Nat} {σ : L2.St} {H1 : Hp} {p D : Addr} {xs : List V} {rs : List (List Int)} {tt : TT} {Qd : Hp → Prop} (hD : H1 D = none) (ep : H1 p = some (.lst xs)) (rv : RowsV H1 xs rs) (hl : xs.length ≤ 1000) (hw : ∀ x, wipe ((wipe σ vs).set j x) vs = wipe σ vs) (hv : ∀ x, ((wipe σ vs).set j (some x))[j]? = some (some x))
    (hs : ∀ r ∈ rs, ∀ b H', Same H1 H' → H' b = some (.tup (r.map .int)) → ∀ N : Bool → Hp → Prop, (∀ H'', Same H' H'' → N (pred r) H'') → tt ((wipe σ vs).set j (some (.ref b))) H' N)
    (hd : ∀ H' ys, Same H1 H' → H' D = some (.lst ys) → RowsV H' ys (rs.filter pred) → Qd H') :
    ∃ W : Nat → Nat → Hp → Prop, (∃ m, W 0 m (upd H1 D (.lst []))) ∧ ∀ i m H, W i m H →
      ((Itl K p).stop i H ∧ Qd H) ∨ ((Itl K p).go i H ∧ ∃ Nx : Hp → Prop, (∀ H', Nx H' → ∃ m', m' < m ∧ W (i + 1) m' H') ∧ ∀ x H', (Itl K p).yld i H x H' → gName j x (wipe σ vs) H' fun σ2 H2 => wipe σ2 vs = wipe σ vs ∧ tt σ2 H2 fun b H3 =>
        if b = true then tVar j σ2 H3 fun y H4 => ∃ acc, H4 D = some (.lst acc) ∧ acc.length < sizeLine ∧ Nx (upd H4 D (.lst (acc ++ [y]))) else Nx H3) := by
  refine lc_it (g := gName j) (tt := tt) (te := tVar j) walk_list (fun i H' => Same H1 H' ∧ ∃ ys, H' D = some (.lst ys) ∧ RowsV H' ys ((rs.take i).filter pred)) ⟨same_new hD _, [], upd_same, .nil⟩ (fun i H' _ hv => SqL.of (hv.1 _ _ ep)) (fun i x H' H'' hi hv2 hy => ?_) (fun H' hv2 => ?_)
  · obtain ⟨rfl, ex⟩ := hy
    obtain ⟨s1, ys, eD, ry⟩ := hv2
    obtain ⟨r, hr, b, rfl, eb⟩ := L2.paired_get (rv.same s1) ex
    have stk : (rs.take (i + 1)).filter pred = (rs.take i).filter pred ++ [r].filter pred := by
      rw [List.take_add_one, hr, List.filter_append]
      rfl
    have yl : ys.length ≤ 1000 := by
      rw [ry.len]
      refine Nat.le_trans (List.length_filter_le _ _) ?_
      rw [List.length_take, ← rv.len]
      omega
    refine gn ⟨hw _, hs r (List.mem_of_getElem? hr) b _ s1 eb _ fun H3 s3 => ?_⟩
    refine ite2 (fun c => ?_) (fun c => ?_)
    · have kp : ∀ b' zs, H3 b' = some (.tup zs) → upd H3 D (.lst (ys ++ [.ref b])) b' = some (.tup zs) := fun b' zs e => tup_upd (s3 _ _ eD) (fun _ z => by cases z) e
      refine ⟨_, hv _, ys, s3 _ _ eD, smallt (by omega), same_over hD (s1.trans s3) _, ys ++ [.ref b], upd_same, ?_⟩
      rw [stk, show [r].filter pred = [r] by simpa using c]
      exact RowsV.append ((ry.same s3).tups kp) (.cons ⟨b, rfl, kp _ _ (s3 _ _ eb)⟩ .nil)
    · refine ⟨s1.trans s3, ys, s3 _ _ eD, ?_⟩
      rw [stk, show [r].filter pred = [] by simpa using c, List.append_nil]
      exact ry.same s3
  · obtain ⟨s1, ys, eD, ry⟩ := hv2
    rw [rv.len, List.take_length] at ry
    exact hd H' ys s1 eD ry
end
end KK
/-! W7: _law_lot_right. -/
namespace KK
open PySem PySem.Spec PyProof.Rows L2 LamX Cov
/-- one step of a reading -/
local macro_rules | `(tactic| walk_at "s") => `(tactic| first | refine ⟨_, rfl, ?_⟩ | refine ⟨_, _, rfl, rfl, ?_⟩ | refine ⟨rfl, ?_⟩ | refine ⟨⟨_, rfl⟩, ?_⟩)
local macro_rules | `(tactic| walk_at "ss") => `(tactic| repeat walk_at "s")
section
variable {P : Program} {w : World} {K : PySem.W.Frag} {mg : Str → Option Value} {base : Heap} {T : List (Addr × Str)}
variable {C fI pP gP pR gR fH fM fE : Addr}
/-- keywords, the parameters' order turned -/
def kwV (vs zs : List V) : List V := match vs with
  | [] => zs.reverse
  | _ :: _ => []
def kwU (us ws : List Value) : List Value := match us with
  | [] => ws.reverse
  | _ :: _ => []
/-- the defs of the program and their facts -/
structure LF (P : Program) (w : World) (K : PySem.W.Frag) (mg : Str → Option Value) (base : Heap) (C CN CB CP fI pP gP pR gR fH fM fE : Addr) (fln fla fnx frl ffl fbs frw fnu fmy : Addr) (dI dP dR dM dE dln dla dnx drl dfl dbs drw dnu dmy : FuncData) : Prop where
  LC : LotK K mg C fI pP gP pR gR fH fM fE
  GI : FnOk P w K mg base (L2.CX P w) 6 fI dI ["self", "places", "rows"] (spIni C)
  BI : Binds K dI ["self", "places", "rows"] []
  GP : FnOk P w K mg base (L2.CX P w) 1 gP dP ["self"] (spPl C)
  BP : Binds K dP ["self"] []
  GR : FnOk P w K mg base (L2.CX P w) 1 gR dR ["self"] (spRo C)
  BR : Binds K dR ["self"] []
  GM : FnOk P w K mg base (L2.CX P w) 1 fM dM ["self"] (spMa C)
  BM : Binds K dM ["self"] []
  GE : FnOk P w K mg base (L2.CX P w) 1 fE dE ["self", "other"] (spEq C)
  BE : Binds K dE ["self", "other"] []
  Gln : FnOk P w K mg base (L2.CX P w) 7 fln dln ["lot"] (spLN C CN)
  Mln : Dat K mg "lot_number" fln dln ["lot"]
  KBln : KBinds K dln ["lot"] ["lot"] kwU kwV
  Gla : FnOk P w K mg base (L2.CX P w) 9 fla dla ["places", "number"] (spLA K C CB CP)
  Mla : Dat K mg "lot_at" fla dla ["places", "number"]
  KBla : KBinds K dla ["places", "number"] ["number", "places"] kwU kwV
  Gnx : FnOk P w K mg base (L2.CX P w) 9 fnx dnx ["lot"] (spNX C CN)
  Mnx : Dat K mg "next_lot" fnx dnx ["lot"]
  KBnx : KBinds K dnx ["lot"] ["lot"] kwU kwV
  Grl : FnOk P w K mg base (L2.CX P w) 8 frl drl ["lot"] (spRL C)
  Mrl : Dat K mg "rest_lot" frl drl ["lot"]
  Gfl : FnOk P w K mg base (L2.CX P w) 8 ffl dfl ["lot", "asked"] (spFL C)
  Mfl : Dat K mg "flipped_lot" ffl dfl ["lot", "asked"]
  Gbs : FnOk P w K mg base (L2.CX P w) 8 fbs dbs ["one", "other"] (spBS C)
  Mbs : Dat K mg "beside" fbs dbs ["one", "other"]
  Grw : FnOk P w K mg base (L2.CX P w) 1 frw drw ["places"] spAA
  Mrw : Dat K mg "_law_rows" frw drw ["places"]
  Gnu : FnOk P w K mg base (L2.CX P w) 2 fnu dnu ["places", "rows"] spNum2
  Mnu : Dat K mg "_law_number" fnu dnu ["places", "rows"]
  Gmy : FnOk P w K mg base (L2.CX P w) 2 fmy dmy ["places"] spMany
  Mmy : Dat K mg "_law_many" fmy dmy ["places"]
variable {CN CB CP fln fla fnx frl ffl fbs frw fnu fmy : Addr} {dI dP dR dM dE dln dla dnx drl dfl dbs drw dnu dmy : FuncData}
theorem make_lot2 {n : Nat} {a : Addr} {xs : List V} {rs : List (List Int)} {H : Hp} {R : VK} {E : XK} {x dx : Addr} (hx : H x = none) (hd : H dx = none) (hne : dx ≠ x) (ea : H a = some (.lst xs)) (rv : RowsV H xs rs) (hrow : ∀ r ∈ rs, IsRow n r) (hnd : rs.Nodup) (h1 : 1 ≤ n) (h6 : n ≤ 6)
    (h : ∀ H', Same H H' → IsLot C H' x n (sortR rs) → R .non H') : spIni C [.ref x, .int (n : Nat), .ref a] (upd (upd H dx (.own x)) x (.ins C dx [])) R E := by
  have s1 := same_new hd (.own x)
  have hx1 : upd H dx (.own x) x = none := by rw [upd_ne (Ne.symm hne)]; exact hx
  have s2 := same_new hx1 (.ins C dx [])
  have s12 := s1.trans s2
  refine ⟨x, dx, a, n, xs, rs, rfl, upd_same, s12 _ _ ea, rv.same s12, hrow, hnd, h1, h6, ?_, fun H' k hL => h H' (fun b o e => k b o (s12 b o e) fun z => by rw [z, hx] at e; cases e) hL⟩
  have sb : rs.length ≤ (rowsN n).length := (nodup_len hnd fun r hr => rowsN_mem n r (hrow r hr))
  rw [rowsN_len] at sb
  exact Nat.le_trans sb (pow64 h6)
theorem eqO_by {H : Hp} {Q : VK} {neg : Bool} {x y : Addr} {n m : Nat} {rs qs : List (List Int)} (hx : IsLot C H x n rs) (hy : IsLot C H y m qs) (h : ∀ H', Same H H' → Q (.bl (if neg = true then !decide (n = m ∧ rs = qs) else decide (n = m ∧ rs = qs))) H') : rEqO C (spEq C) neg (.ref x) (.ref y) H Q := by
  obtain ⟨dx, t, d, vs, e1, _⟩ := id hx
  obtain ⟨dy, t', d', vs', e2, _⟩ := id hy
  exact ⟨x, y, dx, dy, _, _, rfl, rfl, e1, e2, x, n, rs, y, m, qs, rfl, hx, hy, fun H' s => ⟨_, rfl, h H' s⟩⟩
theorem num_rows {n : Nat} {rs : List (List Int)} (ok : LotOk n rs) : bitsOf (numL n rs) (rowsN n) = rs := (bitsOf_num _ _).trans (lot_filter ok)
theorem row_at {n : Nat} {A B : List (List Int)} {g : List Int} (e : rowsN n = A ++ g :: B) : (dRows (rowsN n))[A.length]? = some (.tuple (g.map .int)) := by
  unfold dRows
  rw [List.getElem?_map, e]
  simp
theorem row_no {n : Nat} {A B : List (List Int)} {g : List Int} (e : rowsN n = A ++ g :: B) : ∀ (m : Nat) (z : PyData), m < A.length → (dRows (rowsN n))[m]? = some z → PyData.eqv z (.tuple (g.map .int)) = false := fun m z hm hz => by
  unfold dRows at hz
  rw [List.getElem?_map, e, List.getElem?_append_left hm, List.getElem?_eq_getElem hm] at hz
  obtain rfl : PyData.tuple (A[m].map .int) = z := Option.some.inj hz
  rw [eqvRow]
  have nd := rowsN_nd n
  rw [e] at nd
  exact decide_eq_false fun k => (List.nodup_append.mp nd).2.2 A[m] (List.getElem_mem hm) g List.mem_cons_self k
theorem cut_take {xs : List V} {k : Nat} (h : k ≤ xs.length) : cutV xs none (some ((k : Nat) : Int)) = xs.take k := by
  unfold cutV
  rw [HT.sIx_nat]
  show (xs.drop 0).take (min k xs.length - 0) = xs.take k
  rw [Nat.min_eq_left h, List.drop_zero, Nat.sub_zero]
theorem rowsV_cons {H : Hp} {ys : List V} {r : List Int} {rs : List (List Int)} (h : RowsV H ys (r :: rs)) : ∃ b ys', ys = .ref b :: ys' ∧ H b = some (.tup (r.map .int)) ∧ RowsV H ys' rs := by
  cases h with
  | cons a k =>
    obtain ⟨b, rfl, e⟩ := a
    exact ⟨b, _, rfl, e, k⟩
theorem RowsV.take {H : Hp} : ∀ (k : Nat) {xs : List V} {rs : List (List Int)}, RowsV H xs rs → RowsV H (xs.take k) (rs.take k)
  | 0, _, _, _ => by rw [List.take_zero, List.take_zero]; exact .nil
  | _ + 1, _, _, .nil => .nil
  | k + 1, _, _, .cons a r => .cons a (RowsV.take k r)
theorem sc_law_lot_right : FnScope ["places", "rows", "lot", "number", "many", "later", "every", "gap", "ahead", "row"] ["places", "rows"] (defScope s_law_lot_right) := ⟨rfl, rfl, rfl, by decide +kernel, rfl, by decide +kernel, by decide +kernel⟩
def spLR : Sp := fun vs H Q _ => ∃ (n : Nat) (a : Addr) (xs : List V) (rs : List (List Int)), vs = [.int n, .ref a] ∧ LotOk n rs ∧ H a = some (.lst xs) ∧ RowsV H xs rs ∧ ∀ H', Same H H' → Q (.bl true) H'
theorem ok_law_lot_right {f : Addr} {fd : FuncData} (F : FnP K "_law_lot_right" s_law_lot_right f fd) (Z : Zs mg) (X : LF P w K mg base C CN CB CP fI pP gP pR gR fH fM fE fln fla fnx frl ffl fbs frw fnu fmy dI dP dR dM dE dln dla dnx drl dfl dbs drw dnu dmy) :
    FnOk P w K mg base (L2.CX P w) 10 f fd ["places", "rows"] spLR := by
  have LC := X.LC
  have g_Lot := LC.g
  have GLot___init__ := X.GI
  have BLot___init__ := X.BI
  have GLot_places := X.GP
  have BLot_places := X.BP
  have GLot_rows := X.GR
  have BLot_rows := X.BR
  have GLot___eq__ := X.GE
  have BLot___eq__ := X.BE
  have Glot_number := X.Gln
  have Mlot_number := X.Mln
  have KBlot_number := X.KBln
  have Glot_at := X.Gla
  have Mlot_at := X.Mla
  have KBlot_at := X.KBla
  have Gnext_lot := X.Gnx
  have Mnext_lot := X.Mnx
  have KBnext_lot := X.KBnx
  have Grest_lot := X.Grl
  have Mrest_lot := X.Mrl
  have G_law_rows := X.Grw
  have M_law_rows := X.Mrw
  have G_law_number := X.Gnu
  have M_law_number := X.Mnu
  have G_law_many := X.Gmy
  have M_law_many := X.Mmy
  refine F.ok sc_law_lot_right (fun vs H Q E h => ?_) (fun cdv A outer s H vs Q E hr h => ?_)
  · obtain ⟨_, _, _, _, rfl, _⟩ := h
    rfl
  obtain ⟨n, a, xs, rs, rfl, ok, ea, rv, h⟩ := h
  refine ⟨_, (pss_cons (ps_par3 (i := 2) (j := 3) (l := 4) (by rfl) sc_law_lot_right.nd rfl rfl rfl (by decide) (by decide) (by decide) rfl rfl rfl (pa_cons (pe_make LC.mkk GLot___init__ (hr.mono (by omega)) (by rfl) g_Lot BLot___init__ .nil passL (pa_cons (pv 0) (pa_cons (pv 1) pa_nil))) (pa_cons (pe_fn G_law_number M_law_number (hr.mono (by omega)) (pa_cons (pv 0) (pa_cons (pv 1) pa_nil))) (pa_cons (pe_fn G_law_many M_law_many (hr.mono (by omega)) (pa_cons (pv 0) pa_nil)) pa_nil))) (by rfl))
    (pss_cons (ps_if (PW.pt (pw_or (pt_cmpR op_ne (pe_fx Glot_number Mlot_number (hr.mono (by omega)) (takes_of rfl rfl rfl rfl) (pa_cons (pv 2) pa_nil)) (pv 3) (nomark _)) (pw_or (pt_cmpR op_ne (pe_fk0 (E := E0) Glot_number Mlot_number KBlot_number (hr.mono (by omega)) passL (pk_cons (pv 2) pk_nil)) (pv 3) (nomark _)) (pw_or (pt_cmpR (op_neO LC.eqk GLot___eq__ BLot___eq__ (hr.mono (by omega))) (pe_fx Glot_at Mlot_at (hr.mono (by omega)) (takes_of rfl rfl rfl rfl) (pa_cons (pv 0) (pa_cons (pv 3) pa_nil))) (pv 2) (nomark _)) (pw_or1 (pt_cmpR (op_neO LC.eqk GLot___eq__ BLot___eq__ (hr.mono (by omega))) (pe_fk0 (E := E0) Glot_at Mlot_at KBlot_at (hr.mono (by omega)) passL (pk_cons (pv 3) (pk_cons (pv 0) pk_nil))) (pv 2) (nomark _))))))) (pss_one (ps_ret pe_bl)) pss_nil)
    (pss_cons (ps_par (i := 5) (j := 6) (by rfl) sc_law_lot_right.nd rfl rfl (by decide) rfl rfl (pa_cons (pe_fx Gnext_lot Mnext_lot (hr.mono (by omega)) (takes_of rfl rfl rfl rfl) (pa_cons (pv 2) pa_nil)) (pa_cons (pe_fn G_law_rows M_law_rows (hr.mono (by omega)) (pa_cons (pv 0) pa_nil)) pa_nil)) (by rfl))
    (pss_cons (ps_if (pt_cmpR op_eq (pe_op op_add (pv 3) pe_int) (pv 4) (nomark _)) (pss_one (ps_ret (pe_and (pe_cmp (pc_isN (pv 5)) rfl) (pe_and (pe_cmp (pc_isN (pe_fk0 (E := E0) Gnext_lot Mnext_lot KBnext_lot (hr.mono (by omega)) passL (pk_cons (pv 2) pk_nil))) rfl) (pe_one (pe_cmpR (op_eqD hr.units) (pv 1) (pv 6) (nomark _))))))) pss_nil)
    (pss_cons (ps_if (PW.pt (pw_or (pt_cmpR op_ne (pe_fx Glot_number Mlot_number (hr.mono (by omega)) (takes_of rfl rfl rfl rfl) (pa_cons (pv 5) pa_nil)) (pe_op op_add (pv 3) pe_int) (nomark _)) (pw_or1 (pt_cmpR (op_neO LC.eqk GLot___eq__ BLot___eq__ (hr.mono (by omega))) (pe_fk0 (E := E0) Gnext_lot Mnext_lot KBnext_lot (hr.mono (by omega)) passL (pk_cons (pv 2) pk_nil)) (pv 5) (nomark _))))) (pss_one (ps_ret pe_bl)) pss_nil)
    (pss_cons (ps_set (i := 7) sc_law_lot_right.nd rfl (Or.inl rfl) (pe_ix ix_list (pe_lc (own := [("row", 9)]) (g := gName 9) rfl sc_law_lot_right.nd (pi_list (pv 6)) (blkOk_by (own := [("row", 9)]) (N := ["places", "rows", "lot", "number", "many", "later", "every", "gap", "ahead", "row"]) (sc := defScope s_law_lot_right) (by decide +kernel)) (fun _ _ _ _ _ => pg_name (i := 9) sc_law_lot_right.nd rfl (by first | exact Or.inl rfl | exact Or.inr rfl)) (fun _ _ _ _ _ => (pts_one (pt_cmpR (op_notInDK K rfl (units65 hr)) (pv 9) (pv 1) (by rfl)))) (fun _ _ _ _ _ => (pv 9))) pe_int (fun _ _ => rfl)))
    (pss_cons (ps_set (i := 8) sc_law_lot_right.nd rfl (Or.inr rfl) (pe_slice sl_list (pv 6) po_none (po_some (pe_bm PySem.F.plainAttrs_list PySem.F.slot_list_index PySem.F.type_list_index (mt_indexD (units65 hr)) (pv 6) (pa_cons (pv 7) pa_nil)))))
    (pss_cons (ps_if (pt_cmpR (op_neD hr.units) (pe_callB cr_sortedTI (by rfl) Z.sorted_ (by decide +kernel) (pa_cons (pe_op op_cat (pe_lst (pa_cons (pv 7) pa_nil)) (pe_lc (own := [("row", 9)]) (g := gName 9) rfl sc_law_lot_right.nd (pi_list (pv 1)) (blkOk_by (own := [("row", 9)]) (N := ["places", "rows", "lot", "number", "many", "later", "every", "gap", "ahead", "row"]) (sc := defScope s_law_lot_right) (by decide +kernel)) (fun _ _ _ _ _ => pg_name (i := 9) sc_law_lot_right.nd rfl (by first | exact Or.inl rfl | exact Or.inr rfl)) (fun _ _ _ _ _ => (pts_one (pt_cmpR (op_notInDK K rfl (units65 hr)) (pv 9) (pv 8) (by rfl)))) (fun _ _ _ _ _ => (pv 9)))) pa_nil)) (pe_callTy call_list_of (by rfl) Z.list_ (by decide +kernel) (pa_cons (pe_prop (pv 5) LC.cls LC.p_rows GLot_rows (hr.mono (by omega)) BLot_rows .nil passL (by rfl)) pa_nil)) (nomark _)) (pss_one (ps_ret pe_bl)) pss_nil)
    (pss_one (ps_ret (pe_and (pe_cmpR op_eq (pe_fx Glot_number Mlot_number (hr.mono (by omega)) (takes_of rfl rfl rfl rfl) (pa_cons (pe_fn Grest_lot Mrest_lot (hr.mono (by omega)) (pa_cons (pv 2) pa_nil)) pa_nil)) (pe_op op_sub (pe_op op_sub (pv 4) pe_int) (pv 3)) (nomark _)) (pe_one (pe_cmpR op_eq (pe_fx Glot_number Mlot_number (hr.mono (by omega)) (takes_of rfl rfl rfl rfl) (pa_cons (pe_make LC.mkk GLot___init__ (hr.mono (by omega)) (by rfl) g_Lot BLot___init__ .nil passL (pa_cons (pv 0) (pa_cons (pe_op op_cat (pv 1) (pe_lst (pa_cons (pv 7) pa_nil))) pa_nil))) pa_nil)) (pe_op op_add (pv 3) (pe_fn G_law_number M_law_number (hr.mono (by omega)) (pa_cons (pv 0) (pa_cons (pe_lst (pa_cons (pv 7) pa_nil)) pa_nil)))) (nomark _)))))))))))))), ?_⟩
  walk_at "ss"
  intro x dx hx hd hne
  refine make_lot2 hx hd hne ea rv ok.row ok.nd ok.n1 ok.n6 (fun H1 s1 hL1 => ⟨rfl, ?_⟩)
  revert hx hL1
  generalize x = l
  intro nl hL1
  rw [sortR_id ok.srt] at hL1
  obtain ⟨m0, m1⟩ := numL_lt n rs
  walk_at "ss"
  refine ⟨n, a, xs, rs, rfl, ok.n6, s1 _ _ ea, rv.same s1, fun H2 s2 => ?_⟩
  walk_at "ss"
  refine ⟨ok.n6, fun H3 s3 => ?_⟩
  have s13' := (s1.trans s2).trans s3
  have hL3 := hL1.same (s2.trans s3)
  walk_at "ss"
  refine ⟨_, _, _, rfl, ?_⟩
  walk_at "ss"
  refine .inl ⟨l, n, rs, rfl, hL3, ok, fun H4 s4 => ?_⟩
  walk_at "ss"
  refine if_f (nd_self _) ?_
  walk_at "ss"
  refine .inl ⟨l, n, rs, rfl, hL3.same s4, ok, fun H5 s5 => ?_⟩
  have s45 := s4.trans s5
  walk_at "ss"
  refine if_f (nd_self _) ?_
  walk_at "ss"
  refine ⟨_, _, rfl, .inl ⟨n, rfl, ok.n1, ok.n6, .inl ⟨_, rfl, m0, m1, fun H6 p6 s6 n6 L6 => ?_⟩⟩⟩
  rw [num_rows ok] at L6
  have s46 := s45.trans s6
  walk_at "ss"
  refine eqO_by L6 (hL3.same s46) fun H7 s7 => ?_
  have s47 := s46.trans s7
  rw [decide_eq_true (show n = n ∧ rs = rs from ⟨rfl, rfl⟩)]
  walk_at "ss"
  refine ⟨_, _, rfl, .inl ⟨n, rfl, ok.n1, ok.n6, .inl ⟨_, rfl, m0, m1, fun H8 p8 s8 n8 L8 => ?_⟩⟩⟩
  rw [num_rows ok] at L8
  have s48 := s47.trans s8
  walk_at "ss"
  refine eqO_by L8 (hL3.same s48) fun H9 s9 => ?_
  have s49 := s48.trans s9
  rw [decide_eq_true (show n = n ∧ rs = rs from ⟨rfl, rfl⟩)]
  walk_at "ss"
  rcases Classical.em (numL n rs + 1 = 2 ^ 2 ^ n) with full | nf
  · refine .inl ⟨l, n, rs, rfl, hL3.same s49, ok, fun _ H10 s10 => ?_, fun c => absurd full c⟩
    walk_at "ss"
    refine ⟨ok.n6, fun H11 p xe s11 np ep re => ?_⟩
    walk_at "ss"
    refine ⟨_, _, rfl, ?_⟩
    have st : Same H11 H11 := Same.refl H11
    have s412 := ((s49.trans s10).trans s11)
    walk_at "ss"
    refine if_t (decide_eq_true (congrArg V.int full)) ?_
    walk_at "ss"
    refine .inl ⟨l, n, rs, rfl, hL3.same s412, ok, fun _ H13 s13 => ?_, fun c => absurd full c⟩
    have s413 := s412.trans s13
    walk_at "ss"
    refine ⟨_, _, .lst (SqL.of ((s13'.trans s413) _ _ ea)) (dpRows (rv.same (s13'.trans s413))), .lst (SqL.of ((st.trans s13) _ _ ep)) (dpRows (re.same (st.trans s13))), shRowsL _, shRowsL _, ?_⟩
    rw [show PyData.eqv (.list (dRows rs)) (.list (dRows (rowsN n))) = true by
      simp only [PyData.eqv]
      rw [eqvRows]
      exact decide_eq_true (full_rows ok full)]
    exact h _ (s13'.trans s413)
  · have m2 : numL n rs + 1 < 2 ^ 2 ^ n := by omega
    have nb := num_of_bits (n := n) (m := numL n rs + 1) (by omega) m2
    obtain ⟨A, g, B, eAB, gn', grow, efil, esort⟩ := lr_facts ok nf
    have ok2 : LotOk n (bitsOf (numL n rs + 1) (rowsN n)) := lotOk_sub ok.n1 ok.n6 (bitsOf_sub _ _)
    refine .inl ⟨l, n, rs, rfl, hL3.same s49, ok, fun c => absurd c nf, fun _ H10 p10 s10 n10 L10 => ?_⟩
    walk_at "ss"
    refine ⟨ok.n6, fun H11 p xe s11 np ep re => ?_⟩
    walk_at "ss"
    refine ⟨_, _, rfl, ?_⟩
    have st : Same H11 H11 := Same.refl H11
    have s412 := ((s49.trans s10).trans s11)
    walk_at "ss"
    refine if_f (decide_eq_false fun z => nf (V.int.inj z)) ?_
    walk_at "ss"
    refine .inl ⟨p10, n, _, rfl, L10.same (s11.trans st), ok2, fun H13 s13 => ?_⟩
    rw [nb]
    walk_at "ss"
    refine if_f (nd_self _) ?_
    walk_at "ss"
    have s413 := s412.trans s13
    refine .inl ⟨l, n, rs, rfl, hL3.same s413, ok, fun c => absurd c nf, fun _ H14 p14 s14 n14 L14 => ?_⟩
    have s414 := s413.trans s14
    have L10' := L10.same (((s11.trans st).trans s13).trans s14)
    walk_at "ss"
    refine eqO_by L14 L10' fun H15 s15 => ?_
    have s415 := s414.trans s15
    rw [decide_eq_true (show n = n ∧ bitsOf (numL n rs + 1) (rowsN n) = bitsOf (numL n rs + 1) (rowsN n) from ⟨rfl, rfl⟩)]
    walk_at "ss"
    have sE := ((st.trans s13).trans s14).trans s15
    have sA := s13'.trans s415
    have h64 := pow64 ok.n6
    have xel : xe.length = 2 ^ n := by rw [re.len, rowsN_len]
    refine ⟨⟨_, SqL.of (sE _ _ ep)⟩, fun D hD => ?_⟩
    refine lc_filter (fun r => !decide (r ∈ rs)) hD (sE _ _ ep) (re.same sE) (by omega) (fun _ => rfl) (fun _ => rfl) (fun r hr b H16 s16 eb N hN => ?_) (fun H16 ys s16 eD ry => ?_)
    · walk_at "ss"
      refine ⟨_, _, dp_row eb, .lst (SqL.of ((sA.trans s16) _ _ ea)) (dpRows (rv.same (sA.trans s16))), shRow _, shRowsL _, ?_⟩
      refine ⟨_, rfl, ?_⟩
      rw [inD_rows]
      exact hN _ (Same.refl _)
    rw [efil] at ry
    obtain ⟨bg, ys', rfl, ebg, ry'⟩ := rowsV_cons ry
    have sE16 := sE.trans s16
    have sA16 := sA.trans s16
    walk_at "ss"
    refine ⟨_, _, _, _, rfl, rfl, SqL.of eD, atI_nat (xs := .ref bg :: ys') (j := 0) (v := .ref bg) rfl, ?_⟩
    refine gn ?_
    walk_at "ss"
    refine ⟨.inl ⟨rfl, _, SqL.of (sE16 _ _ ep)⟩, ?_⟩
    walk_at "ss"
    refine ⟨p, .ref bg, _, dRows (rowsN n), A.length, _, rfl, rfl, .lst (SqL.of (sE16 _ _ ep)) (dpRows (re.same sE16)), dp_row ebg, shRowsL _, shRow _, row_at eAB, (by rw [eqvRow]; exact decide_eq_true rfl), row_no eAB, ?_⟩
    walk_at "ss"
    refine ⟨p, xe, rfl, SqL.of (sE16 _ _ ep), fun q hq => ?_⟩
    have Al : A.length ≤ xe.length := by rw [re.len, eAB, List.length_append]; omega
    have sq := same_new hq (.lst (cutV xe none (some ((A.length : Nat) : Int))))
    have ra : RowsV (upd H16 q (.lst (cutV xe none (some ((A.length : Nat) : Int))))) (cutV xe none (some ((A.length : Nat) : Int))) A := by
      rw [cut_take Al]
      have := (RowsV.take A.length (re.same sE16)).same (same_new hq (.lst (xe.take A.length)))
      rw [eAB, List.take_left'  rfl] at this
      exact this
    refine gn ?_
    walk_at "ss"
    refine ⟨small (by simp), fun q1 hq1 => ?_⟩
    have s1' := same_new hq1 (.lst [.ref bg])
    have sJ := (sA16.trans sq).trans s1'
    have raJ := ra.same s1'
    have eqJ := s1' _ _ (upd_same (H := H16) (a := q) (o := .lst (cutV xe none (some ((A.length : Nat) : Int)))))
    have eaJ := sJ _ _ ea
    have rvJ := rv.same sJ
    have ebgJ := (sq.trans s1') _ _ ebg
    have L10J := L10'.same ((s15.trans s16).trans (sq.trans s1'))
    have hLJ := (hL3.same s415).same (s16.trans (sq.trans s1'))
    have xl : xs.length ≤ 64 := by rw [rv.len]; exact ok.len
    have e1J : (upd (upd H16 q (.lst (cutV xe none (some ((A.length : Nat) : Int))))) q1 (.lst [.ref bg])) q1 = some (.lst [.ref bg]) := upd_same
    revert eqJ eaJ rvJ ebgJ L10J hLJ e1J raJ sJ
    generalize (upd (upd H16 q (.lst (cutV xe none (some ((A.length : Nat) : Int))))) q1 (.lst [.ref bg])) = J
    intro sJ raJ eqJ eaJ rvJ ebgJ L10J hLJ e1J
    walk_at "ss"
    refine ⟨⟨_, SqL.of eaJ⟩, fun D2 hD2 => ?_⟩
    refine lc_filter (fun r => !decide (r ∈ A)) hD2 eaJ rvJ (by omega) (fun _ => rfl) (fun _ => rfl) (fun r hr b H17 s17 eb N hN => ?_) (fun H17 zs s17 eD2 rz => ?_)
    · walk_at "ss"
      refine ⟨_, _, dp_row eb, .lst (SqL.of (s17 _ _ eqJ)) (dpRows (raJ.same s17)), shRow _, shRowsL _, ?_⟩
      refine ⟨_, rfl, ?_⟩
      rw [inD_rows]
      exact hN _ (Same.refl _)
    have zl : zs.length ≤ 64 := by
      rw [rz.len]
      exact Nat.le_trans (List.length_filter_le _ _) ok.len
    walk_at "ss"
    refine ⟨q1, D2, [.ref bg], zs, rfl, rfl, s17 _ _ e1J, eD2, small (by simp; omega), fun q2 hq2 => ?_⟩
    have s18 := same_new hq2 (.lst ([.ref bg] ++ zs))
    have s178 := s17.trans s18
    have r2 : RowsV (upd H17 q2 (.lst ([.ref bg] ++ zs))) ([.ref bg] ++ zs) (g :: rs.filter fun r => !decide (r ∈ A)) := .cons ⟨bg, rfl, s178 _ _ ebgJ⟩ (rz.same s18)
    walk_at "ss"
    refine ⟨q2, _, rowOf (upd H17 q2 (.lst ([.ref bg] ++ zs))), rfl, SqL.of upd_same, fun x hx => ⟨?_, ?_⟩, fun ys2 q3 hs2 hp2 hq3 => ?_⟩
    · obtain ⟨⟨t', e1', e2'⟩, _⟩ := rows_mem r2 x hx
      exact ⟨t', e1', SqT.of e2'⟩
    · intro z
      have hm := (rows_mem r2 x hx).2
      rw [z] at hm
      have : ([] : List Int).length = n := by
        rcases List.mem_cons.mp hm with k | k
        · rw [k]; exact grow.1
        · exact (ok.row _ (List.mem_filter.mp k).1).1
      have n1 := ok.n1
      rw [← this] at n1
      exact absurd n1 (by decide)
    have r3 := rows_sorted r2 hs2 hp2.perm
    rw [esort] at r3
    have s19 := same_new hq3 (.lst ys2)
    have s179 := s178.trans s19
    have r3' := r3.same s19
    have L10K := L10J.same s179
    have hLK := hLJ.same s179
    have eaK := s179 _ _ eaJ
    have rvK := rvJ.same s179
    have ebgK := s179 _ _ ebgJ
    have sK := sJ.trans s179
    have e3K : (upd (upd H17 q2 (.lst ([.ref bg] ++ zs))) q3 (.lst ys2)) q3 = some (.lst ys2) := upd_same
    revert r3' L10K hLK eaK rvK ebgK sK e3K
    generalize (upd (upd H17 q2 (.lst ([.ref bg] ++ zs))) q3 (.lst ys2)) = J2
    intro r3' L10K hLK eaK rvK ebgK sK e3K
    obtain ⟨dx1, t1, d1, ts1, f1, f2, f3, f4⟩ := id L10K
    walk_at "ss"
    refine ⟨p10, dx1, _, rfl, f1, p10, n, _, rfl, L10K, fun tr xr etr rvr => ?_⟩
    walk_at "ss"
    refine ⟨tr, xr, rfl, .inr (SqT.of etr), fun q4 hq4 => ?_⟩
    have s20 := same_new hq4 (.lst xr)
    walk_at "ss"
    refine ⟨_, _, .lst (SqL.of (s20 _ _ e3K)) (dpRows (r3'.same s20)), .lst (SqL.of upd_same) (dpRows (rvr.same s20)), shRowsL _, shRowsL _, ?_⟩
    rw [show PyData.eqv (.list (dRows (bitsOf (numL n rs + 1) (rowsN n)))) (.list (dRows (bitsOf (numL n rs + 1) (rowsN n)))) = true by
      simp only [PyData.eqv]
      rw [eqvRows]
      exact decide_eq_true rfl]
    walk_at "ss"
    refine ⟨l, n, rs, rfl, hLK.same s20, ok, fun H21 p21 s21 n21 L21 => ?_⟩
    walk_at "ss"
    refine .inl ⟨p21, n, _, rfl, L21, lotOk_sub ok.n1 ok.n6 List.filter_sublist, fun H22 s22 => ?_⟩
    rw [num_rest]
    have sL := (s20.trans s21).trans s22
    walk_at "ss"
    refine if_t (decide_eq_true rfl) ?_
    walk_at "ss"
    refine ⟨small (by simp), fun q5 hq5 => ?_⟩
    have s23 := same_new hq5 (.lst [.ref bg])
    have sM := sL.trans s23
    refine ⟨a, q5, _, _, rfl, rfl, sM _ _ eaK, upd_same, small (by simp; omega), fun q6 hq6 => ?_⟩
    have s24 := same_new hq6 (.lst (xs ++ [.ref bg]))
    have sN := sM.trans s24
    have gnd : (rs ++ [g]).Nodup := List.nodup_append.mpr ⟨ok.nd, List.nodup_cons.mpr ⟨by simp, .nil⟩, fun x hx y hy e => gn' (by rw [List.mem_singleton.mp hy] at e; rw [← e]; exact hx)⟩
    have grows : ∀ r ∈ rs ++ [g], IsRow n r := fun r hr => by
      rcases List.mem_append.mp hr with k | k
      · exact ok.row r k
      · rw [List.mem_singleton.mp k]; exact grow
    walk_at "ss"
    intro x2 dx2 hx2 hd2 hne2
    refine make_lot2 hx2 hd2 hne2 upd_same (RowsV.append (rvK.same sN) (.cons ⟨bg, rfl, sN _ _ ebgK⟩ .nil)) grows gnd ok.n1 ok.n6 (fun H25 s25 L25 => ⟨rfl, ?_⟩)
    have ok3 : LotOk n (sortR (rs ++ [g])) := by
      rw [sortR_filter grows gnd]
      exact lotOk_sub ok.n1 ok.n6 List.filter_sublist
    walk_at "ss"
    refine .inl ⟨x2, n, _, rfl, L25, ok3, fun H26 s26 => ?_⟩
    rw [num_one gn']
    have sO := (sN.trans s25).trans s26
    walk_at "ss"
    refine ⟨small (by simp), fun q7 hq7 => ?_⟩
    have s27 := same_new hq7 (.lst [.ref bg])
    walk_at "ss"
    refine ⟨n, q7, [.ref bg], [g], rfl, ok.n6, upd_same, .cons ⟨bg, rfl, (sO.trans s27) _ _ ebgK⟩ .nil, fun H28 s28 => ?_⟩
    walk_at "ss"
    have fin := h H28 ((sK.trans (sO.trans s27)).trans s28)
    rw [← (decide_eq_true rfl : decide (V.int (numL n rs + numL n [g]) = V.int (numL n rs + numL n [g])) = true)] at fin
    exact fin
end
end KK
/-! N3: turned rows, lots beside one another: numbers. -/
namespace KK
open PySem PySem.Spec PyProof.Rows L2 LamX Cov
theorem flipI_lt (k : Nat) : ∀ (i : Nat) (r : List Int), i + r.length ≤ k → flipI (k : Int) i r = r
  | _, [], _ => rfl
  | i, x :: r, h => by
    have h' : i + (r.length + 1) ≤ k := h
    show (if (i : Int) = (k : Int) then 1 - x else x) :: flipI (k : Int) (i + 1) r = x :: r
    rw [if_neg (by omega), flipI_lt k (i + 1) r (by omega)]
theorem flip_last {q : List Int} {x : Int} {k : Nat} (h : q.length = k) : flipAt (k : Int) (q ++ [x]) = q ++ [1 - x] := by
  show flipI (k : Int) 0 (q ++ [x]) = _
  rw [flipI_snoc, flipI_lt k 0 q (by omega), if_pos (by omega)]
theorem numL_sort (n : Nat) (rs : List (List Int)) : numL n (sortR rs) = numL n rs := numP_congr fun r _ => by rw [decide_eq_decide, (sortR_perm rs).mem_iff]
theorem num_heads (n : Nat) (p : List Int → Bool) : numP p (rowsN (1 + n)) = numP (fun r => p (0 :: r)) (rowsN n) + 2 ^ 2 ^ n * numP (fun r => p (1 :: r)) (rowsN n) := by
  rw [Nat.add_comm, rowsN_heads, numP_app, numP_map, numP_map, List.length_map, rowsN_len]
theorem numP_none : ∀ {p : List Int → Bool} {l : List (List Int)}, (∀ r ∈ l, p r = false) → numP p l = 0
  | _, [], _ => rfl
  | p, r :: l, h => by
    show (if p r = true then 1 else 0) + 2 * numP p l = 0
    rw [h r List.mem_cons_self, numP_none fun x hx => h x (List.mem_cons_of_mem _ hx)]
    rfl
theorem bes_one (n : Nat) (rs : List (List Int)) : numL (1 + n) (besR [[0]] rs) = numL n rs := by
  have e : besR [[0]] rs = rs.map (0 :: ·) := by simp [besR]
  unfold numL
  rw [num_heads, e]
  have h1 : numP (fun r => decide (1 :: r ∈ rs.map (0 :: ·))) (rowsN n) = 0 := numP_none fun r _ => decide_eq_false fun k => by
    obtain ⟨a, _, h⟩ := List.mem_map.mp k
    have := (List.cons.inj h).1
    omega
  rw [h1, Int.mul_zero, Int.add_zero]
  refine numP_congr fun r _ => ?_
  rw [decide_eq_decide, List.mem_map]
  exact ⟨fun ⟨a, h, e⟩ => by rw [← (List.cons.inj e).2]; exact h, fun h => ⟨r, h, rfl⟩⟩
theorem bes_two (n : Nat) (rs : List (List Int)) : numL (1 + n) (besR [[0], [1]] rs) = numL n rs * (1 + 2 ^ 2 ^ n) := by
  have e : besR [[0], [1]] rs = rs.map (0 :: ·) ++ rs.map (1 :: ·) := by simp [besR]
  unfold numL
  rw [num_heads, e]
  have key : ∀ c : Int, (c = 0 ∨ c = 1) → numP (fun r => decide (c :: r ∈ rs.map (0 :: ·) ++ rs.map (1 :: ·))) (rowsN n) = numP (fun r => decide (r ∈ rs)) (rowsN n) := fun c hc => numP_congr fun r _ => by
    rw [decide_eq_decide, List.mem_append, List.mem_map, List.mem_map]
    refine ⟨fun h => ?_, fun h => ?_⟩
    · rcases h with ⟨a, h, e⟩ | ⟨a, h, e⟩ <;> (rw [← (List.cons.inj e).2]; exact h)
    · rcases hc with rfl | rfl
      · exact .inl ⟨r, h, rfl⟩
      · exact .inr ⟨r, h, rfl⟩
  rw [key 0 (.inl rfl), key 1 (.inr rfl), Int.mul_add, Int.mul_one, Int.mul_comm (2 ^ 2 ^ n)]
theorem lotOk_sort {n : Nat} (h1 : 1 ≤ n) (h6 : n ≤ 6) {rs : List (List Int)} (hr : ∀ r ∈ rs, IsRow n r) (hn : rs.Nodup) : LotOk n (sortR rs) := by
  rw [sortR_filter hr hn]
  exact lotOk_sub h1 h6 List.filter_sublist
theorem isLot_ext {T : List (Addr × Str)} {st g c C a : Addr} {B n : Nat} {rs : List (List Int)} {H H' : Hp} (S : Stt st g c B H) (x : Ext T (Fs st g) H H') (h : IsLot C H a n rs) : IsLot C H' a n rs := by
  obtain ⟨dx, t, d, vs, h1, h2, h3, h4⟩ := h
  obtain ⟨_, ⟨_, _, _, a1⟩, ⟨_, a2⟩, _⟩ := S
  have nf : ∀ b o, H b = some o → (∀ kv, o ≠ .dK kv) → (∀ xs, o ≠ .lst xs) → ¬ Fs st g b := fun b o e n1 n2 z => z.elim (fun z => by rw [z, a1] at e; exact n1 _ (Option.some.inj e).symm) (fun z => by rw [z, a2] at e; exact n2 _ (Option.some.inj e).symm)
  exact ⟨dx, t, d, vs, x.keep _ _ h1 (nf _ _ h1 (fun _ z => by cases z) (fun _ z => by cases z)) (fun _ z => by cases z), x.tups _ _ h2, h3.tups x.tups, x.keep _ _ h4 (nf _ _ h4 (fun _ z => by cases z) (fun _ z => by cases z)) (fun _ z => by cases z)⟩
end KK
/-! W8: _law_made_right. -/
namespace KK
open PySem PySem.Spec PyProof.Rows L2 LamX Cov
/-- one step of a reading -/
local macro_rules | `(tactic| walk_at "s") => `(tactic| first | refine ⟨_, rfl, ?_⟩ | refine ⟨_, _, rfl, rfl, ?_⟩ | refine ⟨rfl, ?_⟩ | refine ⟨⟨_, rfl⟩, ?_⟩)
local macro_rules | `(tactic| walk_at "ss") => `(tactic| repeat walk_at "s")
section
variable {P : Program} {w : World} {K : PySem.W.Frag} {mg : Str → Option Value} {base : Heap} {T : List (Addr × Str)}
variable {C fI pP gP pR gR fH fM fE : Addr}
variable {CN CB CP fln fla fnx frl ffl fbs frw fnu fmy : Addr} {dI dP dR dM dE dln dla dnx drl dfl dbs drw dnu dmy : FuncData}
variable {f_law_draw f_law_lot : Addr} {fdD fdL : FuncData}
theorem sIx_neg (L d : Nat) : HT.sIx L d (some (-1)) = ((-1 : Int) + (L : Int)).toNat := by
  show (if (-1 : Int) < 0 then ((-1 : Int) + (L : Int)).toNat else min (-1 : Int).toNat L) = _
  rw [if_pos (by omega)]
theorem cut_last (q : List Int) (y : Int) : cutV ((q ++ [y]).map V.int) none (some (-1)) = q.map V.int := by
  unfold cutV
  rw [sIx_neg]
  show (((q ++ [y]).map V.int).drop 0).take (((-1 : Int) + (((q ++ [y]).map V.int).length : Int)).toNat - 0) = _
  rw [List.drop_zero, List.length_map, List.length_append, List.length_singleton, Nat.sub_zero, show ((-1 : Int) + ((q.length + 1 : Nat) : Int)).toNat = q.length by omega, List.map_append, List.take_left' (List.length_map _)]
theorem sc_law_made_right : FnScope ["state", "places", "rows", "lot", "turned", "one", "number", "row"] ["state", "places", "rows"] (defScope s_law_made_right) := ⟨rfl, rfl, rfl, by decide +kernel, rfl, by decide +kernel, by decide +kernel⟩
def spMR (T : List (Addr × Str)) : Sp := fun vs H Q _ => ∃ (st g c a : Addr) (B n : Nat) (xs : List V) (rs : List (List Int)), vs = [.ref st, .int n, .ref a] ∧ Stt st g c B H ∧ B + 2000 ≤ 2 ^ 40 ∧ 2 ≤ n ∧ LotOk n rs ∧ Li (Fs st g) H a xs ∧ RowsV H xs rs ∧
  ∀ H', Ext T (Fs st g) H H' → Stt st g c (B + 600) H' → Q (.bl true) H'
theorem ok_law_made_right {f : Addr} {fd : FuncData} (F : FnP K "_law_made_right" s_law_made_right f fd) (Z : Zs mg) (X : LF P w K mg base C CN CB CP fI pP gP pR gR fH fM fE fln fla fnx frl ffl fbs frw fnu fmy dI dP dR dM dE dln dla dnx drl dfl dbs drw dnu dmy)
    (G_law_draw : FnOk P w K mg base (L2.CX P w) 2 f_law_draw fdD ["state", "size"] (spDr T)) (M_law_draw : Dat K mg "_law_draw" f_law_draw fdD ["state", "size"])
    (G_law_lot : FnOk P w K mg base (L2.CX P w) 4 f_law_lot fdL ["state", "places"] (spLot T)) (M_law_lot : Dat K mg "_law_lot" f_law_lot fdL ["state", "places"]) :
    FnOk P w K mg base (L2.CX P w) 10 f fd ["state", "places", "rows"] (spMR T) := by
  have LC := X.LC
  have g_Lot := LC.g
  have GLot___init__ := X.GI
  have BLot___init__ := X.BI
  have GLot_places := X.GP
  have BLot_places := X.BP
  have GLot_rows := X.GR
  have BLot_rows := X.BR
  have GLot___eq__ := X.GE
  have BLot___eq__ := X.BE
  have Glot_number := X.Gln
  have Mlot_number := X.Mln
  have KBlot_number := X.KBln
  have Glot_at := X.Gla
  have Mlot_at := X.Mla
  have KBlot_at := X.KBla
  have Gnext_lot := X.Gnx
  have Mnext_lot := X.Mnx
  have KBnext_lot := X.KBnx
  have Grest_lot := X.Grl
  have Mrest_lot := X.Mrl
  have G_law_rows := X.Grw
  have M_law_rows := X.Mrw
  have G_law_number := X.Gnu
  have M_law_number := X.Mnu
  have G_law_many := X.Gmy
  have M_law_many := X.Mmy
  have GLot_many := X.GM
  have BLot_many := X.BM
  have Gflipped_lot := X.Gfl
  have Mflipped_lot := X.Mfl
  have Gbeside := X.Gbs
  have Mbeside := X.Mbs
  refine F.ok sc_law_made_right (fun vs H Q E h => ?_) (fun cdv A outer s H vs Q E hr h => ?_)
  · obtain ⟨_, _, _, _, _, _, _, _, rfl, _⟩ := h
    rfl
  obtain ⟨st, g, c, a, B, n, xs, rs, rfl, S0, hB, h2, ok, la, rv, h⟩ := h
  refine ⟨_, (pss_cons (ps_set (i := 3) sc_law_made_right.nd rfl (Or.inl rfl) (pe_make LC.mkk GLot___init__ (hr.mono (by omega)) (by rfl) g_Lot BLot___init__ .nil passL (pa_cons (pv 1) (pa_cons (pv 2) pa_nil))))
    (pss_cons (ps_setLc (i := 4) (own := [("row", 7)]) (g := gName 7) (tt := tYes) rfl sc_law_made_right.nd rfl rfl (sw_true rfl rfl rfl (by decide +kernel)) (pi_list (pv 2)) (blkOk_by (own := [("row", 7)]) (N := ["state", "places", "rows", "lot", "turned", "one", "number", "row"]) (sc := defScope s_law_made_right) (by decide +kernel)) (fun _ _ _ _ _ => pg_name (i := 7) sc_law_made_right.nd rfl (by first | exact Or.inl rfl | exact Or.inr rfl)) (fun _ _ _ _ _ => pts_nil) (fun _ _ _ _ _ => (pe_op (op_catAK K rfl) (pe_slice (sl_tupK K rfl) (pv 7) po_none (po_some (pe_un un_neg pe_int))) (pe_tup (pa_cons (pe_op op_sub pe_int (pe_ix (ix_tupK K rfl) (pv 7) (pe_un un_neg pe_int) (fun _ _ => rfl))) pa_nil)))))
    (pss_cons (ps_if (pt_cmpR op_ne (pe_fx Glot_number Mlot_number (hr.mono (by omega)) (takes_of rfl rfl rfl rfl) (pa_cons (pe_fn Gflipped_lot Mflipped_lot (hr.mono (by omega)) (pa_cons (pv 3) (pa_cons (pe_tup (pa_cons (pe_op op_sub (pv 1) pe_int) pa_nil)) pa_nil))) pa_nil)) (pe_fn G_law_number M_law_number (hr.mono (by omega)) (pa_cons (pv 1) (pa_cons (pv 4) pa_nil))) (nomark _)) (pss_one (ps_ret pe_bl)) pss_nil)
    (pss_cons (ps_set (i := 5) sc_law_made_right.nd rfl (Or.inl rfl) (pe_ifExp (pt_cmpR op_eq (pe_fn G_law_draw M_law_draw (hr.mono (by omega)) (pa_cons (pv 0) (pa_cons pe_int pa_nil))) pe_int (nomark _)) (pe_make LC.mkk GLot___init__ (hr.mono (by omega)) (by rfl) g_Lot BLot___init__ .nil passL (pa_cons pe_int (pa_cons (pe_lst (pa_cons (pe_tup (pa_cons pe_int pa_nil)) pa_nil)) pa_nil))) (pe_make LC.mkk GLot___init__ (hr.mono (by omega)) (by rfl) g_Lot BLot___init__ .nil passL (pa_cons pe_int (pa_cons (pe_lst (pa_cons (pe_tup (pa_cons pe_int pa_nil)) (pa_cons (pe_tup (pa_cons pe_int pa_nil)) pa_nil))) pa_nil)))))
    (pss_cons (ps_if (PW.pt (pw_and (pt_cmpR op_lt (pv 1) pe_int (nomark _)) (pw_and1 (pt_cmpR op_ne (pe_fx Glot_number Mlot_number (hr.mono (by omega)) (takes_of rfl rfl rfl rfl) (pa_cons (pe_fn Gbeside Mbeside (hr.mono (by omega)) (pa_cons (pv 5) (pa_cons (pv 3) pa_nil))) pa_nil)) (pe_op op_mul (pe_fx Glot_number Mlot_number (hr.mono (by omega)) (takes_of rfl rfl rfl rfl) (pa_cons (pv 3) pa_nil)) (pe_ifExp (pt_cmpR op_eq (pe_meth0 (pv 5) LC.cls LC.m_many GLot_many (hr.mono (by omega)) BLot_many .nil passL) pe_int (nomark _)) pe_int (pe_op op_add pe_int (pe_fn G_law_many M_law_many (hr.mono (by omega)) (pa_cons (pv 1) pa_nil))))) (nomark _))))) (pss_one (ps_ret pe_bl)) pss_nil)
    (pss_cons (ps_set (i := 6) sc_law_made_right.nd rfl (Or.inl rfl) (pe_fn G_law_number M_law_number (hr.mono (by omega)) (pa_cons (pv 1) (pa_cons (pe_fn G_law_lot M_law_lot (hr.mono (by omega)) (pa_cons (pv 0) (pa_cons (pv 1) pa_nil))) pa_nil))))
    (pss_one (ps_ret (pe_cmpR op_eq (pe_fx Glot_number Mlot_number (hr.mono (by omega)) (takes_of rfl rfl rfl rfl) (pa_cons (pe_fx Glot_at Mlot_at (hr.mono (by omega)) (takes_of rfl rfl rfl rfl) (pa_cons (pv 1) (pa_cons (pv 6) pa_nil))) pa_nil)) (pv 6) (nomark _)))))))))), ?_⟩
  walk_at "ss"
  intro x dx hx hd hne
  refine make_lot2 hx hd hne la.1 rv ok.row ok.nd ok.n1 ok.n6 (fun H1 s1 hL1 => ⟨rfl, ?_⟩)
  revert hx hL1
  generalize x = l
  intro nl hL1
  rw [sortR_id ok.srt] at hL1
  walk_at "ss"
  have la1 := la.ext (Ext.same (T := T) s1)
  have rv1 := rv.same s1
  have xl : xs.length ≤ 64 := by rw [rv.len]; exact ok.len
  have n1 := ok.n1
  have n6 := ok.n6
  refine ⟨⟨_, la1.sq⟩, fun D hD => ?_⟩
  have nn : ((n - 1 : Nat) : Int) = (n : Int) - 1 := by omega
  refine lc_it walk_list (fun i H' => Same H1 H' ∧ ∃ zs, H' D = some (.lst zs) ∧ RowsV H' zs ((rs.take i).map (flipAt ((n - 1 : Nat) : Int)))) ⟨same_new hD _, [], upd_same, .nil⟩ (fun i H' _ hv => SqL.of (hv.1 _ _ la1.1)) (fun i x H' H'' hi hv hy => ?_) (fun H' hv => ?_)
  · obtain ⟨s3, zs, eD, rz⟩ := hv
    obtain ⟨rfl, ex⟩ := hy
    obtain ⟨r, hr2, b, rfl, eb⟩ := L2.paired_get (rv1.same s3) ex
    have hrm := List.mem_of_getElem? hr2
    have lr := (ok.row r hrm).1
    have htk : (rs.take (i + 1)).map (flipAt ((n - 1 : Nat) : Int)) = (rs.take i).map (flipAt ((n - 1 : Nat) : Int)) ++ [flipAt ((n - 1 : Nat) : Int) r] := by
      rw [List.take_add_one, hr2, List.map_append]
      rfl
    have zl : zs.length ≤ 64 := by
      rw [rz.len, List.length_map, List.length_take]
      omega
    obtain ⟨q, y, rfl, lq⟩ := snoc_of r (n - 1) (by omega)
    rw [flip_last lq] at htk
    have hcut := cut_last q y
    walk_at "ss"
    refine ⟨b, _, rfl, SqT.of eb, fun z => ?_, fun p1 hp1 => ?_⟩
    · have z2 := z.2
      rw [List.length_map, List.length_append, List.length_singleton] at z2
      rw [sIx_neg] at z2
      omega
    rw [hcut]
    have sp1 := same_new hp1 (.tup (q.map V.int))
    walk_at "ss"
    refine ⟨b, _, _, _, rfl, rfl, SqT.of (sp1 _ _ eb), (by rw [List.map_append]; exact atI_last _ _), ?_⟩
    walk_at "ss"
    refine ⟨small (by simp), fun t ht => ?_⟩
    have st' := same_new ht (.tup [.int (1 - y)])
    refine cat_row (r := q) (c := 1 - y) (st' _ _ upd_same) upd_same (by omega) fun H5 u s5 e5 => ?_
    have s45 := (sp1.trans st').trans s5
    refine ⟨zs, s45 _ _ eD, smallt (by omega), same_over hD (s3.trans s45) _, zs ++ [.ref u], upd_same, ?_⟩
    rw [htk]
    have kp : ∀ b' ys, H5 b' = some (.tup ys) → upd H5 D (.lst (zs ++ [.ref u])) b' = some (.tup ys) := fun b' ys e => tup_upd (s45 _ _ eD) (fun _ z => by cases z) e
    exact RowsV.append (rz.tups fun b' ys e => kp b' ys (s45 _ _ e)) (.cons ⟨u, rfl, kp _ _ e5⟩ .nil)
  obtain ⟨s3, zs, eD, rz⟩ := hv
  rw [rv1.len, List.take_length] at rz
  refine gn ?_
  have s13 := s1.trans s3
  have hL3 := hL1.same s3
  walk_at "ss"
  refine ⟨small (by simp), fun t ht => ?_⟩
  have st' := same_new ht (.tup [.int ((n : Int) - 1)])
  walk_at "ss"
  refine ⟨l, t, n, rs, (n : Int) - 1, rfl, hL3.same st', ok, upd_same, by omega, by omega, fun H5 p5 s5 n5 L5 => ?_⟩
  rw [← nn] at L5
  have frow : ∀ r ∈ rs.map (flipAt ((n - 1 : Nat) : Int)), IsRow n r := fun r hr => by
    obtain ⟨q, hq, rfl⟩ := List.mem_map.mp hr
    exact flipAt_row (ok.row q hq)
  have fnd := nodup_map_flip (k := ((n - 1 : Nat) : Int)) ok.nd
  walk_at "ss"
  refine .inl ⟨p5, n, _, rfl, L5, lotOk_sort n1 n6 frow fnd, fun H6 s6 => ?_⟩
  have s36 := (st'.trans s5).trans s6
  walk_at "ss"
  refine ⟨n, D, zs, _, rfl, n6, s36 _ _ eD, rz.same s36, fun H7 s7 => ?_⟩
  have s37 := s36.trans s7
  rw [numL_sort]
  walk_at "ss"
  refine if_f (nd_self _) ?_
  have s17 := s13.trans s37
  have hL7 := hL3.same s37
  have S7 := S0.same s17
  refine tn ?_
  dsimp only
  refine seq_by (fun σ' H' => ∃ (o : Addr) (qs : List (List Int)), σ' = [some (.ref st), some (.int n), some (.ref a), some (.ref l), some (.ref D), some (.ref o), none, none] ∧ Ext T (Fs st g) H H' ∧ Stt st g c (B + 1) H' ∧ IsLot C H' l n rs ∧ IsLot C H' o 1 qs ∧ (qs = [[0]] ∨ qs = [[0], [1]])) (fun N hN => ?_) (fun σ' H1' hm => ?_)
  · walk_at "ss"
    refine ⟨st, g, c, B, 2, rfl, by omega, by omega, S7, by omega, fun H8 k8 hk8 x8 S8 => ?_⟩
    have xx8 : Ext T (Fs st g) H H8 := (Ext.same s17).trans x8
    have hL8 := isLot_ext S7 x8 hL7
    walk_at "ss"
    refine ite2 (fun _ => ?_) (fun _ => ?_)
    · walk_at "ss"
      refine ⟨small (by simp), fun t0 ht0 => ?_⟩
      have u0 := same_new ht0 (.tup [.int 0])
      refine ⟨small (by simp), fun q0 hq0 => ?_⟩
      have u1 := same_new hq0 (.lst [.ref t0])
      walk_at "ss"
      intro x dx hx hd hne
      refine make_lot2 (n := 1) (rs := [[0]]) hx hd hne upd_same (.cons ⟨t0, rfl, u1 _ _ upd_same⟩ .nil) (fun r hr => by rw [List.mem_singleton.mp hr]; exact rowsN_row 1 [0] (by decide)) (by decide) (by omega) (by omega) (fun H9 s9 L9 => ⟨rfl, ?_⟩)
      have s89 := (u0.trans u1).trans s9
      refine gn ?_
      exact hN _ _ ⟨x, [[0]], rfl, xx8.trans (Ext.same s89), S8.same s89, hL8.same s89, L9, .inl rfl⟩
    · walk_at "ss"
      refine ⟨small (by simp), fun t0 ht0 => ?_⟩
      have u0 := same_new ht0 (.tup [.int 0])
      refine ⟨small (by simp), fun t1 ht1 => ?_⟩
      have u1 := same_new ht1 (.tup [.int 1])
      refine ⟨small (by simp), fun q0 hq0 => ?_⟩
      have u2 := same_new hq0 (.lst [.ref t0, .ref t1])
      walk_at "ss"
      intro x dx hx hd hne
      refine make_lot2 (n := 1) (rs := [[0], [1]]) hx hd hne upd_same (.cons ⟨t0, rfl, u2 _ _ (u1 _ _ upd_same)⟩ (.cons ⟨t1, rfl, u2 _ _ upd_same⟩ .nil)) (fun r hr => rowsN_row 1 r (by simpa [rowsN] using hr)) (by decide) (by omega) (by omega) (fun H9 s9 L9 => ⟨rfl, ?_⟩)
      have s89 := ((u0.trans u1).trans u2).trans s9
      refine gn ?_
      exact hN _ _ ⟨x, [[0], [1]], rfl, xx8.trans (Ext.same s89), S8.same s89, hL8.same s89, L9, .inr rfl⟩
  · obtain ⟨o, qs, rfl, xx, S1, hLl, hLo, hqs⟩ := hm
    have okq : LotOk 1 qs := by
      rcases hqs with rfl | rfl
      · exact lotOk_sub (by omega) (by omega) (show [[0]].Sublist [[0], [1]] from .cons₂ _ (.cons _ .slnil))
      · exact lotOk_sub (by omega) (by omega) (List.Sublist.refl (rowsN 1))
    refine seq_by (fun σ' H' => σ' = [some (.ref st), some (.int n), some (.ref a), some (.ref l), some (.ref D), some (.ref o), none, none] ∧ Same H1' H') (fun N hN => ?_) (fun σ' H2 hm2 => ?_)
    · walk_at "ss"
      refine ite2 (fun c6 => ?_) (fun _ => if_f rfl (hN _ _ ⟨rfl, Same.refl _⟩))
      have n5 : n ≤ 5 := by
        have := of_decide_eq_true c6
        omega
      obtain ⟨dxo, to, do', tso, g1, g2, g3, g4⟩ := id hLo
      walk_at "ss"
      refine ⟨o, l, 1, n, qs, rs, rfl, hLo, hLl, okq, ok, by omega, fun H3 p3 s3 n3 L3 => ?_⟩
      walk_at "ss"
      refine .inl ⟨p3, 1 + n, _, rfl, L3, lotOk_sort (by omega) (by omega) (besR_row okq.row ok.row) (besR_nd okq.row okq.nd ok.nd), fun H4 s4 => ?_⟩
      rw [numL_sort]
      have s34 := s3.trans s4
      walk_at "ss"
      refine .inl ⟨l, n, rs, rfl, hLl.same s34, ok, fun H5 s5 => ?_⟩
      have s35 := s34.trans s5
      obtain ⟨m0, m1⟩ := numL_lt n rs
      walk_at "ss"
      refine ⟨o, dxo, _, rfl, s35 _ _ g1, rfl, ?_⟩
      walk_at "ss"
      refine ⟨o, 1, qs, rfl, hLo.same s35, ?_⟩
      walk_at "ss"
      rcases hqs with rfl | rfl
      · refine if_t (decide_eq_true rfl) ?_
        rw [bes_one]
        walk_at "ss"
        refine ⟨.inr ⟨by omega, by omega⟩, ?_⟩
        refine ⟨rfl, _, rfl, if_f ?_ (hN _ _ ⟨rfl, s35⟩)⟩
        show (!decide (V.int (numL n rs) = V.int (numL n rs * 1))) = false
        rw [Int.mul_one]
        exact nd_self _
      · refine if_f (decide_eq_false (fun z => by cases z)) ?_
        rw [bes_two]
        walk_at "ss"
        refine ⟨n6, fun H6 s6 => ?_⟩
        walk_at "ss"
        have big : (2 : Int) ^ 2 ^ n ≤ 2 ^ 32 := by
          have : 2 ^ n ≤ 32 := Nat.le_trans (Nat.pow_le_pow_right (by omega) n5) (by decide)
          exact_mod_cast Nat.pow_le_pow_right (n := 2) (by omega) this
        refine ⟨.inl ⟨by omega, by omega⟩, ?_⟩
        exact ⟨rfl, _, rfl, if_f (nd_self _) (hN _ _ ⟨rfl, s35.trans s6⟩)⟩
    · obtain ⟨rfl, s2⟩ := hm2
      walk_at "ss"
      refine ⟨st, g, c, B + 1, n, rfl, S1.same s2, by omega, h2, n6, fun H3 p3 xs3 rs3 ok3 x3 S3 l3 r3 => ?_⟩
      walk_at "ss"
      refine ⟨n, p3, xs3, rs3, rfl, n6, l3.1, r3, fun H4 s4 => ?_⟩
      obtain ⟨m0, m1⟩ := numL_lt n rs3
      refine gn ?_
      walk_at "ss"
      refine ⟨_, _, rfl, .inl ⟨n, rfl, n1, n6, .inl ⟨_, rfl, m0, m1, fun H5 p5 s5 n5 L5 => ?_⟩⟩⟩
      walk_at "ss"
      refine .inl ⟨p5, n, _, rfl, L5, lotOk_sub n1 n6 (bitsOf_sub _ _), fun H6 s6 => ?_⟩
      rw [num_of_bits m0 m1]
      have s46 := (s4.trans s5).trans s6
      walk_at "ss"
      have fin := h H6 (((xx.trans (Ext.same s2)).trans x3).trans (Ext.same s46)) ((S3.same s46).mono (by omega))
      rw [← (decide_eq_true rfl : decide (V.int (numL n rs3) = V.int (numL n rs3)) = true)] at fin
      exact fin
end
end KK
/-! G7: a captured name that holds one of two defs, called where what is raised is told; exceptions in comprehensions. -/
namespace KK
open PySem PySem.Spec PyProof.Rows L2 LamX Cov
def tCVS (i : Nat) (f1 f2 : Addr) (sp1 sp2 : Sp) (E : L2.St → XK) (t : TA) : TE := fun σ H Q => (σ[i]? = some (some (.ref f1)) ∧ t σ H fun vs H1 => sp1 vs H1 Q (E σ)) ∨ (σ[i]? = some (some (.ref f2)) ∧ t σ H fun vs H1 => sp2 vs H1 Q (E σ))
theorem pe_cvS {X : Cx} {i k1 k2 : Nat} {f1 f2 : Addr} {fd1 fd2 : FuncData} {ps1 ps2 : List Str} {sp1 sp2 : Sp} {x x1 x2 : Str} {p pos : Pos} {e : Expr} {es : List Expr} {t : TA} {W : WX}
    (G1 : FnOk X.prog X.w X.K X.mg X.base (L2.CX X.prog X.w) k1 f1 fd1 ps1 sp1) (M1 : Dat X.K X.mg x1 f1 fd1 ps1) (G2 : FnOk X.prog X.w X.K X.mg X.base (L2.CX X.prog X.w) k2 f2 fd2 ps2 sp2) (M2 : Dat X.K X.mg x2 f2 fd2 ps2) (r1 : Room k1 X.A) (r2 : Room k2 X.A) (tk : Takes X W) (ha : PA X (e :: es) t)
    (hN : X.N[i]? = some x := by rfl) (hv : Vis X.env.scope x := by first | exact Or.inl rfl | exact Or.inr (Or.inl rfl) | exact Or.inr (Or.inr rfl)) (hd : (x == ("__debug__" : Str)) = false := by decide) (hcd : (x == ("__classdict__" : Str)) = false := by decide)
    (he : starEach (e :: es) X.env = (false, eval e X.env) :: starEach es X.env := by rfl) (hpl : (backTo pos (starEach es X.env)).any (·.1) = false := by rfl) :
    PE X (.Call (.Name x p) (e :: es) [] pos) (tCVS i f1 f2 sp1 sp2 (WE W) t) := by
  refine ⟨fun pins s σ H Q I h => ?_⟩
  have go : ∀ {k : Nat} {f : Addr} {fd : FuncData} {ps : List Str} {sp : Sp} {y : Str}, FnOk X.prog X.w X.K X.mg X.base (L2.CX X.prog X.w) k f fd ps sp → Dat X.K X.mg y f fd ps → Room k X.A → σ[i]? = some (some (.ref f)) → (t σ H fun vs H1 => sp vs H1 Q (WE W σ)) → wpAny (model X.prog X.w) X.A (eval (.Call (.Name x p) (e :: es) [] pos) X.env) (EP X pins σ Q) X.xe s := fun {k f fd ps sp y} G M r hs ht => by
    refine wpAny_Call_Name_kw (thn ((pe_var (pos := p) (i := i) hN hv hd hcd).run pins s σ H (fun v H1 => v = .ref f ∧ H1 = H) I ⟨.ref f, hs, rfl, rfl⟩) fun u s1 ⟨v, H1, I1, rv, ev, eH⟩ => ?_)
    subst ev
    rw [eH] at I1
    cases rv
    refine PySem.W.callWith_K (h₀ := X.base) I.ok.mod.kin M.k (thn (ha.run pos pins s1 σ H _ I1 ht) fun us s2 ⟨vs, H2, I2, r2, q⟩ => ⟨I2.kIn, ?_⟩) he hpl
    exact run_fnSD G r M.b .nil (passAt tk σ) I2 r2 (by rw [List.append_nil]; exact q)
  rcases h with ⟨h1, h2⟩ | ⟨h1, h2⟩
  · exact go G1 M1 r1 h1 h2
  · exact go G2 M2 r2 h1 h2
theorem call_isVK {X : Cx} (K : PySem.W.Frag) (h : X.K = K) : CallR X (.builtin "isinstance") (rIsV K) := h ▸ call_isV
theorem pe_vfK {X : Cx} (K : PySem.W.Frag) (h : X.K = K) {e : Expr} {te : TE} {pos : Pos} {n : Str} (he : PE X e te) (hb : attributeBase e n X.env (eval e X.env) = eval e X.env := by rfl) : PE X (.Attribute e n pos) (tVf K n te) := h ▸ pe_vf he hb
end KK
/-! W9: _law_lot_refused. -/
namespace KK
open PySem PySem.Spec PyProof.Rows L2 LamX Cov
/-- one step of a reading -/
local macro_rules | `(tactic| walk_at "s") => `(tactic| first | refine ⟨_, rfl, ?_⟩ | refine ⟨_, _, rfl, rfl, ?_⟩ | refine ⟨rfl, ?_⟩ | refine ⟨⟨_, rfl⟩, ?_⟩)
local macro_rules | `(tactic| walk_at "ss") => `(tactic| repeat walk_at "s")
section
variable {P : Program} {w : World} {K : PySem.W.Frag} {mg : Str → Option Value} {base : Heap} {T : List (Addr × Str)}
variable {C fI pP gP pR gR fH fM fE : Addr}
variable {CN CB CP CE fln fla fnx frl ffl fbs frw fnu fmy : Addr} {dI dP dR dM dE dln dla dnx drl dfl dbs drw dnu dmy : FuncData}
/-- the classes of errors -/
structure ExF (K : PySem.W.Frag) (mg : Str → Option Value) (CN CB CP CE : Addr) : Prop where
  gE : mg "LotError" = some (.ref CE)
  gN : mg "NoLot" = some (.ref CN)
  xN : ExcC K CN
  fN : XfC K CN
  nN : PySem.W.findIn K (.ref CN) "part" = some none
  mN : PySem.W.exmOne K (.ref CN) (.ref CE) = some true
  iN : PySem.W.kitOne K (.ref CN) (.ref CN) = some true
  gB : mg "BadNumber" = some (.ref CB)
  xB : ExcC K CB
  fB : XfC K CB
  nB : PySem.W.findIn K (.ref CB) "part" = some none
  mB : PySem.W.exmOne K (.ref CB) (.ref CE) = some true
  iB : PySem.W.kitOne K (.ref CB) (.ref CB) = some true
  gP : mg "BadPlaces" = some (.ref CP)
  xP : ExcC K CP
  mP : PySem.W.exmOne K (.ref CP) (.ref CE) = some true
  iP : PySem.W.kitOne K (.ref CP) (.ref CP) = some true
/-- work(None), work([(0,)]) -/
abbrev tL1 (C CN fln fnx : Addr) : XK → TE := fun E => tCVS 2 fln fnx (spLN C CN) (spNX C CN) (WE fun cls d _ H => E cls d H) (tCons (tC .non) tNil)
abbrev tL2 (C CN fln fnx : Addr) : XK → TE := fun E => tCVS 2 fln fnx (spLN C CN) (spNX C CN) (WE fun cls d _ H => E cls d H) (tCons (tLst (tCons (tTup (tCons (tC (.int 0)) tNil)) tNil)) tNil)
theorem sc_law_lot_refused : FnScope ["works", "caught", "work", "error"] ["works"] (defScope s_law_lot_refused) := ⟨rfl, rfl, rfl, by decide +kernel, rfl, by decide +kernel, by decide +kernel⟩
def spRef (T : List (Addr × Str)) (fln fnx : Addr) : Sp := fun vs H Q _ => ∃ a, vs = [.ref a] ∧ H a = some (.lst [.ref fln, .ref fnx]) ∧ Tabs T H ∧ ∀ H', Ext T (fun _ => False) H H' → Q (.bl true) H'
theorem ok_law_lot_refused {f c Pt f_law_caught : Addr} {fd fdC : FuncData} (F : FunC K "_law_lot_refused" s_law_lot_refused f fd c) (Z : Zs mg) (XF : ExF K mg CN CB CP CE) (X : LF P w K mg base C CN CB CP fI pP gP pR gR fH fM fE fln fla fnx frl ffl fbs frw fnu fmy dI dP dR dM dE dln dla dnx drl dfl dbs drw dnu dmy)
    (F_law_caught : FnP K "_law_caught" s_law_caught f_law_caught fdC) (M_law_caught : Dat K mg "_law_caught" f_law_caught fdC ["work"])
    (TB_law_lot_refused : TabB base mg c Pt) (hmT_law_lot_refused : (Pt, Str.ofString "_law_lot_refused.<locals>.<lambda>") ∈ T) (huT_law_lot_refused : ∀ p ∈ T, p.1 = Pt → p.2 = Str.ofString "_law_lot_refused.<locals>.<lambda>") :
    FnOk P w K mg base (L2.CX P w) 13 f fd ["works"] (spRef T fln fnx) := by
  have LC := X.LC
  have g_Lot := LC.g
  have GLot___init__ := X.GI
  have BLot___init__ := X.BI
  have GLot_places := X.GP
  have BLot_places := X.BP
  have GLot_rows := X.GR
  have BLot_rows := X.BR
  have GLot___eq__ := X.GE
  have BLot___eq__ := X.BE
  have Glot_number := X.Gln
  have Mlot_number := X.Mln
  have KBlot_number := X.KBln
  have Glot_at := X.Gla
  have Mlot_at := X.Mla
  have KBlot_at := X.KBla
  have Gnext_lot := X.Gnx
  have Mnext_lot := X.Mnx
  have KBnext_lot := X.KBnx
  have Grest_lot := X.Grl
  have Mrest_lot := X.Mrl
  have G_law_rows := X.Grw
  have M_law_rows := X.Mrw
  have G_law_number := X.Gnu
  have M_law_number := X.Mnu
  have G_law_many := X.Gmy
  have M_law_many := X.Mmy
  have g_CE := XF.gE
  have g_NoLot := XF.gN
  refine F.ok sc_law_lot_refused (fun vs H Q E h => ?_) (fun A outer s H vs Q E hr h => ?_)
  · obtain ⟨_, rfl, _⟩ := h
    rfl
  obtain ⟨a, rfl, ea, hT, h⟩ := h
  refine ⟨_, (pss_cons (ps_for (passes_of rfl) rfl (pi_list (pv 0)) (pg_name (i := 2) sc_law_lot_refused.nd rfl (Or.inr rfl)) (pss_cons (ps_set (i := 1) sc_law_lot_refused.nd rfl (Or.inl rfl) (pe_lst (pa_cons (pe_caught (k := 10) (t := tL1 C CN fln fnx) F_law_caught M_law_caught g_CE TB_law_lot_refused rfl hmT_law_lot_refused huT_law_lot_refused (hr.mono (by omega)) (lamS_by (sc := defScope s_law_lot_refused) (by decide +kernel)) (fun A outer s H E f c2 hr => by exact (pe_cvS (i := 2) Glot_number Mlot_number Gnext_lot Mnext_lot (hr.mono (by omega)) (hr.mono (by omega)) (takes_of rfl rfl rfl rfl) (pa_cons pe_non pa_nil)))) pa_nil)))
    (pss_cons (ps_expr (pe_bm PySem.F.plainAttrs_list PySem.F.slot_list_append PySem.F.type_list_append mt_append (pv 1) (pa_cons (pe_caught (k := 10) (t := tL2 C CN fln fnx) F_law_caught M_law_caught g_CE TB_law_lot_refused rfl hmT_law_lot_refused huT_law_lot_refused (hr.mono (by omega)) (lamS_by (sc := defScope s_law_lot_refused) (by decide +kernel)) (fun A outer s H E f c2 hr => by exact (pe_cvS (i := 2) Glot_number Mlot_number Gnext_lot Mnext_lot (hr.mono (by omega)) (hr.mono (by omega)) (takes_of rfl rfl rfl rfl) (pa_cons (pe_lst (pa_cons (pe_tup (pa_cons pe_int pa_nil)) pa_nil)) pa_nil)))) pa_nil)))
    (pss_one (ps_if (pt_cmpR (op_neD hr.units) (pe_lc (own := [("error", 3)]) (g := gName 3) rfl sc_law_lot_refused.nd (pi_list (pv 1)) (blkOk_by (own := [("error", 3)]) (N := ["works", "caught", "work", "error"]) (sc := defScope s_law_lot_refused) (by decide +kernel)) (fun _ _ _ _ _ => pg_name (i := 3) sc_law_lot_refused.nd rfl (by first | exact Or.inl rfl | exact Or.inr rfl)) (fun _ _ _ _ _ => (pts_one (PW.pt (pw_or (pt_not (pt_val (pe_callB (call_isVK K rfl) (by rfl) Z.isinstance_ (by decide +kernel) (pa_cons (pv 3) (pa_cons (pe_globR g_NoLot) pa_nil))))) (pw_or1 (pt_cmp (pc_notN (pe_vfK K rfl (pv 3))))))))) (fun _ _ _ _ _ => (pv 3))) (pe_lst pa_nil) (nomark _)) (pss_one (ps_ret pe_bl)) pss_nil)))))
    (pss_one (ps_ret pe_bl))), ?_⟩
  have kk : ∀ {H1 H2 : Hp} {b : Addr} {o : HO}, Ext T (fun _ => False) H1 H2 → H1 b = some o → (∀ ps, o ≠ .tbl ps) → H2 b = some o := fun x e n => x.keep _ _ e (fun z => z) n
  walk_at "ss"
  refine ⟨⟨_, SqL.of ea⟩, ?_⟩
  refine for_it walk_list (fun i σ H' => (∃ y1 y2 y3, σ = [some (.ref a), y1, y2, y3]) ∧ Ext T (fun _ => False) H H') ⟨⟨_, _, _, rfl⟩, Ext.refl⟩ (fun i σ H' _ hv => SqL.of (kk hv.2 ea (fun _ z => by cases z))) (fun i x σ H2 H2' hi hv hy => ?_) (fun σ H' hv => ?_)
  · obtain ⟨⟨y1, y2, y3, rfl⟩, X0⟩ := hv
    obtain ⟨rfl, ex⟩ := hy
    have hx : x = .ref fln ∨ x = .ref fnx := by
      have := List.mem_of_getElem? ex
      simpa using this
    have T2 := X0.tabs hT
    rcases hx with rfl | rfl
    · refine gn ?_
      refine ⟨T2, fun H3 x3 T3 N hN => ?_⟩
      have X3 : Ext T (fun _ => False) H2' H3 := Ext.ofN x3 T3
      refine .inl ⟨rfl, ?_⟩
      refine ⟨_, rfl, .inr ⟨.inl rfl, fun H4 d1 s4 hd1 => ⟨XF.mN, fun a1 ha1 => ?_⟩⟩⟩
      obtain ⟨J5, hJ5⟩ : ∃ J, J = upd (upd H4 d1 (.xd [("part", .non)])) a1 (ExV a1 (.ref CN) (some d1)) := ⟨_, rfl⟩
      have s5 : Same H3 J5 := by rw [hJ5]; exact (s4.trans (same_new hd1 _)).trans (same_new ha1 _)
      have ea1 : J5 a1 = some (ExV a1 (.ref CN) (some d1)) := by rw [hJ5]; exact upd_same
      have ed1 : J5 d1 = some (.xd [("part", .non)]) := by rw [hJ5]; exact nw ha1 upd_same
      rw [← hJ5]
      clear hJ5 ha1 hd1 s4
      have X5 := X3.trans (Ext.same (T := T) (F := fun _ => False) s5)
      refine ⟨small (by simp), fun p0 hp0 => ?_⟩
      have s6 := same_new hp0 (.lst [.ref a1])
      have T6 := (X5.tabs T2).ext s6
      refine gn ?_
      walk_at "ss"
      refine ⟨.inl ⟨rfl, _, SqL.of upd_same⟩, ?_⟩
      refine ⟨T6, fun H7 x7 T7 N2 hN2 => ?_⟩
      have X7 : Ext T (fun b => False ∨ b = p0) (upd J5 p0 (.lst [.ref a1])) H7 := Ext.ofN x7 T7
      have e07 := x7 _ _ (upd_same (H := J5) (a := p0) (o := .lst [.ref a1])) (fun _ z => by cases z)
      refine .inl ⟨rfl, ?_⟩
      refine ⟨small (by simp), fun t ht => ?_⟩
      have u1 := same_new ht (.tup [.int 0])
      refine ⟨small (by simp), fun q hq => ?_⟩
      have u2 := same_new hq (.lst [.ref t])
      refine ⟨_, rfl, .inr ⟨.inr ⟨q, _, rfl, upd_same⟩, fun H8 d2 s8 hd2 => ⟨XF.mN, fun a2 ha2 => ?_⟩⟩⟩
      obtain ⟨J9, hJ9⟩ : ∃ J, J = upd (upd H8 d2 (.xd [("part", .non)])) a2 (ExV a2 (.ref CN) (some d2)) := ⟨_, rfl⟩
      have s9 : Same H7 J9 := by rw [hJ9]; exact (((u1.trans u2).trans s8).trans (same_new hd2 _)).trans (same_new ha2 _)
      have ea2 : J9 a2 = some (ExV a2 (.ref CN) (some d2)) := by rw [hJ9]; exact upd_same
      have ed2 : J9 d2 = some (.xd [("part", .non)]) := by rw [hJ9]; exact nw ha2 upd_same
      rw [← hJ9]
      clear hJ9 ha2 hd2 s8 u2 u1
      have e09 := s9 _ _ e07
      refine ⟨p0, [.ref a1], .ref a2, rfl, rfl, e09, smallt (show 1 ≤ _ by decide), ?_⟩
      have X10 : Ext T (fun b => False ∨ b = p0) (upd J5 p0 (.lst [.ref a1])) (upd J9 p0 (.lst ([.ref a1] ++ [.ref a2]))) := (X7.trans (.same s9)).trans (Ext.upd (.inr rfl) e09 mut_lst)
      have Y10 : Ext T (fun _ => False) J5 (upd J9 p0 (.lst ([.ref a1] ++ [.ref a2]))) := Ext.out s6 hp0 X10
      have n2 : a2 ≠ p0 := fun z => by rw [z, e09] at ea2; cases ea2
      have m2 : d2 ≠ p0 := fun z => by rw [z, e09] at ed2; cases ed2
      have fa1 := kk Y10 ea1 (fun _ z => by cases z)
      have fd1 := kk Y10 ed1 (fun _ z => by cases z)
      have fa2 : upd J9 p0 (.lst ([.ref a1] ++ [.ref a2])) a2 = some (ExV a2 (.ref CN) (some d2)) := by rw [upd_ne n2]; exact ea2
      have fd2 : upd J9 p0 (.lst ([.ref a1] ++ [.ref a2])) d2 = some (.xd [("part", .non)]) := by rw [upd_ne m2]; exact ed2
      have fp : upd J9 p0 (.lst ([.ref a1] ++ [.ref a2])) p0 = some (.lst [.ref a1, .ref a2]) := upd_same
      have XE := X0.trans (X5.trans Y10)
      revert fa1 fd1 fa2 fd2 fp XE
      generalize upd J9 p0 (.lst ([.ref a1] ++ [.ref a2])) = J
      intro fa1 fd1 fa2 fd2 fp XE
      walk_at "ss"
      refine ⟨⟨_, SqL.of fp⟩, fun D hD => ?_⟩
      refine lc_it walk_list (fun i H' => Same J H' ∧ H' D = some (.lst [])) ⟨same_new hD _, upd_same⟩ (fun i H' _ hv => SqL.of (hv.1 _ _ fp)) (fun i x H' H'' hi hv hy => ?_) (fun H' hv => ?_)
      · obtain ⟨rfl, ex2⟩ := hy
        have item : ∃ av dv, x = .ref av ∧ J av = some (ExV av (.ref CN) (some dv)) ∧ J dv = some (.xd [("part", .non)]) := by
          have := List.mem_of_getElem? ex2
          simp only [List.mem_cons, List.not_mem_nil, or_false] at this
          rcases this with rfl | rfl
          · exact ⟨a1, d1, rfl, fa1, fd1⟩
          · exact ⟨a2, d2, rfl, fa2, fd2⟩
        obtain ⟨av, dv, rfl, g1, g2⟩ := item
        walk_at "ss"
        refine ⟨av, CN, some dv, _, _, true, rfl, hv.1 _ _ g1, (fun o ho => by cases ho; exact ⟨_, hv.1 _ _ g2⟩), XF.xN, .own CN, XF.iN, ?_⟩
        walk_at "ss"
        refine ⟨av, CN, dv, _, _, rfl, hv.1 _ _ g1, XF.fN, XF.nN, hv.1 _ _ g2, rfl, ?_⟩
        walk_at "ss"
        exact hv
      · walk_at "ss"
        refine ⟨small (by simp), fun t2 ht2 => ?_⟩
        have s12 := same_new ht2 (.lst [])
        refine ⟨_, _, .lst (SqL.of (s12 _ _ hv.2)) .nil, .lst (SqL.of upd_same) .nil, by decide +kernel, by decide +kernel, ?_⟩
        walk_at "ss"
        exact ⟨⟨_, _, _, rfl⟩, XE.trans (Ext.same (hv.1.trans s12))⟩
    · refine gn ?_
      refine ⟨T2, fun H3 x3 T3 N hN => ?_⟩
      have X3 : Ext T (fun _ => False) H2' H3 := Ext.ofN x3 T3
      refine .inr ⟨rfl, ?_⟩
      refine ⟨_, rfl, .inr ⟨.inl rfl, fun H4 d1 s4 hd1 => ⟨XF.mN, fun a1 ha1 => ?_⟩⟩⟩
      obtain ⟨J5, hJ5⟩ : ∃ J, J = upd (upd H4 d1 (.xd [("part", .non)])) a1 (ExV a1 (.ref CN) (some d1)) := ⟨_, rfl⟩
      have s5 : Same H3 J5 := by rw [hJ5]; exact (s4.trans (same_new hd1 _)).trans (same_new ha1 _)
      have ea1 : J5 a1 = some (ExV a1 (.ref CN) (some d1)) := by rw [hJ5]; exact upd_same
      have ed1 : J5 d1 = some (.xd [("part", .non)]) := by rw [hJ5]; exact nw ha1 upd_same
      rw [← hJ5]
      clear hJ5 ha1 hd1 s4
      have X5 := X3.trans (Ext.same (T := T) (F := fun _ => False) s5)
      refine ⟨small (by simp), fun p0 hp0 => ?_⟩
      have s6 := same_new hp0 (.lst [.ref a1])
      have T6 := (X5.tabs T2).ext s6
      refine gn ?_
      walk_at "ss"
      refine ⟨.inl ⟨rfl, _, SqL.of upd_same⟩, ?_⟩
      refine ⟨T6, fun H7 x7 T7 N2 hN2 => ?_⟩
      have X7 : Ext T (fun b => False ∨ b = p0) (upd J5 p0 (.lst [.ref a1])) H7 := Ext.ofN x7 T7
      have e07 := x7 _ _ (upd_same (H := J5) (a := p0) (o := .lst [.ref a1])) (fun _ z => by cases z)
      refine .inr ⟨rfl, ?_⟩
      refine ⟨small (by simp), fun t ht => ?_⟩
      have u1 := same_new ht (.tup [.int 0])
      refine ⟨small (by simp), fun q hq => ?_⟩
      have u2 := same_new hq (.lst [.ref t])
      refine ⟨_, rfl, .inr ⟨.inr ⟨q, _, rfl, upd_same⟩, fun H8 d2 s8 hd2 => ⟨XF.mN, fun a2 ha2 => ?_⟩⟩⟩
      obtain ⟨J9, hJ9⟩ : ∃ J, J = upd (upd H8 d2 (.xd [("part", .non)])) a2 (ExV a2 (.ref CN) (some d2)) := ⟨_, rfl⟩
      have s9 : Same H7 J9 := by rw [hJ9]; exact (((u1.trans u2).trans s8).trans (same_new hd2 _)).trans (same_new ha2 _)
      have ea2 : J9 a2 = some (ExV a2 (.ref CN) (some d2)) := by rw [hJ9]; exact upd_same
      have ed2 : J9 d2 = some (.xd [("part", .non)]) := by rw [hJ9]; exact nw ha2 upd_same
      rw [← hJ9]
      clear hJ9 ha2 hd2 s8 u2 u1
      have e09 := s9 _ _ e07
      refine ⟨p0, [.ref a1], .ref a2, rfl, rfl, e09, smallt (show 1 ≤ _ by decide), ?_⟩
      have X10 : Ext T (fun b => False ∨ b = p0) (upd J5 p0 (.lst [.ref a1])) (upd J9 p0 (.lst ([.ref a1] ++ [.ref a2]))) := (X7.trans (.same s9)).trans (Ext.upd (.inr rfl) e09 mut_lst)
      have Y10 : Ext T (fun _ => False) J5 (upd J9 p0 (.lst ([.ref a1] ++ [.ref a2]))) := Ext.out s6 hp0 X10
      have n2 : a2 ≠ p0 := fun z => by rw [z, e09] at ea2; cases ea2
      have m2 : d2 ≠ p0 := fun z => by rw [z, e09] at ed2; cases ed2
      have fa1 := kk Y10 ea1 (fun _ z => by cases z)
      have fd1 := kk Y10 ed1 (fun _ z => by cases z)
      have fa2 : upd J9 p0 (.lst ([.ref a1] ++ [.ref a2])) a2 = some (ExV a2 (.ref CN) (some d2)) := by rw [upd_ne n2]; exact ea2
      have fd2 : upd J9 p0 (.lst ([.ref a1] ++ [.ref a2])) d2 = some (.xd [("part", .non)]) := by rw [upd_ne m2]; exact ed2
      have fp : upd J9 p0 (.lst ([.ref a1] ++ [.ref a2])) p0 = some (.lst [.ref a1, .ref a2]) := upd_same
      have XE := X0.trans (X5.trans Y10)
      revert fa1 fd1 fa2 fd2 fp XE
      generalize upd J9 p0 (.lst ([.ref a1] ++ [.ref a2])) = J
      intro fa1 fd1 fa2 fd2 fp XE
      walk_at "ss"
      refine ⟨⟨_, SqL.of fp⟩, fun D hD => ?_⟩
      refine lc_it walk_list (fun i H' => Same J H' ∧ H' D = some (.lst [])) ⟨same_new hD _, upd_same⟩ (fun i H' _ hv => SqL.of (hv.1 _ _ fp)) (fun i x H' H'' hi hv hy => ?_) (fun H' hv => ?_)
      · obtain ⟨rfl, ex2⟩ := hy
        have item : ∃ av dv, x = .ref av ∧ J av = some (ExV av (.ref CN) (some dv)) ∧ J dv = some (.xd [("part", .non)]) := by
          have := List.mem_of_getElem? ex2
          simp only [List.mem_cons, List.not_mem_nil, or_false] at this
          rcases this with rfl | rfl
          · exact ⟨a1, d1, rfl, fa1, fd1⟩
          · exact ⟨a2, d2, rfl, fa2, fd2⟩
        obtain ⟨av, dv, rfl, g1, g2⟩ := item
        walk_at "ss"
        refine ⟨av, CN, some dv, _, _, true, rfl, hv.1 _ _ g1, (fun o ho => by cases ho; exact ⟨_, hv.1 _ _ g2⟩), XF.xN, .own CN, XF.iN, ?_⟩
        walk_at "ss"
        refine ⟨av, CN, dv, _, _, rfl, hv.1 _ _ g1, XF.fN, XF.nN, hv.1 _ _ g2, rfl, ?_⟩
        walk_at "ss"
        exact hv
      · walk_at "ss"
        refine ⟨small (by simp), fun t2 ht2 => ?_⟩
        have s12 := same_new ht2 (.lst [])
        refine ⟨_, _, .lst (SqL.of (s12 _ _ hv.2)) .nil, .lst (SqL.of upd_same) .nil, by decide +kernel, by decide +kernel, ?_⟩
        walk_at "ss"
        exact ⟨⟨_, _, _, rfl⟩, XE.trans (Ext.same (hv.1.trans s12))⟩
  · obtain ⟨⟨y1, y2, y3, rfl⟩, X0⟩ := hv
    walk_at "ss"
    exact h H' X0
end
end KK
/-! W10: _law_errors_right. -/
namespace KK
open PySem PySem.Spec PyProof.Rows L2 LamX Cov
/-- one step of a reading -/
local macro_rules | `(tactic| walk_at "s") => `(tactic| first | refine ⟨_, rfl, ?_⟩ | refine ⟨_, _, rfl, rfl, ?_⟩ | refine ⟨rfl, ?_⟩ | refine ⟨⟨_, rfl⟩, ?_⟩)
local macro_rules | `(tactic| walk_at "ss") => `(tactic| repeat walk_at "s")
section
variable {P : Program} {w : World} {K : PySem.W.Frag} {mg : Str → Option Value} {base : Heap} {T : List (Addr × Str)}
variable {C fI pP gP pR gR fH fM fE : Addr}
variable {CN CB CP CE fln fla fnx frl ffl fbs frw fnu fmy : Addr} {dI dP dR dM dE dln dla dnx drl dfl dbs drw dnu dmy : FuncData}
/-- lot_at(places, wrong), lot_at(wrong, -1) -/
abbrev tL3 (K : PySem.W.Frag) (C CB CP : Addr) : XK → TE := fun E => tCallS (spLA K C CB CP) (WE fun cls d _ H => E cls d H) (tCons (tVar 0) (tCons (tVar 3) tNil))
abbrev tL4 (K : PySem.W.Frag) (C CB CP : Addr) : XK → TE := fun E => tCallS (spLA K C CB CP) (WE fun cls d _ H => E cls d H) (tCons (tVar 3) (tCons (tUn (rU fun i => V.int (-i)) (tC (.int 1))) tNil))
theorem sc_law_errors_right : FnScope ["places", "many", "caught", "wrong"] ["places"] (defScope s_law_errors_right) := ⟨rfl, rfl, rfl, by decide +kernel, rfl, by decide +kernel, by decide +kernel⟩
def spER (T : List (Addr × Str)) : Sp := fun vs H Q _ => ∃ n : Nat, vs = [.int n] ∧ 1 ≤ n ∧ n ≤ 6 ∧ Tabs T H ∧ ∀ H', Ext T (fun _ => False) H H' → Q (.bl true) H'
theorem ok_law_errors_right {f c Pt f_law_caught f_law_lot_refused : Addr} {fd fdC fdF : FuncData} (F : FunC K "_law_errors_right" s_law_errors_right f fd c) (Z : Zs mg) (XF : ExF K mg CN CB CP CE) (X : LF P w K mg base C CN CB CP fI pP gP pR gR fH fM fE fln fla fnx frl ffl fbs frw fnu fmy dI dP dR dM dE dln dla dnx drl dfl dbs drw dnu dmy)
    (F_law_caught : FnP K "_law_caught" s_law_caught f_law_caught fdC) (M_law_caught : Dat K mg "_law_caught" f_law_caught fdC ["work"])
    (G_law_lot_refused : FnOk P w K mg base (L2.CX P w) 13 f_law_lot_refused fdF ["works"] (spRef T fln fnx)) (M_law_lot_refused : Dat K mg "_law_lot_refused" f_law_lot_refused fdF ["works"])
    (TB_law_errors_right : TabB base mg c Pt) (hmT_law_errors_right : (Pt, Str.ofString "_law_errors_right.<locals>.<lambda>") ∈ T) (huT_law_errors_right : ∀ p ∈ T, p.1 = Pt → p.2 = Str.ofString "_law_errors_right.<locals>.<lambda>") :
    FnOk P w K mg base (L2.CX P w) 15 f fd ["places"] (spER T) := by
  have LC := X.LC
  have g_Lot := LC.g
  have GLot___init__ := X.GI
  have BLot___init__ := X.BI
  have GLot_places := X.GP
  have BLot_places := X.BP
  have GLot_rows := X.GR
  have BLot_rows := X.BR
  have GLot___eq__ := X.GE
  have BLot___eq__ := X.BE
  have Glot_number := X.Gln
  have Mlot_number := X.Mln
  have KBlot_number := X.KBln
  have Glot_at := X.Gla
  have Mlot_at := X.Mla
  have KBlot_at := X.KBla
  have Gnext_lot := X.Gnx
  have Mnext_lot := X.Mnx
  have KBnext_lot := X.KBnx
  have Grest_lot := X.Grl
  have Mrest_lot := X.Mrl
  have G_law_rows := X.Grw
  have M_law_rows := X.Mrw
  have G_law_number := X.Gnu
  have M_law_number := X.Mnu
  have G_law_many := X.Gmy
  have M_law_many := X.Mmy
  have g_CE := XF.gE
  have g_BadNumber := XF.gB
  have g_BadPlaces := XF.gP
  have g_lot_number := X.Mln.g
  have g_next_lot := X.Mnx.g
  refine F.ok sc_law_errors_right (fun vs H Q E h => ?_) (fun A outer s H vs Q E hr h => ?_)
  · obtain ⟨_, rfl, _⟩ := h
    rfl
  obtain ⟨n, rfl, h1, h6, hT, h⟩ := h
  refine ⟨_, (pss_cons (ps_set (i := 1) sc_law_errors_right.nd rfl (Or.inl rfl) (pe_fn G_law_many M_law_many (hr.mono (by omega)) (pa_cons (pv 0) pa_nil)))
    (pss_cons (ps_for (passes_of rfl) rfl (pi_list (pe_lst (pa_cons (pe_un un_neg pe_int) (pa_cons (pv 1) (pa_cons (pe_op op_add (pv 1) pe_int) (pa_cons pe_non (pa_cons pe_bl (pa_cons pe_str pa_nil)))))))) (pg_name (i := 3) sc_law_errors_right.nd rfl (Or.inr rfl)) (pss_cons (ps_set (i := 2) sc_law_errors_right.nd rfl (Or.inl rfl) (pe_caught (k := 10) (t := tL3 K C CB CP) F_law_caught M_law_caught g_CE TB_law_errors_right rfl hmT_law_errors_right huT_law_errors_right (hr.mono (by omega)) (lamS_by (sc := defScope s_law_errors_right) (by decide +kernel)) (fun A outer s H E f c2 hr => by exact (pe_fx Glot_at Mlot_at (hr.mono (by omega)) (takes_of rfl rfl rfl rfl) (pa_cons (pv 0) (pa_cons (pv 3) pa_nil))))))
    (pss_one (ps_if (PW.pt (pw_or (pt_not (pt_val (pe_callB call_isV (by rfl) Z.isinstance_ (by decide +kernel) (pa_cons (pv 2) (pa_cons (pe_globR g_BadNumber) pa_nil))))) (pw_or1 (pt_cmpR op_ne (pe_vf (pv 2)) pe_str (nomark _))))) (pss_one (ps_ret pe_bl)) pss_nil))))
    (pss_cons (ps_for (passes_of rfl) rfl (pi_list (pe_lst (pa_cons pe_int (pa_cons pe_int (pa_cons pe_non (pa_cons pe_bl pa_nil)))))) (pg_name (i := 3) sc_law_errors_right.nd rfl (Or.inr rfl)) (pss_one (ps_if (pt_not (pt_val (pe_callB call_isV (by rfl) Z.isinstance_ (by decide +kernel) (pa_cons (pe_caught (k := 10) (t := tL4 K C CB CP) F_law_caught M_law_caught g_CE TB_law_errors_right rfl hmT_law_errors_right huT_law_errors_right (hr.mono (by omega)) (lamS_by (sc := defScope s_law_errors_right) (by decide +kernel)) (fun A outer s H E f c2 hr => by exact (pe_fx Glot_at Mlot_at (hr.mono (by omega)) (takes_of rfl rfl rfl rfl) (pa_cons (pv 3) (pa_cons (pe_un un_neg pe_int) pa_nil))))) (pa_cons (pe_globR g_BadPlaces) pa_nil))))) (pss_one (ps_ret pe_bl)) pss_nil)))
    (pss_one (ps_ret (pe_fn G_law_lot_refused M_law_lot_refused (hr.mono (by omega)) (pa_cons (pe_lst (pa_cons (pe_globR g_lot_number) (pa_cons (pe_globR g_next_lot) pa_nil))) pa_nil))))))), ?_⟩
  have kk : ∀ {H1 H2 : Hp} {b : Addr} {o : HO}, Ext T (fun _ => False) H1 H2 → H1 b = some o → (∀ ps, o ≠ .tbl ps) → H2 b = some o := fun x e n => x.keep _ _ e (fun z => z) n
  have pp : (0 : Int) < 2 ^ 2 ^ n := two_pos _
  walk_at "ss"
  refine ⟨h6, fun H1 s1 => ?_⟩
  dsimp only
  refine gn ?_
  refine seq_by (fun σ' H' => (∃ y2 y3, σ' = [some (.int n), some (.int (2 ^ 2 ^ n)), y2, y3]) ∧ Ext T (fun _ => False) H H') (fun N hN => ?_) (fun σ' H2 hm => ?_)
  · walk_at "ss"
    refine ⟨small (by simp), fun p0 hp0 => ?_⟩
    have X0 : Ext T (fun _ => False) H (upd H1 p0 (.lst [.int (-1), .int (2 ^ 2 ^ n), .int (2 ^ 2 ^ n + 1), .non, .bl true, .str "0"])) := Ext.same (s1.trans (same_new hp0 _))
    refine ⟨_, rfl, ⟨_, SqL.of upd_same⟩, ?_⟩
    refine for_it (walk_list (xs := [.int (-1), .int (2 ^ 2 ^ n), .int (2 ^ 2 ^ n + 1), .non, .bl true, .str "0"])) (fun i σ H' => (∃ y2 y3, σ = [some (.int n), some (.int (2 ^ 2 ^ n)), y2, y3]) ∧ Ext T (fun _ => False) H H' ∧ H' p0 = some (.lst [.int (-1), .int (2 ^ 2 ^ n), .int (2 ^ 2 ^ n + 1), .non, .bl true, .str "0"])) ⟨⟨_, _, rfl⟩, X0, upd_same⟩ (fun i σ H' _ hv => SqL.of hv.2.2) (fun i x σ H2 H2' hi hv hy => ?_) (fun σ H' hv => hN _ _ ⟨hv.1, hv.2.1⟩)
    obtain ⟨⟨y2, y3, rfl⟩, X1, e1⟩ := hv
    obtain ⟨rfl, ex⟩ := hy
    have hx : ∀ H', NotNum K H' n x := fun H' => by
      have := List.mem_of_getElem? ex
      simp only [List.mem_cons, List.not_mem_nil, or_false] at this
      rcases this with rfl | rfl | rfl | rfl | rfl | rfl
      · exact .inl ⟨_, rfl, by omega⟩
      · exact .inl ⟨_, rfl, by omega⟩
      · exact .inl ⟨_, rfl, by omega⟩
      · exact .inr ⟨_, _, av_non, rfl⟩
      · exact .inr ⟨_, _, av_bl true, rfl⟩
      · exact .inr ⟨_, _, av_str _, rfl⟩
    refine gn ?_
    refine ⟨X1.tabs hT, fun H3 x3 T3 N2 hN2 => ?_⟩
    have X3 : Ext T (fun _ => False) H2' H3 := Ext.ofN x3 T3
    refine ⟨_, rfl, _, rfl, ?_⟩
    refine ⟨_, _, rfl, .inl ⟨n, rfl, h1, h6, .inr ⟨hx _, fun H4 d s4 hd => ⟨XF.mB, fun a ha => ?_⟩⟩⟩⟩
    obtain ⟨J5, hJ5⟩ : ∃ J, J = upd (upd H4 d (.xd [("part", .str "number")])) a (ExV a (.ref CB) (some d)) := ⟨_, rfl⟩
    have s5 : Same H3 J5 := by rw [hJ5]; exact (s4.trans (same_new hd _)).trans (same_new ha _)
    have ea : J5 a = some (ExV a (.ref CB) (some d)) := by rw [hJ5]; exact upd_same
    have ed : J5 d = some (.xd [("part", .str "number")]) := by rw [hJ5]; exact nw ha upd_same
    rw [← hJ5]
    clear hJ5 ha hd s4
    have X5 := X1.trans (X3.trans (Ext.same (T := T) (F := fun _ => False) s5))
    have e5 := s5 _ _ (kk X3 e1 (fun _ z => by cases z))
    refine gn ?_
    walk_at "ss"
    refine ⟨a, CB, some d, _, _, true, rfl, ea, (fun o ho => by cases ho; exact ⟨_, ed⟩), XF.xB, .own CB, XF.iB, ?_⟩
    walk_at "ss"
    refine ⟨a, CB, d, _, _, rfl, ea, XF.fB, XF.nB, ed, rfl, ?_⟩
    walk_at "ss"
    refine if_f (nd_self _) ?_
    walk_at "ss"
    exact ⟨⟨_, _, rfl⟩, X5, e5⟩
  · obtain ⟨⟨y2, y3, rfl⟩, X2⟩ := hm
    refine seq_by (fun σ' H' => (∃ y2 y3, σ' = [some (.int n), some (.int (2 ^ 2 ^ n)), y2, y3]) ∧ Ext T (fun _ => False) H H') (fun N hN => ?_) (fun σ' H3 hm => ?_)
    · walk_at "ss"
      refine ⟨small (by simp), fun p0 hp0 => ?_⟩
      have X0 : Ext T (fun _ => False) H (upd H2 p0 (.lst [.int 0, .int 7, .non, .bl true])) := X2.trans (Ext.same (same_new hp0 _))
      refine ⟨_, rfl, ⟨_, SqL.of upd_same⟩, ?_⟩
      refine for_it (walk_list (xs := [.int 0, .int 7, .non, .bl true])) (fun i σ H' => (∃ y2 y3, σ = [some (.int n), some (.int (2 ^ 2 ^ n)), y2, y3]) ∧ Ext T (fun _ => False) H H' ∧ H' p0 = some (.lst [.int 0, .int 7, .non, .bl true])) ⟨⟨_, _, rfl⟩, X0, upd_same⟩ (fun i σ H' _ hv => SqL.of hv.2.2) (fun i x σ H4 H4' hi hv hy => ?_) (fun σ H' hv => hN _ _ ⟨hv.1, hv.2.1⟩)
      obtain ⟨⟨y2, y3, rfl⟩, X1, e1⟩ := hv
      obtain ⟨rfl, ex⟩ := hy
      have hx : ∀ H', (∃ i : Int, x = .int i ∧ ¬ (1 ≤ i ∧ i ≤ 6)) ∨ ∃ b1 b2, Av K H' x b1 b2 ∧ (b1 && !b2) = false := fun H' => by
        have := List.mem_of_getElem? ex
        simp only [List.mem_cons, List.not_mem_nil, or_false] at this
        rcases this with rfl | rfl | rfl | rfl
        · exact .inl ⟨_, rfl, by decide⟩
        · exact .inl ⟨_, rfl, by decide⟩
        · exact .inr ⟨_, _, av_non, rfl⟩
        · exact .inr ⟨_, _, av_bl true, rfl⟩
      refine gn ?_
      refine ⟨X1.tabs hT, fun H5 x5 T5 N2 hN2 => ?_⟩
      have X5 : Ext T (fun _ => False) H4' H5 := Ext.ofN x5 T5
      refine ⟨_, rfl, _, rfl, ?_⟩
      refine ⟨_, _, rfl, .inr ⟨hx _, XF.mP, fun a ha => ?_⟩⟩
      have s6 := same_new ha (ExV a (.ref CP) none)
      have X6 := X1.trans (X5.trans (Ext.same (T := T) (F := fun _ => False) s6))
      have e6 := s6 _ _ (kk X5 e1 (fun _ z => by cases z))
      walk_at "ss"
      refine ⟨a, CP, none, _, _, true, rfl, upd_same, (fun o ho => by cases ho), XF.xP, .own CP, XF.iP, ?_⟩
      walk_at "ss"
      exact ⟨⟨_, _, rfl⟩, X6, e6⟩
    · obtain ⟨⟨y2, y3, rfl⟩, X3⟩ := hm
      walk_at "ss"
      refine ⟨small (by simp), fun p0 hp0 => ?_⟩
      have X4 := X3.trans (Ext.same (T := T) (F := fun _ => False) (same_new hp0 (.lst [.ref fln, .ref fnx])))
      walk_at "ss"
      exact ⟨upd_same, X4.tabs hT, fun H5 X5 => h H5 (X4.trans X5)⟩
end
end KK
/-! W11: the law. -/
namespace KK
open PySem PySem.Spec PyProof.Rows L2 LamX Cov
/-- one step of a reading -/
local macro_rules | `(tactic| walk_at "s") => `(tactic| first | refine ⟨_, rfl, ?_⟩ | refine ⟨_, _, rfl, rfl, ?_⟩ | refine ⟨rfl, ?_⟩ | refine ⟨⟨_, rfl⟩, ?_⟩)
local macro_rules | `(tactic| walk_at "ss") => `(tactic| repeat walk_at "s")
section
variable {P : Program} {w : World} {K : PySem.W.Frag} {mg : Str → Option Value} {base : Heap} {T : List (Addr × Str)}
variable {C fI pP gP pR gR fH fM fE : Addr}
variable {CN CB CP CE fln fla fnx frl ffl fbs frw fnu fmy : Addr} {dI dP dR dM dE dln dla dnx drl dfl dbs drw dnu dmy : FuncData}
/-- the rows at some spots -/
def selR (l : List (List Int)) (s : List Int) : List (List Int) := s.map fun k => l.getD k.toNat []
theorem sel_ok {n : Nat} (h1 : 1 ≤ n) (h6 : n ≤ 6) {s : List Int} (h : Asc (rowsN n).length s) : LotOk n (selR (rowsN n) s) := by
  have get : ∀ k ∈ s, ∃ hk : k.toNat < (rowsN n).length, (rowsN n).getD k.toNat [] = (rowsN n)[k.toNat] := fun k hk => by
    have := h.bd k hk
    have lt : k.toNat < (rowsN n).length := by omega
    exact ⟨lt, by simp [List.getD, lt]⟩
  have pw : List.Pairwise (fun a b => lexI a b = true) (selR (rowsN n) s) := by
    refine List.pairwise_map.mpr (List.Pairwise.imp_of_mem (fun {a b} ha hb hab => ?_) h.asc)
    obtain ⟨la, ea⟩ := get a ha
    obtain ⟨lb, eb⟩ := get b hb
    rw [ea, eb]
    have := h.bd a ha
    exact List.pairwise_iff_getElem.mp (rowsN_lt n) a.toNat b.toNat la lb (by omega)
  have mem : ∀ r ∈ selR (rowsN n) s, r ∈ rowsN n := fun r hr => by
    obtain ⟨k, hk, rfl⟩ := List.mem_map.mp hr
    obtain ⟨lk, ek⟩ := get k hk
    rw [ek]
    exact List.getElem_mem lk
  have nd := nd_of_lt pw
  refine ⟨h1, h6, fun r hr => rowsN_row n r (mem r hr), nd, srt_of_lt pw, ?_⟩
  have := nodup_len nd mem
  rw [rowsN_len] at this
  exact Nat.le_trans this (pow64 h6)
theorem cut_drop {xs : List V} {k : Nat} (h : k ≤ xs.length) : cutV xs (some ((k : Nat) : Int)) none = xs.drop k := by
  unfold cutV
  rw [HT.sIx_nat, Nat.min_eq_left h]
  show (xs.drop k).take (xs.length - k) = xs.drop k
  exact List.take_of_length_le (by rw [List.length_drop]; omega)
theorem RowsV.drop {H : Hp} : ∀ (k : Nat) {xs : List V} {rs : List (List Int)}, RowsV H xs rs → RowsV H (xs.drop k) (rs.drop k)
  | 0, _, _, h => h
  | _ + 1, _, _, .nil => .nil
  | k + 1, _, _, .cons _ r => RowsV.drop k r
/-- a list of the rows of a lot -/
def RowL (st gg : Addr) (n : Nat) (H : Hp) (x : V) : Prop := ∃ a xs rs, x = .ref a ∧ LotOk n rs ∧ Li (Fs st gg) H a xs ∧ RowsV H xs rs
theorem RowL.ext {st gg : Addr} {n : Nat} {H H' : Hp} {x : V} (e : Ext T (Fs st gg) H H') (h : RowL st gg n H x) : RowL st gg n H' x := let ⟨a, xs, rs, h1, h2, h3, h4⟩ := h; ⟨a, xs, rs, h1, h2, h3.ext e, h4.tups e.tups⟩
theorem sclaw : FnScope ["script", "state", "places", "every", "spots", "turn", "rows", "spot"] ["script"] (defScope slaw) := ⟨rfl, rfl, rfl, by decide +kernel, rfl, by decide +kernel, by decide +kernel⟩
def spLaw (K : PySem.W.Frag) (T : List (Addr × Str)) : Sp := fun vs H Q _ => ∃ (sc : Addr) (ns : List Int), vs = [.ref sc] ∧ SqL K H sc (ns.map .int) ∧ ns.length ≤ 100000 ∧ Tabs T H ∧ ∀ H', Q (.bl true) H'
theorem ok_law {f f_law_begun f_law_draw f_law_sets f_law_lot f_law_lot_right f_law_made_right f_law_errors_right : Addr} {fd fd1 fd2 fd3 fd4 fd5 fd6 fd7 : FuncData} (F : FnP K "law" slaw f fd) (Z : Zs mg) (X : LF P w K mg base C CN CB CP fI pP gP pR gR fH fM fE fln fla fnx frl ffl fbs frw fnu fmy dI dP dR dM dE dln dla dnx drl dfl dbs drw dnu dmy)
    (G_law_begun : FnOk P w K mg base (L2.CX P w) 1 f_law_begun fd1 ["script"] (spBe (K := K))) (M_law_begun : Dat K mg "_law_begun" f_law_begun fd1 ["script"])
    (G_law_draw : FnOk P w K mg base (L2.CX P w) 2 f_law_draw fd2 ["state", "size"] (spDr T)) (M_law_draw : Dat K mg "_law_draw" f_law_draw fd2 ["state", "size"])
    (G_law_sets : FnOk P w K mg base (L2.CX P w) 1 f_law_sets fd3 ["places"] spSets) (M_law_sets : Dat K mg "_law_sets" f_law_sets fd3 ["places"])
    (G_law_lot : FnOk P w K mg base (L2.CX P w) 4 f_law_lot fd4 ["state", "places"] (spLot T)) (M_law_lot : Dat K mg "_law_lot" f_law_lot fd4 ["state", "places"])
    (G_law_lot_right : FnOk P w K mg base (L2.CX P w) 10 f_law_lot_right fd5 ["places", "rows"] spLR) (M_law_lot_right : Dat K mg "_law_lot_right" f_law_lot_right fd5 ["places", "rows"])
    (G_law_made_right : FnOk P w K mg base (L2.CX P w) 10 f_law_made_right fd6 ["state", "places", "rows"] (spMR T)) (M_law_made_right : Dat K mg "_law_made_right" f_law_made_right fd6 ["state", "places", "rows"])
    (G_law_errors_right : FnOk P w K mg base (L2.CX P w) 15 f_law_errors_right fd7 ["places"] (spER T)) (M_law_errors_right : Dat K mg "_law_errors_right" f_law_errors_right fd7 ["places"]) :
    FnOk P w K mg base (L2.CX P w) 17 f fd ["script"] (spLaw K T) := by
  have LC := X.LC
  have g_Lot := LC.g
  have GLot___init__ := X.GI
  have BLot___init__ := X.BI
  have GLot_places := X.GP
  have BLot_places := X.BP
  have GLot_rows := X.GR
  have BLot_rows := X.BR
  have GLot___eq__ := X.GE
  have BLot___eq__ := X.BE
  have Glot_number := X.Gln
  have Mlot_number := X.Mln
  have KBlot_number := X.KBln
  have Glot_at := X.Gla
  have Mlot_at := X.Mla
  have KBlot_at := X.KBla
  have Gnext_lot := X.Gnx
  have Mnext_lot := X.Mnx
  have KBnext_lot := X.KBnx
  have Grest_lot := X.Grl
  have Mrest_lot := X.Mrl
  have G_law_rows := X.Grw
  have M_law_rows := X.Mrw
  have G_law_number := X.Gnu
  have M_law_number := X.Mnu
  have G_law_many := X.Gmy
  have M_law_many := X.Mmy
  refine F.ok sclaw (fun vs H Q E h => ?_) (fun cdv A outer s H vs Q E hr h => ?_)
  · obtain ⟨_, _, rfl, _⟩ := h
    rfl
  obtain ⟨sc, ns, rfl, hsc, hns, hT, h⟩ := h
  refine ⟨_, (pss_cons (ps_set (i := 1) sclaw.nd rfl (Or.inl rfl) (pe_fn G_law_begun M_law_begun (hr.mono (by omega)) (pa_cons (pv 0) pa_nil)))
    (pss_cons (ps_for (passes_of rfl) rfl (pi_list (pe_lst (pa_cons pe_int (pa_cons pe_int pa_nil)))) (pg_name (i := 2) sclaw.nd rfl (Or.inl rfl)) (pss_cons (ps_set (i := 3) sclaw.nd rfl (Or.inr rfl) (pe_fn G_law_rows M_law_rows (hr.mono (by omega)) (pa_cons (pv 2) pa_nil)))
    (pss_one (ps_for (passes_of rfl) rfl (pi_list (pe_fn G_law_sets M_law_sets (hr.mono (by omega)) (pa_cons (pe_callB call_len_seq (by rfl) Z.len_ (by decide +kernel) (pa_cons (pv 3) pa_nil)) pa_nil))) (pg_name (i := 4) sclaw.nd rfl (Or.inl rfl)) (pss_one (ps_if (pt_not (pt_val (pe_fn G_law_lot_right M_law_lot_right (hr.mono (by omega)) (pa_cons (pv 2) (pa_cons (pe_lc (own := [("spot", 7)]) (g := gName 7) (tt := tYes) rfl sclaw.nd (pi_tup (pv 4)) (blkOk_by (own := [("spot", 7)]) (N := ["script", "state", "places", "every", "spots", "turn", "rows", "spot"]) (sc := defScope slaw) (by decide +kernel)) (fun _ _ _ _ _ => pg_name (i := 7) sclaw.nd rfl (by first | exact Or.inl rfl | exact Or.inr rfl)) (fun _ _ _ _ _ => pts_nil) (fun _ _ _ _ _ => (pe_ix (ix_listK K rfl) (pv 3) (pv 7) (fun _ _ => rfl)))) pa_nil))))) (pss_one (ps_ret pe_bl)) pss_nil))))))
    (pss_cons (ps_for (passes_of rfl) rfl (pi_range1 (by rfl) Z.range_ (pa_cons (pe_op op_add pe_int (pe_callB (call_min2 rfl) (by rfl) Z.min_ (by decide +kernel) (pa_cons (pe_callB call_len_seq (by rfl) Z.len_ (by decide +kernel) (pa_cons (pv 0) pa_nil)) (pa_cons pe_int pa_nil)))) pa_nil)) (pg_name (i := 5) sclaw.nd rfl (Or.inl rfl)) (pss_cons (ps_set (i := 2) sclaw.nd rfl (Or.inl rfl) (pe_op op_add pe_int (pe_fn G_law_draw M_law_draw (hr.mono (by omega)) (pa_cons (pv 1) (pa_cons pe_int pa_nil)))))
    (pss_cons (ps_set (i := 3) sclaw.nd rfl (Or.inr rfl) (pe_fn G_law_rows M_law_rows (hr.mono (by omega)) (pa_cons (pv 2) pa_nil)))
    (pss_cons (ps_for (passes_of rfl) rfl (pi_list (pe_lst (pa_cons (pe_fn G_law_lot M_law_lot (hr.mono (by omega)) (pa_cons (pv 1) (pa_cons (pv 2) pa_nil))) (pa_cons (pe_slice sl_list (pv 3) po_none (po_some (pe_fn G_law_draw M_law_draw (hr.mono (by omega)) (pa_cons (pv 1) (pa_cons (pe_op op_add (pe_callB call_len_seq (by rfl) Z.len_ (by decide +kernel) (pa_cons (pv 3) pa_nil)) pe_int) pa_nil))))) (pa_cons (pe_slice sl_list (pv 3) (po_some (pe_fn G_law_draw M_law_draw (hr.mono (by omega)) (pa_cons (pv 1) (pa_cons (pe_callB call_len_seq (by rfl) Z.len_ (by decide +kernel) (pa_cons (pv 3) pa_nil)) pa_nil)))) po_none) pa_nil))))) (pg_name (i := 6) sclaw.nd rfl (Or.inl rfl)) (pss_one (ps_if (PW.pt (pw_or (pt_not (pt_val (pe_fn G_law_lot_right M_law_lot_right (hr.mono (by omega)) (pa_cons (pv 2) (pa_cons (pv 6) pa_nil))))) (pw_or1 (pt_not (pt_val (pe_fn G_law_made_right M_law_made_right (hr.mono (by omega)) (pa_cons (pv 1) (pa_cons (pv 2) (pa_cons (pv 6) pa_nil))))))))) (pss_one (ps_ret pe_bl)) pss_nil)))
    (pss_one (ps_if (pt_not (pt_val (pe_fn G_law_errors_right M_law_errors_right (hr.mono (by omega)) (pa_cons (pv 2) pa_nil)))) (pss_one (ps_ret pe_bl)) pss_nil))))))
    (pss_one (ps_ret (pe_and (pe_cmpR op_eq (pe_fx Glot_number Mlot_number (hr.mono (by omega)) (takes_of rfl rfl rfl rfl) (pa_cons (pe_make LC.mkk GLot___init__ (hr.mono (by omega)) (by rfl) g_Lot BLot___init__ .nil passL (pa_cons pe_int (pa_cons (pe_lst (pa_cons (pe_tup (pa_cons pe_int (pa_cons pe_int pa_nil))) (pa_cons (pe_tup (pa_cons pe_int (pa_cons pe_int pa_nil))) (pa_cons (pe_tup (pa_cons pe_int (pa_cons pe_int pa_nil))) pa_nil)))) pa_nil))) pa_nil)) pe_int (nomark _)) (pe_and (pe_cmpR (op_eqO LC.eqk GLot___eq__ BLot___eq__ (hr.mono (by omega))) (pe_fx Glot_at Mlot_at (hr.mono (by omega)) (takes_of rfl rfl rfl rfl) (pa_cons pe_int (pa_cons pe_int pa_nil))) (pe_make LC.mkk GLot___init__ (hr.mono (by omega)) (by rfl) g_Lot BLot___init__ .nil passL (pa_cons pe_int (pa_cons (pe_lst (pa_cons (pe_tup (pa_cons pe_int (pa_cons pe_int pa_nil))) (pa_cons (pe_tup (pa_cons pe_int (pa_cons pe_int pa_nil))) pa_nil))) pa_nil))) (nomark _)) (pe_one (pe_cmpR (op_eqO LC.eqk GLot___eq__ BLot___eq__ (hr.mono (by omega))) (pe_fx Gnext_lot Mnext_lot (hr.mono (by omega)) (takes_of rfl rfl rfl rfl) (pa_cons (pe_make LC.mkk GLot___init__ (hr.mono (by omega)) (by rfl) g_Lot BLot___init__ .nil passL (pa_cons pe_int (pa_cons (pe_lst pa_nil) pa_nil))) pa_nil)) (pe_make LC.mkk GLot___init__ (hr.mono (by omega)) (by rfl) g_Lot BLot___init__ .nil passL (pa_cons pe_int (pa_cons (pe_lst (pa_cons (pe_tup (pa_cons pe_int pa_nil)) pa_nil)) pa_nil))) (nomark _)))))))))), ?_⟩
  walk_at "ss"
  refine ⟨sc, ns, rfl, hsc, hns, fun H1 st gg cc s1 _ _ _ S1 => ?_⟩
  dsimp only
  refine gn ?_
  refine seq_by (fun σ' H' => (∃ y2 y3 y4 y5 y6 y7, σ' = [some (.ref sc), some (.ref st), y2, y3, y4, y5, y6, y7]) ∧ Stt st gg cc 0 H' ∧ Same H H') (fun N hN => ?_) (fun σ' H2 hm => ?_)
  · walk_at "ss"
    refine ⟨small (by simp), fun p0 hp0 => ?_⟩
    have s2 := same_new hp0 (.lst [.int 1, .int 2])
    refine ⟨_, rfl, ⟨_, SqL.of upd_same⟩, ?_⟩
    refine for_it (walk_list (xs := [.int 1, .int 2])) (fun i σ H' => (∃ y2 y3 y4 y5 y6 y7, σ = [some (.ref sc), some (.ref st), y2, y3, y4, y5, y6, y7]) ∧ Same (upd H1 p0 (.lst [.int 1, .int 2])) H') ⟨⟨_, _, _, _, _, _, rfl⟩, Same.refl _⟩ (fun i σ H' _ hv => SqL.of (hv.2 _ _ upd_same)) (fun i x σ H3 H3' hi hv hy => ?_) (fun σ H' hv => hN _ _ ⟨hv.1, S1.same (s2.trans hv.2), s1.trans (s2.trans hv.2)⟩)
    obtain ⟨⟨y2, y3, y4, y5, y6, y7, rfl⟩, s3⟩ := hv
    obtain ⟨rfl, ex⟩ := hy
    obtain ⟨n, rfl, n1, n2⟩ : ∃ n : Nat, x = .int (n : Int) ∧ 1 ≤ n ∧ n ≤ 2 := by
      have := List.mem_of_getElem? ex
      simp only [List.mem_cons, List.not_mem_nil, or_false] at this
      rcases this with rfl | rfl
      · exact ⟨1, rfl, by omega, by omega⟩
      · exact ⟨2, rfl, by omega, by omega⟩
    refine gn ?_
    walk_at "ss"
    refine ⟨by omega, fun H4 p xe s4 np ep rv => ?_⟩
    have l4 : xe.length ≤ 4 := by
      rw [rv.len, rowsN_len]
      exact Nat.le_trans (Nat.pow_le_pow_right (by omega) n2) (by decide)
    refine gn ?_
    walk_at "ss"
    refine ⟨p, _, rfl, .inl (SqL.of ep), ?_⟩
    walk_at "ss"
    refine ⟨by omega, fun H5 p5 xs5 ss5 s5 n5 e5 r5 hA l0 l64 => ?_⟩
    walk_at "ss"
    refine ⟨⟨_, SqL.of e5⟩, ?_⟩
    refine for_it walk_list (fun i σ H' => (∃ y4 y5 y6 y7, σ = [some (.ref sc), some (.ref st), some (.int (n : Nat)), some (.ref p), y4, y5, y6, y7]) ∧ Same H5 H') ⟨⟨_, _, _, _, rfl⟩, Same.refl _⟩ (fun i σ H' _ hv => SqL.of (hv.2 _ _ e5)) (fun i x σ H6 H6' hi hv hy => ?_) (fun σ H' hv => ?_)
    · obtain ⟨⟨y4, y5, y6, y7, rfl⟩, s6⟩ := hv
      obtain ⟨rfl, ex2⟩ := hy
      obtain ⟨sp, hsp, b, rfl, eb⟩ := L2.paired_get (r5.same s6) ex2
      have asc := hA sp (List.mem_of_getElem? hsp)
      rw [rv.len] at asc
      have s56 := s5.trans s6
      refine gn ?_
      walk_at "ss"
      refine ⟨⟨_, SqT.of eb⟩, fun D hD => ?_⟩
      refine lc_it walk_tup (fun j H7 => Same H6' H7 ∧ ∃ ys, H7 D = some (.lst ys) ∧ RowsV H7 ys (selR (rowsN n) (sp.take j))) ⟨same_new hD _, [], upd_same, .nil⟩ (fun j H7 _ hv => SqT.of (hv.1 _ _ eb)) (fun j x H7 H8 hj hv hy => ?_) (fun H7 hv => ?_)
      · obtain ⟨rfl, ex3⟩ := hy
        obtain ⟨s7, ys, eD, ry⟩ := hv
        rw [List.length_map] at hj
        obtain ⟨k, hkm, rfl⟩ := List.mem_map.mp (List.mem_of_getElem? ex3)
        have hks : sp[j]? = some k := by
          rw [List.getElem?_map] at ex3
          obtain ⟨k', h1', h2'⟩ := Option.map_eq_some_iff.mp ex3
          rw [h1']
          exact congrArg some (V.int.inj h2')
        obtain ⟨k0, k1⟩ := asc.bd k hkm
        have lt : k.toNat < xe.length := by rw [rv.len]; omega
        have hxe : xe[k.toNat]? = some xe[k.toNat] := List.getElem?_eq_getElem lt
        obtain ⟨r, hr, b2, hb2, eb2⟩ := L2.paired_get (rv.same (s56.trans s7)) hxe
        have stk : selR (rowsN n) (sp.take (j + 1)) = selR (rowsN n) (sp.take j) ++ [r] := by
          unfold selR
          rw [List.take_add_one, hks, List.map_append]
          show _ ++ [(rowsN n).getD k.toNat []] = _
          rw [List.getD_eq_getElem?_getD, hr]
          rfl
        have yl : ys.length ≤ 64 := by
          have a1 := asc.len
          have a2 := rv.len
          rw [ry.len]
          show ((sp.take j).map fun k => (rowsN n).getD k.toNat []).length ≤ 64
          rw [List.length_map, List.length_take]
          omega
        walk_at "ss"
        refine ⟨p, xe, _, _, rfl, rfl, SqL.of ((s56.trans s7) _ _ ep), (by have := atI_nat hxe; rw [Int.toNat_of_nonneg k0] at this; exact this), ?_⟩
        refine ⟨ys, eD, smallt (by omega), same_over hD s7 _, ys ++ [xe[k.toNat]], upd_same, ?_⟩
        rw [stk]
        have kp : ∀ b' zs, H8 b' = some (.tup zs) → upd H8 D (.lst (ys ++ [xe[k.toNat]])) b' = some (.tup zs) := fun b' zs e => tup_upd eD (fun _ z => by cases z) e
        exact RowsV.append (ry.tups kp) (.cons ⟨b2, hb2, kp _ _ eb2⟩ .nil)
      · obtain ⟨s7, ys, eD, ry⟩ := hv
        rw [List.length_map, List.take_length] at ry
        walk_at "ss"
        refine ⟨n, D, ys, _, rfl, sel_ok n1 (by omega) asc, eD, ry, fun H9 s9 => ?_⟩
        walk_at "ss"
        exact ⟨⟨_, _, _, _, rfl⟩, s6.trans (s7.trans s9)⟩
    · obtain ⟨⟨y4, y5, y6, y7, rfl⟩, s6⟩ := hv
      exact ⟨⟨_, _, _, _, _, _, rfl⟩, s3.trans (s4.trans (s5.trans s6))⟩
  · obtain ⟨⟨y2, y3, y4, y5, y6, y7, rfl⟩, S2, sH2⟩ := hm
    refine seq_by (fun σ' H' => ∃ y2 y3 y4 y5 y6 y7, σ' = [some (.ref sc), some (.ref st), y2, y3, y4, y5, y6, y7]) (fun N hN => ?_) (fun σ' H3 hm => ?_)
    · have T2 := hT.ext sH2
      walk_at "ss"
      refine ⟨_, _, rfl, .inl (sameL sH2 hsc), ?_⟩
      walk_at "ss"
      refine ⟨_, _, rfl, ?_⟩
      walk_at "ss"
      rw [List.length_map]
      have hm1 : 0 ≤ 3 + (if (5 : Int) < ((ns.length : Nat) : Int) then 5 else ((ns.length : Nat) : Int)) ∧ 3 + (if (5 : Int) < ((ns.length : Nat) : Int) then 5 else ((ns.length : Nat) : Int)) ≤ 8 := by
        split <;> omega
      generalize 3 + (if (5 : Int) < ((ns.length : Nat) : Int) then 5 else ((ns.length : Nat) : Int)) = mm at hm1 ⊢
      obtain ⟨m, rfl⟩ : ∃ m : Nat, mm = m := ⟨mm.toNat, by omega⟩
      refine ⟨by omega, by omega, ?_⟩
      rw [Int.toNat_natCast]
      refine for_it walk_range (fun i σ H' => (∃ y2 y3 y4 y5 y6 y7, σ = [some (.ref sc), some (.ref st), y2, y3, y4, y5, y6, y7]) ∧ Stt st gg cc (100000 * i) H' ∧ Tabs T H') ⟨⟨_, _, _, _, _, _, rfl⟩, S2, T2⟩ (fun i σ H' _ hv => trivial) (fun i x σ H3 H3' hi hv hy => ?_) (fun σ H' hv => hN _ _ hv.1)
      obtain ⟨⟨y2, y3, y4, y5, y6, y7, rfl⟩, S3, T3⟩ := hv
      obtain ⟨rfl, rfl⟩ := hy
      refine gn ?_
      walk_at "ss"
      refine ⟨st, gg, cc, _, 4, rfl, by omega, by omega, S3, by omega, fun H4 k4 hk4 x4 S4 => ?_⟩
      refine ⟨_, _, rfl, rfl, ?_⟩
      dsimp only
      refine gn ?_
      obtain ⟨n, hn⟩ : ∃ n : Nat, n = 3 + k4 := ⟨_, rfl⟩
      have hn2 : (3 + (k4 : Int)) = (n : Int) := by omega
      have n3 : 3 ≤ n := by omega
      have n6 : n ≤ 6 := by omega
      rw [hn2]
      have T4 := x4.tabs T3
      walk_at "ss"
      refine ⟨n6, fun H5 p xe s5 np ep rv => ?_⟩
      have S5 := S4.same s5
      have T5 := T4.ext s5
      have h64 := pow64 n6
      have xl : xe.length = 2 ^ n := by rw [rv.len, rowsN_len]
      have xp : 0 < xe.length := by rw [xl]; exact Nat.two_pow_pos n
      obtain ⟨⟨_, a1⟩, ⟨_, a2⟩, _⟩ := S4.here
      have lp : Li (Fs st gg) H5 p xe := ⟨ep, fun z => z.elim (fun z => by rw [z, a1] at np; cases np) (fun z => by rw [z, a2] at np; cases np)⟩
      refine gn ?_
      dsimp only
      refine seq_by (fun σ' H' => (∃ y5 y6 : Option V, σ' = [some (.ref sc), some (.ref st), some (.int (n : Nat)), some (.ref p), y4, y5, y6, y7]) ∧ Stt st gg cc (100000 * i + 10000) H' ∧ Tabs T H') (fun N hN => ?_) (fun σ' H6 hm => ?_)
      · walk_at "ss"
        refine ⟨st, gg, cc, _, n, rfl, S5, by omega, by omega, n6, fun H6 p6 xs6 rs6 ok6 x6 S6 l6 r6 => ?_⟩
        have lp6 := lp.ext x6
        walk_at "ss"
        refine ⟨p, xe, rfl, .inl lp6.sq, ?_⟩
        walk_at "ss"
        refine ⟨st, gg, cc, _, xe.length + 1, rfl, by omega, by omega, S6, by omega, fun H7 k7 hk7 x7 S7 => ?_⟩
        have lp7 := lp6.ext x7
        walk_at "ss"
        refine ⟨p, xe, rfl, lp7.sq, fun q7 hq7 => ?_⟩
        have u7 := same_new hq7 (.lst (cutV xe none (some ((k7 : Nat) : Int))))
        walk_at "ss"
        have lp7' := lp7.ext (Ext.same (T := T) u7)
        refine ⟨p, xe, rfl, .inl lp7'.sq, ?_⟩
        walk_at "ss"
        refine ⟨st, gg, cc, _, xe.length, rfl, xp, by omega, S7.same u7, by omega, fun H8 k8 hk8 x8 S8 => ?_⟩
        have lp8 := lp7'.ext x8
        walk_at "ss"
        refine ⟨p, xe, rfl, lp8.sq, fun q8 hq8 => ?_⟩
        have u8 := same_new hq8 (.lst (cutV xe (some ((k8 : Nat) : Int)) none))
        walk_at "ss"
        refine ⟨small (by simp), fun q9 hq9 => ?_⟩
        have u9 := same_new hq9 (.lst [.ref p6, .ref q7, .ref q8])
        obtain ⟨J, hJ⟩ : ∃ J, J = upd (upd H8 q8 (.lst (cutV xe (some ((k8 : Nat) : Int)) none))) q9 (.lst [.ref p6, .ref q7, .ref q8]) := ⟨_, rfl⟩
        have fresh : ∀ {Ja : Hp} {B' : Nat} {q : Addr}, Stt st gg cc B' Ja → Ja q = none → ¬ Fs st gg q := fun S hq z => by
          obtain ⟨⟨_, a1⟩, ⟨_, a2⟩, _⟩ := S.here
          exact z.elim (fun z => by rw [z, a1] at hq; cases hq) (fun z => by rw [z, a2] at hq; cases hq)
        have xa : Ext T (Fs st gg) H8 J := by rw [hJ]; exact Ext.same (u8.trans u9)
        have xb : Ext T (Fs st gg) H7 J := ((Ext.same (T := T) u7).trans x8).trans xa
        have xc : Ext T (Fs st gg) H6 J := x7.trans xb
        have xd : Ext T (Fs st gg) H5 J := x6.trans xc
        have SJ : Stt st gg cc (100000 * i + 1000) J := by rw [hJ]; exact (S8.same (u8.trans u9)).mono (by omega)
        have TJ := xd.tabs T5
        have lJ : Li (Fs st gg) J q9 [.ref p6, .ref q7, .ref q8] := ⟨by rw [hJ]; exact upd_same, fresh (S8.same u8) hq9⟩
        have r1 : RowL st gg n J (.ref p6) := ⟨p6, xs6, rs6, rfl, ok6, l6.ext xc, r6.tups xc.tups⟩
        have rvJ := rv.tups xd.tups
        have r2 : RowL st gg n J (.ref q7) := by
          refine ⟨q7, xe.take k7, (rowsN n).take k7, rfl, lotOk_sub (by omega) n6 (List.take_sublist _ _), ?_, RowsV.take k7 rvJ⟩
          have l7 : Li (Fs st gg) (upd H7 q7 (.lst (cutV xe none (some ((k7 : Nat) : Int))))) q7 (xe.take k7) := ⟨by rw [upd_same, cut_take (by omega)], fresh S7 hq7⟩
          exact (l7.ext x8).ext xa
        have r3 : RowL st gg n J (.ref q8) := by
          refine ⟨q8, xe.drop k8, (rowsN n).drop k8, rfl, lotOk_sub (by omega) n6 (List.drop_sublist _ _), ?_, RowsV.drop k8 rvJ⟩
          have l8 : Li (Fs st gg) (upd H8 q8 (.lst (cutV xe (some ((k8 : Nat) : Int)) none))) q8 (xe.drop k8) := ⟨by rw [upd_same, cut_drop (by omega)], fresh S8 hq8⟩
          rw [hJ]
          exact l8.ext (Ext.same (T := T) u9)
        rw [← hJ]
        walk_at "ss"
        refine ⟨⟨_, lJ.sq⟩, ?_⟩
        refine for_it walk_list (fun j σ H' => (∃ y5 y6 : Option V, σ = [some (.ref sc), some (.ref st), some (.int (n : Nat)), some (.ref p), y4, y5, y6, y7]) ∧ Ext T (Fs st gg) J H' ∧ Stt st gg cc (100000 * i + 1000 + 1000 * j) H') ⟨⟨_, _, rfl⟩, Ext.refl, SJ⟩ (fun j σ H' _ hv => (lJ.ext hv.2.1).sq) (fun j x σ H9 H9' hj hv hy => ?_) (fun σ H' hv => hN _ _ ⟨hv.1, hv.2.2.mono (by simp), hv.2.1.tabs TJ⟩)
        obtain ⟨⟨y5, y6, rfl⟩, xj, Sj⟩ := hv
        obtain ⟨rfl, ex⟩ := hy
        have jl : j < 3 := hj
        have rl : RowL st gg n H9' x := by
          have := List.mem_of_getElem? ex
          simp only [List.mem_cons, List.not_mem_nil, or_false] at this
          rcases this with rfl | rfl | rfl
          · exact r1.ext xj
          · exact r2.ext xj
          · exact r3.ext xj
        obtain ⟨a, xs, rs, rfl, okr, lr, rr⟩ := rl
        refine gn ?_
        walk_at "ss"
        refine ⟨n, a, xs, rs, rfl, okr, lr.1, rr, fun H10 s10 => ?_⟩
        walk_at "ss"
        refine ⟨st, gg, cc, a, _, n, xs, rs, rfl, Sj.same s10, by omega, by omega, okr, lr.ext (Ext.same (T := T) s10), rr.same s10, fun H11 x11 S11 => ?_⟩
        walk_at "ss"
        exact ⟨⟨_, _, rfl⟩, xj.trans ((Ext.same s10).trans x11), S11.mono (by omega)⟩
      · obtain ⟨⟨y5, y6, rfl⟩, S6, T6⟩ := hm
        walk_at "ss"
        refine ⟨by omega, n6, T6, fun H7 x7 => ?_⟩
        walk_at "ss"
        exact ⟨⟨_, _, _, _, _, _, rfl⟩, (S6.ext x7 (fun z => z) (fun z => z) (fun z => z)).mono (by omega), x7.tabs T6⟩
    · obtain ⟨y2, y3, y4, y5, y6, y7, rfl⟩ := hm
      walk_at "ss"
      refine ⟨small (by simp), fun t0 ht0 => ?_⟩
      have u0 := same_new ht0 (.tup [.int 0, .int 0])
      walk_at "ss"
      refine ⟨small (by simp), fun t1 ht1 => ?_⟩
      have u1 := same_new ht1 (.tup [.int 0, .int 1])
      walk_at "ss"
      refine ⟨small (by simp), fun t2 ht2 => ?_⟩
      have u2 := same_new ht2 (.tup [.int 1, .int 0])
      walk_at "ss"
      refine ⟨small (by simp), fun q0 hq0 => ?_⟩
      have u3 := same_new hq0 (.lst [.ref t0, .ref t1, .ref t2])
      walk_at "ss"
      intro x dx hx hd hne
      have rr : ∀ (rs : List (List Int)), rs.Sublist (rowsN 2) → (∀ r ∈ rs, IsRow 2 r) := fun rs hs r hr => rowsN_row 2 r (hs.subset hr)
      refine make_lot2 (n := 2) (rs := [[0, 0], [0, 1], [1, 0]]) hx hd hne upd_same (.cons ⟨t0, rfl, u3 _ _ (u2 _ _ (u1 _ _ upd_same))⟩ (.cons ⟨t1, rfl, u3 _ _ (u2 _ _ upd_same)⟩ (.cons ⟨t2, rfl, u3 _ _ upd_same⟩ .nil))) (rr _ (by decide)) (by decide) (by omega) (by omega) (fun H9 s9 L9 => ⟨rfl, ?_⟩)
      rw [show sortR [[0, 0], [0, 1], [1, 0]] = [[0, 0], [0, 1], [1, 0]] by decide] at L9
      walk_at "ss"
      refine .inl ⟨x, 2, _, rfl, L9, lotOk_sub (by omega) (by omega) (by decide), fun H10 s10 => ?_⟩
      rw [show numL 2 [[0, 0], [0, 1], [1, 0]] = 7 by decide]
      walk_at "ss"
      refine if_t (decide_eq_true rfl) ?_
      walk_at "ss"
      refine ⟨_, _, rfl, .inl ⟨2, rfl, by omega, by omega, .inl ⟨6, rfl, by omega, by decide, fun H11 p11 s11 n11 L11 => ?_⟩⟩⟩
      rw [show bitsOf 6 (rowsN 2) = [[0, 1], [1, 0]] by decide] at L11
      walk_at "ss"
      refine ⟨small (by simp), fun t3 ht3 => ?_⟩
      have v0 := same_new ht3 (.tup [.int 0, .int 1])
      walk_at "ss"
      refine ⟨small (by simp), fun t4 ht4 => ?_⟩
      have v1 := same_new ht4 (.tup [.int 1, .int 0])
      walk_at "ss"
      refine ⟨small (by simp), fun q1 hq1 => ?_⟩
      have v2 := same_new hq1 (.lst [.ref t3, .ref t4])
      walk_at "ss"
      intro x2 dx2 hx2 hd2 hne2
      refine make_lot2 (n := 2) (rs := [[0, 1], [1, 0]]) hx2 hd2 hne2 upd_same (.cons ⟨t3, rfl, v2 _ _ (v1 _ _ upd_same)⟩ (.cons ⟨t4, rfl, v2 _ _ upd_same⟩ .nil)) (rr _ (by decide)) (by decide) (by omega) (by omega) (fun H12 s12 L12 => ⟨rfl, ?_⟩)
      rw [show sortR [[0, 1], [1, 0]] = [[0, 1], [1, 0]] by decide] at L12
      have L11' := L11.same (((v0.trans v1).trans v2).trans s12)
      walk_at "ss"
      refine eqO_by L11' L12 fun H13 s13 => ?_
      refine ⟨_, rfl, if_t (by decide) ?_⟩
      walk_at "ss"
      refine ⟨small (by simp), fun q2 hq2 => ?_⟩
      walk_at "ss"
      intro x3 dx3 hx3 hd3 hne3
      refine make_lot2 (n := 1) (rs := []) hx3 hd3 hne3 upd_same .nil (fun r hr => absurd hr (by simp)) .nil (by omega) (by omega) (fun H14 s14 L14 => ⟨rfl, ?_⟩)
      rw [show sortR [] = [] from rfl] at L14
      walk_at "ss"
      refine .inl ⟨x3, 1, [], rfl, L14, lotOk_sub (by omega) (by omega) (List.nil_sublist _), fun c => absurd c (by decide), fun _ H15 p15 s15 n15 L15 => ?_⟩
      rw [show bitsOf (numL 1 [] + 1) (rowsN 1) = [[0]] by decide] at L15
      walk_at "ss"
      refine ⟨small (by simp), fun t5 ht5 => ?_⟩
      have w0 := same_new ht5 (.tup [.int 0])
      walk_at "ss"
      refine ⟨small (by simp), fun q3 hq3 => ?_⟩
      have w1 := same_new hq3 (.lst [.ref t5])
      walk_at "ss"
      intro x4 dx4 hx4 hd4 hne4
      refine make_lot2 (n := 1) (rs := [[0]]) hx4 hd4 hne4 upd_same (.cons ⟨t5, rfl, w1 _ _ upd_same⟩ .nil) (fun r hr => by rw [List.mem_singleton.mp hr]; exact rowsN_row 1 [0] (by decide)) (by decide) (by omega) (by omega) (fun H16 s16 L16 => ⟨rfl, ?_⟩)
      rw [show sortR [[0]] = [[0]] from rfl] at L16
      have L15' := L15.same ((w0.trans w1).trans s16)
      walk_at "ss"
      refine eqO_by L15' L16 fun H17 s17 => ?_
      have fin := h H17
      rw [← (by decide : (if false = true then !decide (1 = 1 ∧ [[(0 : Int)]] = [[0]]) else decide (1 = 1 ∧ [[(0 : Int)]] = [[0]])) = true)] at fin
      exact fin
end
end KK
/-! E1: a Hook that tells of the statics' dict too, of any Bool of K and of one more thing; a Bool for SupTxt's facts. -/
namespace He
open PySem PySem.Spec PyProof.Rows L2
def asY (g : Addr → Option Obj) (n : Nat) : List Addr := cStatics :: asD g n
structure SaysY {β : Type} (fa : List Fa) (fn : List DefD) (ts : List Tab) (tf : List Defn) (ex : PySem.W.Frag → Bool) (o2 : PySem.W.Frag → β) (v2 : β) (w : World) (h : Heap) (K : PySem.W.Frag) : Prop where
  t : SaysT fa fn ts w K
  more : ex K = true
  two : o2 K = v2
  hd : ∀ p ∈ tf, PySem.W.codeHdIn K (cT K p).1 (cT K p).2 = true
  out : ∀ p ∈ tf, K.lookup (cT K p).2 = none
  empty : ∀ p ∈ tf, h.get? (cT K p).2 = some { cls := .none, data := .fields #[] }
def obsY {β : Type} (n : Nat) (fa : List Fa) (fn : List DefD) (ts : List Tab) (tf : List Defn) (ex : PySem.W.Frag → Bool) (o2 : PySem.W.Frag → β) (g : Addr → Option Obj) : AlT × Bool × β :=
  (obsT fa fn ts (frT g (asY g n)), ex (frT g (asY g n)) && tabsB g tf (frT g (asY g n)), o2 (frT g (asY g n)))
theorem saysY_of {β : Type} {n : Nat} {fa : List Fa} {fn : List DefD} {ts : List Tab} {tf : List Defn} {ex : PySem.W.Frag → Bool} {o2 : PySem.W.Frag → β} {v2 : β} {w : World} {h : Heap} (e : obsY n fa fn ts tf ex o2 h.get? = (valT fn ts w, true, v2)) :
    SaysY fa fn ts tf ex o2 v2 w h (frT h.get? (asY h.get? n)) := by
  unfold obsY at e
  generalize frT_in (as := asY h.get? n) (h := h) = Kin at *
  have hT : ∀ {a o}, h.get? a = some o → emptyTab o = true → (frT h.get? (asY h.get? n)).lookup a = none := fun q z => frT_none q z
  generalize frT h.get? (asY h.get? n) = K at *
  simp only [Prod.mk.injEq] at e
  obtain ⟨e1, e2, e3⟩ := e
  obtain ⟨h1, h2⟩ := ba e2
  have all := List.all_eq_true.mp h2
  have one : ∀ p ∈ tf, PySem.W.codeHdIn K (cT K p).1 (cT K p).2 = true ∧ ∃ o, h.get? (cT K p).2 = some o ∧ emptyTab o = true := by
    intro p hp
    have := ba (all p hp)
    refine ⟨this.1, ?_⟩
    have q := this.2
    split at q
    · rename_i o ho
      exact ⟨o, ho, q⟩
    · cases q
  refine ⟨e1, h1, e3, fun p hp => (one p hp).1, fun p hp => ?_, fun p hp => ?_⟩
  · obtain ⟨_, o, q, z⟩ := one p hp
    exact hT q z
  · obtain ⟨_, o, q, z⟩ := one p hp
    rw [q, emptyTab_eq z]
def hookY {β : Type} (n : Nat) (fa : List Fa) (fn : List DefD) (ts : List Tab) (tf : List Defn) (ex : PySem.W.Frag → Bool) (o2 : PySem.W.Frag → β) (v2 : β) : PySem.W.Hook where
  α := AlT × Bool × β
  obs := fun s => obsY n fa fn ts tf ex o2 s.heap.get?
  val := fun w => (valT fn ts w, true, v2)
  says := fun w h => ∃ K : PySem.W.Frag, K.In h ∧ SaysY fa fn ts tf ex o2 v2 w h K
  of := fun _ _ e => ⟨_, frT_in, saysY_of e⟩
  keeps := fun _ _ _ ⟨K, hK, c⟩ k => ⟨K, PySem.W.Frag.In.keeps hK k, ⟨c.t, c.more, c.two, c.hd, c.out, fun p hp => k _ _ (c.empty p hp)⟩⟩
theorem obsY_eq {β : Type} {n : Nat} {fa : List Fa} {fn : List DefD} {ts : List Tab} {tf : List Defn} {ex : PySem.W.Frag → Bool} {o2 : PySem.W.Frag → β} {v2 : β} {g : Addr → Option Obj} {s : Shared} (h : ∀ a, g a = s.heap.get? a) : obsY n fa fn ts tf ex o2 g = (hookY n fa fn ts tf ex o2 v2).obs s := by
  have e : g = s.heap.get? := funext h
  rw [e] <;> rfl
end He
namespace PySem.SupX
open PySem PySem.W PySem.Spec PyProof.Rows
/-- the object of an own class of ValueErrors -/
def clsB (K : Frag) (C : Addr) : Bool := match K.lookup C with
  | some ⟨.type t, _, .cls cd, sl⟩ => (match cd.mro, sl.toList with
    | .ref C' :: bm, [_, _, _, _, some (.builtin n), _] => decide (t = "type") && (C' == C && (decide (n = "ValueError.__new__") && (!cd.hasDel && (cd.hasDict && PySem.HandSPX.refsVE bm))))
    | _, _ => false)
  | _ => false
theorem clsB_ok {K : Frag} {C : Addr} (h : clsB K C = true) : ∃ nm q N bs bm sn sub ab col dd k0 k1 k2 k3 k5, K.lookup C = some (excClassObj nm q C N bs bm true sn sub ab col dd k0 k1 k2 k3 k5 "ValueError.__new__") ∧ PySem.HandSPX.refsVE bm = true := by
  unfold clsB at h
  split at h
  · rename_i t dd cd sl ho
    split at h
    · rename_i C' bm k0 k1 k2 k3 n k5 hm hs
      simp only [Bool.and_eq_true, beq_iff_eq, Bool.not_eq_true', decide_eq_true_eq] at h
      obtain ⟨h1, h2, h3, h4, h5, h6⟩ := h
      obtain ⟨nm, bs, mro, ns, qn, hd, sn, sub, ab, col, del⟩ := cd
      dsimp only at hm h4 h5
      subst hm h1 h2 h3 h4 h5
      have hsl : sl = #[k0, k1, k2, k3, some (.builtin "ValueError.__new__"), k5] := by
        obtain ⟨l⟩ := sl
        simp only at hs
        rw [hs]
      subst hsl
      exact ⟨_, _, _, _, _, _, _, _, _, _, _, _, _, _, _, ho, h6⟩
    · cases h
  · cases h
end PySem.SupX
/-! E2: facts of the head. -/
namespace PySem.SupX
open PySem PySem.W PySem.Spec PyProof.Rows
abbrev InitV : Type := Option (Str × Arguments × FuncBody × Scope × Addr × List Str × Value × Value × Addr)
def initO (K : Frag) (f : Addr) : InitV := match K.lookup f with
  | some ⟨_, _, .func fd, _⟩ => some (fd.name, fd.params, fd.body, fd.scope, fd.globals, fd.closure.map (·.1), fd.defaults, fd.kwdefaults, fd.builtins)
  | _ => none
/-- what else is asked of an __init__ at f of the class at D: its cell, its code object -/
def initB (file : Str) (K : Frag) (f D : Addr) : Bool := match K.lookup f with
  | some ⟨_, _, .func fd, _⟩ => codeIn K fd.code fd.qualname && ((match fd.closure with
      | [(_, cc)] => (match K.lookup cc with
        | some ⟨_, _, .cell (some (.ref D')), _⟩ => D' == D
        | _ => false)
      | _ => false) && (match fd.code with
      | .ref cda => (match K.lookup cda with
        | some ⟨_, _, .fields vs, _⟩ => (match (vs[2]? : Option Value) with
          | some (.str z _) => decide (z = file)
          | _ => false)
        | _ => false)
      | _ => false))
  | _ => false
def eqB {α : Type} [DecidableEq α] (a b : α) : Bool := decide (a = b)
def supB (K : Frag) (C D fI : Addr) (fld : Str) : Bool :=
  clsB K C && (eqB (ks_superIn K C D "__init__") (some (some (.builtin "ValueError.__init__"))) && ((clsIn K D).isSome && (eqB (findIn K (.ref C) "__setattr__") (some (some (.builtin "object.__setattr__"))) &&
  (eqB (findIn K (.ref C) "__getattribute__") (some (some (.builtin "BaseException.__getattribute__"))) && (eqB (findIn K (.ref C) "__getattr__") (some none) && (eqB (findIn K (.ref C) fld) (some none) &&
  (eqB (findIn K (.ref C) "__init__") (some (some (.ref fI))) && (eqB (typeIn K (.ref fI)) (some (.type "function")) && (keepIn K (.ref C) && (eqB (subIn K (.ref C) (.type "BaseException")) (some true) &&
  (eqB (subIn K (.ref C) (.type "ValueError")) (some true) && (eqB (mroIn K C (.ref D)) (some true) && (eqB (typeIn K (.ref C)) (some (.type "type")) && (hasDictIn K C && eqB (nsIn K cStatics "thirdparty.any") (some none)))))))))))))))
theorem sup_of {P : Program} {K : Frag} {mg : Str → Option Value} {x : Str} {C D fI : Addr} {fld msg : Str} {p1 p2 a1 a2 a3 a4 a5 a6 q1 q2 q3 q4 : Pos} (h : supB K C D fI fld = true) (hi : initB P.main.file K fI D = true)
    (ho : initO K fI = (some (("__init__" : Str), iA fld p1 p2, FuncBody.stmts (iB fld msg a1 a2 a3 a4 a5 a6 q1 q2 q3 q4), iS fld, mainGlobals, [("__class__" : Str)], Value.none, Value.none, builtinsNs) : InitV)) (hpl : Plain msg a1 a2 a3 a4 a5)
    (gC : mg x = some (.ref C)) (zs : mg "super" = none) (top : (P.main.scope.names.lookup ("super" : Str)).isSome = false) (n1 : fld ≠ "self") (n2 : fld ≠ "__class__") (n3 : fld ≠ "super") (n4 : (fld == ("__debug__" : Str)) = false)
    (bnd : ∀ (qual : Str) (body : List Stmt) (doc pm : Value) (an : Option Addr) (cdv : Value) (cc : Addr) (ct : Value) (p1 p2 : Pos) (a b : Value),
      bindArgs (fnX "__init__" qual (iA fld p1 p2) body (iS fld) [((Str.ofString "__class__"), cc)] .none .none doc pm an cdv ct) ⟨[a, b], []⟩ = pure [((Str.ofString "self"), a), (fld, b)]) : SupTxt P K mg x C D fI fld := by
  unfold supB eqB at h
  simp only [Bool.and_eq_true, decide_eq_true_eq] at h
  obtain ⟨h1, h2, h3, h4, h5, h6, h7, h8, h9, h10, h11, h12, h13, h14, h15, h16⟩ := h
  refine ⟨gC, clsB_ok h1, h2, h3, h4, h5, h6, h7, h8, h9, h10, h11, h12, h13, h14, h15, h16, zs, top, n1, n2, n3, n4, bnd, ?_⟩
  unfold initO at ho
  unfold initB at hi
  split at ho
  · rename_i oc od fd osl hk
    rw [hk] at hi
    dsimp only at hi
    simp only [Bool.and_eq_true] at hi
    obtain ⟨i1, i2, i3⟩ := hi
    obtain ⟨z1, z2, z3, z4, z5, z6, z7, z8, z9, z10, z11, z12, z13, z14, z15⟩ := fd
    simp only [Option.some.injEq, Prod.mk.injEq] at ho
    obtain ⟨e1, e2, e3, e4, e5, e6, e7, e8, e9⟩ := ho
    subst e1 e2 e3 e4 e5 e7 e8 e9
    dsimp only at i1 i2 i3
    split at i2
    · rename_i y cc
      have ey : y = "__class__" := by
        simpa using e6
      subst ey
      split at i2
      · rename_i cl cld D' csl hcc
        obtain rfl : D' = D := beq_iff_eq.mp i2
        split at i3
        · rename_i cda
          split at i3
          · rename_i ccl cdd vs ccs hcd
            split at i3
            · rename_i z tf hz
              exact ⟨_, msg, _, _, _, _, _, cda, cc, _, _, p1, p2, a1, a2, a3, a4, a5, a6, q1, q2, q3, q4, hk, i1, ⟨_, _, _, hcc⟩, ⟨_, _, _, vs, z, tf, hcd, hz, by rw [of_decide_eq_true i3]; exact beq_self_eq_true _⟩, hpl⟩
            · cases i3
          · cases i3
        · cases i3
      · cases i2
    · cases i2
  · cases ho
end PySem.SupX
namespace KK
open PySem PySem.Spec PyProof.Rows L2 LamX Cov
/-! ### a class with an own == -/
def eqkB (K : PySem.W.Frag) (C f : Addr) : Bool := match K.lookup C with
  | some ⟨.type t, _, .cls cd, sl⟩ => (match cd.mro, sl.toList with
    | [.ref C', .type o], [_, _, _, _, some (.builtin _), _] => decide (t = "type") && (C' == C && (decide (o = "object") && (!cd.hasDel && (PySem.W.nsOkIn K cd.ns && (He.eqO (PySem.W.nsIn K cd.ns "__eq__") (some (some (.ref f))) && He.eqO (PySem.W.nsIn K cd.ns "__ne__") (some none))))))
    | _, _ => false)
  | _ => false
theorem eqkB_ok {K : PySem.W.Frag} {C f : Addr} (h : eqkB K C f = true) (h1 : PySem.W.findIn K (.ref C) "__eq__" = some (some (.ref f))) (h2 : PySem.W.isFn K (.ref f) = true) (h3 : PySem.W.typeIn K (.ref f) = some (.type "function")) : EqK K C f := by
  refine ⟨h1, h2, ?_, h3⟩
  unfold eqkB at h
  split at h
  · rename_i t dd cd sl ho
    split at h
    · rename_i C' o k0 k1 k2 k3 n k5 hm hs
      simp only [Bool.and_eq_true, beq_iff_eq, Bool.not_eq_true', decide_eq_true_eq] at h
      obtain ⟨g1, g2, g3, g4, g5, g6, g7⟩ := h
      obtain ⟨nm, bs, mro, ns, qn, hd, sn, sub, ab, col, del⟩ := cd
      dsimp only at hm g4 g5 g6 g7
      subst hm g1 g2 g3 g4
      have hsl : sl = #[k0, k1, k2, k3, some (.builtin n), k5] := by
        obtain ⟨l⟩ := sl
        simp only at hs
        rw [hs]
      subst hsl
      exact ⟨_, _, _, _, _, _, _, _, _, _, _, _, _, _, _, _, ho, g5, He.eqO_ok g6, He.eqO_ok g7⟩
    · cases h
  · cases h
/-! ### a property and its getter -/
def getA (K : PySem.W.Frag) (p : Addr) : Addr := match PySem.W.recIn K p "property" with
  | some (.ref g :: _) => g
  | _ => 0
def recB (K : PySem.W.Frag) (p : Addr) : Bool := match PySem.W.recIn K p "property" with
  | some (.ref _ :: _) => true
  | _ => false
def propB (K : PySem.W.Frag) (C : Addr) (f : Str) : Bool := He.eqO (PySem.W.findIn K (.ref C) f) (some (some (.ref (He.ma K C f)))) && (He.eqO (PySem.W.specialIn K (.ref (He.ma K C f)) "__get__") (some (some (.builtin "property.__get__"))) && (decide (PySem.W.takesIn K (.ref (He.ma K C f)) = some true) && recB K (He.ma K C f)))
theorem propB_ok {K : PySem.W.Frag} {C : Addr} {f : Str} (h : propB K C f = true) : PropOf K C f (He.ma K C f) (getA K (He.ma K C f)) := by
  unfold propB at h
  simp only [Bool.and_eq_true, decide_eq_true_eq] at h
  obtain ⟨h1, h2, h3, h4⟩ := h
  refine ⟨He.eqO_ok h1, He.eqO_ok h2, h3, ?_⟩
  unfold recB at h4
  unfold getA
  split at h4
  · rename_i g rest e
    rw [e]
    exact ⟨rest, rfl⟩
  · cases h4
/-! ### a def at an address -/
def fnA (K : PySem.W.Frag) (a : Addr) : He.FnW := match K.lookup a with
  | some ⟨_, _, .func fd, _⟩ => some (fd.name, fd.qualname, fd.params, fd.body, fd.scope, fd.globals, fd.closure, fd.builtins)
  | _ => none
def fnB (K : PySem.W.Frag) (a : Addr) (q : Str) : Bool := PySem.W.keepIn K (.ref a) && (match K.lookup a with
  | some ⟨_, _, .func fd, _⟩ => PySem.W.codeIn K fd.code q && (He.dflB K fd.defaults [] && He.kwdB K fd.kwdefaults [])
  | _ => false)
theorem fnA_ok {K : PySem.W.Frag} {a : Addr} {x q : Str} {ps : Arguments} {body : List Stmt} {sc : Scope} (e : fnA K a = some (x, q, ps, .stmts body, sc, mainGlobals, [], builtinsNs)) (c : fnB K a q = true) : ∃ fd, FunD K x q ps body sc [] [] a fd := by
  unfold fnB at c
  obtain ⟨kp, c2⟩ := Bool.and_eq_true_iff.mp c
  unfold fnA at e
  cases lk : K.lookup a with
  | none =>
    rw [lk] at c2
    cases c2
  | some o =>
    obtain ⟨oc, od, dt, osl⟩ := o
    rw [lk] at c2 e
    cases dt with
    | func fd =>
      obtain ⟨n1, n2, n3, n4, n5, n6, n7, n8, n9, n10, n11, n12, n13, n14, n15⟩ := fd
      have e2 : (some (n1, n2, n3, n4, n5, n6, n7, n15) : He.FnW) = some (x, q, ps, .stmts body, sc, mainGlobals, [], builtinsNs) := e
      simp only [Option.some.injEq, Prod.mk.injEq] at e2
      obtain ⟨h1, h2, h3, h4, h5, h6, h7, h8⟩ := e2
      subst h1 h2 h3 h4 h5 h6 h7 h8
      have c3 : (PySem.W.codeIn K n13 n2 && (He.dflB K n8 [] && He.kwdB K n9 [])) = true := c2
      obtain ⟨k1, k2⟩ := Bool.and_eq_true_iff.mp c3
      obtain ⟨k3, k4⟩ := Bool.and_eq_true_iff.mp k2
      exact ⟨_, ⟨oc, od, n8, n9, n10, n11, n12, n13, n14, osl, rfl, lk, k1, He.dflB_ok k3, He.kwdB_ok k4⟩, kp⟩
    | _ => cases c2
/-! ### what isinstance says of the class -/
def insB (K : PySem.W.Frag) (C : Addr) : Bool := He.eqO (PySem.W.findIn K (.ref C) "__class__") (some (some (.builtin "object.__class__"))) && (He.eqO (PySem.W.specialIn K (.builtin "object.__class__") "__get__") (some (some (.builtin "getset_descriptor.__get__"))) && (decide (PySem.W.takesIn K (.builtin "object.__class__") = some true) &&
  (decide (PySem.W.mroIn K C (.type "object") = some true) && (decide (PySem.W.kitOne K (.ref C) (.ref C) = some true) && (decide (PySem.W.kitOne K (.type "NoneType") (.ref C) = some false) && decide (PySem.W.kitOne K (.type "list") (.ref C) = some false))))))
theorem insB_ok {K : PySem.W.Frag} {C : Addr} (h : insB K C = true) : InsT K C := by
  unfold insB at h
  simp only [Bool.and_eq_true, decide_eq_true_eq] at h
  obtain ⟨h1, h2, h3, h4, h5, h6, h7⟩ := h
  exact ⟨He.eqO_ok h1, He.eqO_ok h2, h3, h4, h5, h6, h7⟩
end KK
/-! E3: the head's facts of k22. -/
namespace KF
open PySem PySem.Spec PyProof.Rows L2 LamX Cov KK
theorem kw_rel {vs : List V} {us : List Value} {zs : List V} {ws : List Value} (h : Vals vs us) (k : Vals zs ws) : Vals (kwV vs zs) (kwU us ws) := by
  cases h with
  | nil => exact Vals.reverse k
  | cons _ _ => exact .nil
theorem kb_two {K : PySem.W.Frag} {fd : FuncData} {p q : Str} (h : ∀ a b : Value, bindArgs fd ⟨[], [(q, a), (p, b)]⟩ = pure [(p, b), (q, a)]) : KBinds K fd [p, q] [q, p] kwU kwV := by
  refine ⟨fun s us ws _ hl => ?_, fun h k => kw_rel h k⟩
  match us, ws, hl with
  | [], [a, b], _ => exact BindsTo.of_looks fun M => PySem.W.Looks.of_pure (h a b)
  | [], [], hl => cases hl
  | [], [_], hl => cases hl
  | [], _ :: _ :: _ :: _, hl => simp [kwU] at hl
  | _ :: _, _, hl => cases hl
theorem kb_one {K : PySem.W.Frag} {fd : FuncData} {p : Str} (h : ∀ a : Value, bindArgs fd ⟨[], [(p, a)]⟩ = pure [(p, a)]) : KBinds K fd [p] [p] kwU kwV := by
  refine ⟨fun s us ws _ hl => ?_, fun h k => kw_rel h k⟩
  match us, ws, hl with
  | [], [a], _ => exact BindsTo.of_looks fun M => PySem.W.Looks.of_pure (h a)
  | [], [], hl => cases hl
  | [], _ :: _ :: _, hl => simp [kwU] at hl
  | _ :: _, _, hl => cases hl

def dis_number : He.DefD := ⟨("is_number", none), "is_number", "is_number", defArgs sis_number, defBody sis_number, defScope sis_number, [], []⟩
def dis_between : He.DefD := ⟨("is_between", none), "is_between", "is_between", defArgs sis_between, defBody sis_between, defScope sis_between, [], []⟩
def dis_list : He.DefD := ⟨("is_list", none), "is_list", "is_list", defArgs sis_list, defBody sis_list, defScope sis_list, [], []⟩
def dis_rising : He.DefD := ⟨("is_rising", none), "is_rising", "is_rising", defArgs sis_rising, defBody sis_rising, defScope sis_rising, [], []⟩
def dis_tuple_of : He.DefD := ⟨("is_tuple_of", none), "is_tuple_of", "is_tuple_of", defArgs sis_tuple_of, defBody sis_tuple_of, defScope sis_tuple_of, [], []⟩
def dis_row : He.DefD := ⟨("is_row", none), "is_row", "is_row", defArgs sis_row, defBody sis_row, defScope sis_row, [], []⟩
def dneed_rows : He.DefD := ⟨("need_rows", none), "need_rows", "need_rows", defArgs sneed_rows, defBody sneed_rows, defScope sneed_rows, [], []⟩
def dneed_lot : He.DefD := ⟨("need_lot", none), "need_lot", "need_lot", defArgs sneed_lot, defBody sneed_lot, defScope sneed_lot, [.non], []⟩
def dis_asked : He.DefD := ⟨("is_asked", none), "is_asked", "is_asked", defArgs sis_asked, defBody sis_asked, defScope sis_asked, [], []⟩
def dneed_asked : He.DefD := ⟨("need_asked", none), "need_asked", "need_asked", defArgs sneed_asked, defBody sneed_asked, defScope sneed_asked, [], []⟩
def dneed_lot_asked : He.DefD := ⟨("need_lot_asked", none), "need_lot_asked", "need_lot_asked", defArgs sneed_lot_asked, defBody sneed_lot_asked, defScope sneed_lot_asked, [], []⟩
def dall_answers : He.DefD := ⟨("all_answers", none), "all_answers", "all_answers", defArgs sall_answers, defBody sall_answers, defScope sall_answers, [], []⟩
def drest_lot : He.DefD := ⟨("rest_lot", none), "rest_lot", "rest_lot", defArgs srest_lot, defBody srest_lot, defScope srest_lot, [], []⟩
def dflipped_row : He.DefD := ⟨("flipped_row", none), "flipped_row", "flipped_row", defArgs sflipped_row, defBody sflipped_row, defScope sflipped_row, [], []⟩
def dflipped_lot : He.DefD := ⟨("flipped_lot", none), "flipped_lot", "flipped_lot", defArgs sflipped_lot, defBody sflipped_lot, defScope sflipped_lot, [], []⟩
def dneed_two : He.DefD := ⟨("need_two", none), "need_two", "need_two", defArgs sneed_two, defBody sneed_two, defScope sneed_two, [], []⟩
def dbeside : He.DefD := ⟨("beside", none), "beside", "beside", defArgs sbeside, defBody sbeside, defScope sbeside, [], []⟩
def dneed_place_count : He.DefD := ⟨("need_place_count", none), "need_place_count", "need_place_count", defArgs sneed_place_count, defBody sneed_place_count, defScope sneed_place_count, [], []⟩
def dpower_of_two : He.DefD := ⟨("power_of_two", none), "power_of_two", "power_of_two", defArgs spower_of_two, defBody spower_of_two, defScope spower_of_two, [], []⟩
def dlot_number : He.DefD := ⟨("lot_number", none), "lot_number", "lot_number", defArgs slot_number, defBody slot_number, defScope slot_number, [], []⟩
def dlots_many : He.DefD := ⟨("lots_many", none), "lots_many", "lots_many", defArgs slots_many, defBody slots_many, defScope slots_many, [], []⟩
def dlot_by_number : He.DefD := ⟨("lot_by_number", none), "lot_by_number", "lot_by_number", defArgs slot_by_number, defBody slot_by_number, defScope slot_by_number, [], []⟩
def dlot_at : He.DefD := ⟨("lot_at", none), "lot_at", "lot_at", defArgs slot_at, defBody slot_at, defScope slot_at, [], []⟩
def dnext_lot : He.DefD := ⟨("next_lot", none), "next_lot", "next_lot", defArgs snext_lot, defBody snext_lot, defScope snext_lot, [], []⟩
def d_law_begun : He.DefD := ⟨("_law_begun", none), "_law_begun", "_law_begun", defArgs s_law_begun, defBody s_law_begun, defScope s_law_begun, [], []⟩
def d_law_blended : He.DefD := ⟨("_law_blended", none), "_law_blended", "_law_blended", defArgs s_law_blended, defBody s_law_blended, defScope s_law_blended, [], []⟩
def d_law_draw : He.DefD := ⟨("_law_draw", none), "_law_draw", "_law_draw", defArgs s_law_draw, defBody s_law_draw, defScope s_law_draw, [], []⟩
def d_law_pick : He.DefD := ⟨("_law_pick", none), "_law_pick", "_law_pick", defArgs s_law_pick, defBody s_law_pick, defScope s_law_pick, [], []⟩
def d_law_caught : He.DefD := ⟨("_law_caught", none), "_law_caught", "_law_caught", defArgs s_law_caught, defBody s_law_caught, defScope s_law_caught, [], []⟩
def d_law_rows : He.DefD := ⟨("_law_rows", none), "_law_rows", "_law_rows", defArgs s_law_rows, defBody s_law_rows, defScope s_law_rows, [], []⟩
def d_law_sets : He.DefD := ⟨("_law_sets", none), "_law_sets", "_law_sets", defArgs s_law_sets, defBody s_law_sets, defScope s_law_sets, [], []⟩
def d_law_at : He.DefD := ⟨("_law_at", none), "_law_at", "_law_at", defArgs s_law_at, defBody s_law_at, defScope s_law_at, [], []⟩
def d_law_fits : He.DefD := ⟨("_law_fits", none), "_law_fits", "_law_fits", defArgs s_law_fits, defBody s_law_fits, defScope s_law_fits, [], []⟩
def d_law_share : He.DefD := ⟨("_law_share", none), "_law_share", "_law_share", defArgs s_law_share, defBody s_law_share, defScope s_law_share, [], []⟩
def d_law_lot : He.DefD := ⟨("_law_lot", none), "_law_lot", "_law_lot", defArgs s_law_lot, defBody s_law_lot, defScope s_law_lot, [], []⟩
def d_law_lot_refused : He.DefD := ⟨("_law_lot_refused", none), "_law_lot_refused", "_law_lot_refused", defArgs s_law_lot_refused, defBody s_law_lot_refused, defScope s_law_lot_refused, [], []⟩
def d_law_number : He.DefD := ⟨("_law_number", none), "_law_number", "_law_number", defArgs s_law_number, defBody s_law_number, defScope s_law_number, [], []⟩
def d_law_many : He.DefD := ⟨("_law_many", none), "_law_many", "_law_many", defArgs s_law_many, defBody s_law_many, defScope s_law_many, [], []⟩
def d_law_lot_right : He.DefD := ⟨("_law_lot_right", none), "_law_lot_right", "_law_lot_right", defArgs s_law_lot_right, defBody s_law_lot_right, defScope s_law_lot_right, [], []⟩
def d_law_made_right : He.DefD := ⟨("_law_made_right", none), "_law_made_right", "_law_made_right", defArgs s_law_made_right, defBody s_law_made_right, defScope s_law_made_right, [], []⟩
def d_law_errors_right : He.DefD := ⟨("_law_errors_right", none), "_law_errors_right", "_law_errors_right", defArgs s_law_errors_right, defBody s_law_errors_right, defScope s_law_errors_right, [], []⟩
def dlaw : He.DefD := ⟨("law", none), "law", "law", defArgs slaw, defBody slaw, defScope slaw, [], []⟩
def dLot___init__ : He.DefD := ⟨("Lot", some "__init__"), "__init__", "Lot.__init__", defArgs sLot___init__, defBody sLot___init__, defScope sLot___init__, [], []⟩
def dLot_has : He.DefD := ⟨("Lot", some "has"), "has", "Lot.has", defArgs sLot_has, defBody sLot_has, defScope sLot_has, [], []⟩
def dLot_many : He.DefD := ⟨("Lot", some "many"), "many", "Lot.many", defArgs sLot_many, defBody sLot_many, defScope sLot_many, [], []⟩
def dLot___eq__ : He.DefD := ⟨("Lot", some "__eq__"), "__eq__", "Lot.__eq__", defArgs sLot___eq__, defBody sLot___eq__, defScope sLot___eq__, [], []⟩
def fn : List He.DefD := [dis_number, dis_between, dis_list, dis_rising, dis_tuple_of, dis_row, dneed_rows, dneed_lot, dis_asked, dneed_asked, dneed_lot_asked, dall_answers, drest_lot, dflipped_row, dflipped_lot, dneed_two, dbeside, dneed_place_count, dpower_of_two, dlot_number, dlots_many, dlot_by_number, dlot_at, dnext_lot, d_law_begun, d_law_blended, d_law_draw, d_law_pick, d_law_caught, d_law_rows, d_law_sets, d_law_at, d_law_fits, d_law_share, d_law_lot, d_law_lot_refused, d_law_number, d_law_many, d_law_lot_right, d_law_made_right, d_law_errors_right, dlaw, dLot___init__, dLot_has, dLot_many, dLot___eq__]
def fa : List He.Fa := [.glo "is_number", .glo "is_between", .glo "is_list", .glo "is_rising", .glo "is_tuple_of", .glo "is_row", .glo "need_rows", .glo "need_lot", .glo "is_asked", .glo "need_asked", .glo "need_lot_asked", .glo "all_answers", .glo "rest_lot", .glo "flipped_row", .glo "flipped_lot", .glo "need_two", .glo "beside", .glo "need_place_count", .glo "power_of_two", .glo "lot_number", .glo "lots_many", .glo "lot_by_number", .glo "lot_at", .glo "next_lot", .glo "_law_begun", .glo "_law_blended", .glo "_law_draw", .glo "_law_pick", .glo "_law_caught", .glo "_law_rows", .glo "_law_sets", .glo "_law_at", .glo "_law_fits", .glo "_law_share", .glo "_law_lot", .glo "_law_lot_refused", .glo "_law_number", .glo "_law_many", .glo "_law_lot_right", .glo "_law_made_right", .glo "_law_errors_right", .glo "law", .glo "Lot", .glo "LotError", .glo "NoLot", .glo "BadNumber", .glo "BadPlaces", .glo "BadRows", .glo "BadAsked", .glo "NoRoom", .free "len", .free "isinstance", .free "str", .free "int", .free "bool", .free "tuple", .free "list", .free "dict", .free "all", .free "any", .free "sum", .free "range", .free "min", .free "max", .free "abs", .free "sorted", .free "enumerate", .free "zip", .free "set", .free "super", .int "MOST_PLACES" 6, .exc "BadPlaces", .exc "BadAsked", .exc "NoRoom", .exm "NoLot" "LotError" true, .exm "BadNumber" "LotError" true, .exm "BadPlaces" "LotError" true, .cls "Lot", .noat "Lot" "own_places", .noat "Lot" "own_rows", .noat "Lot" "own_known", .meth "Lot" "has", .meth "Lot" "many", .meth "Lot" "__eq__", .mkr "Lot"]
def ts : List He.Tab := []
def tf : List He.Defn := [("_law_lot_refused", none), ("_law_errors_right", none)]
def aL (K : PySem.W.Frag) : Addr := He.ga K "Lot"
def aN (K : PySem.W.Frag) : Addr := He.ga K "NoLot"
def aB (K : PySem.W.Frag) : Addr := He.ga K "BadNumber"
def aR (K : PySem.W.Frag) : Addr := He.ga K "BadRows"
def aP (K : PySem.W.Frag) : Addr := He.ga K "BadPlaces"
def aE (K : PySem.W.Frag) : Addr := He.ga K "LotError"
def aDP (K : PySem.W.Frag) : Addr := He.ga K "PartError"
def aDI (K : PySem.W.Frag) : Addr := He.ga K "ItemError"
def iN (K : PySem.W.Frag) : Addr := He.ma K (aN K) "__init__"
def iB (K : PySem.W.Frag) : Addr := He.ma K (aB K) "__init__"
def iR (K : PySem.W.Frag) : Addr := He.ma K (aR K) "__init__"
def pP (K : PySem.W.Frag) : Addr := He.ma K (aL K) "places"
def pR (K : PySem.W.Frag) : Addr := He.ma K (aL K) "rows"
def gP (K : PySem.W.Frag) : Addr := getA K (pP K)
def gR (K : PySem.W.Frag) : Addr := getA K (pR K)
def fI (K : PySem.W.Frag) : Addr := He.ma K (aL K) "__init__"
def fH (K : PySem.W.Frag) : Addr := He.ma K (aL K) "has"
def fM (K : PySem.W.Frag) : Addr := He.ma K (aL K) "many"
def fE (K : PySem.W.Frag) : Addr := He.ma K (aL K) "__eq__"
open PySem.SupX in
def excCB (K : PySem.W.Frag) (D : Addr) : Bool := eqB (PySem.W.findIn K (.ref D) "__getattribute__") (some (some (.builtin "BaseException.__getattribute__"))) && (eqB (PySem.W.findIn K (.ref D) "__getattr__") (some none) && (eqB (PySem.W.subIn K (.ref D) (.type "BaseException")) (some true) && (PySem.W.hasDictIn K D &&
  (eqB (PySem.W.findIn K (.ref D) "__class__") (some (some (.builtin "object.__class__"))) && (eqB (PySem.W.specialIn K (.builtin "object.__class__") "__get__") (some (some (.builtin "getset_descriptor.__get__"))) && (eqB (PySem.W.takesIn K (.builtin "object.__class__")) (some true) && eqB (PySem.W.mroIn K D (.type "object")) (some true)))))))
theorem excCB_ok {K : PySem.W.Frag} {D : Addr} (h : excCB K D = true) : ExcC K D := by
  unfold excCB PySem.SupX.eqB at h
  simp only [Bool.and_eq_true, decide_eq_true_eq] at h
  obtain ⟨h1, h2, h3, h4, h5, h6, h7, h8⟩ := h
  exact ⟨h1, h2, h3, h4, h5, h6, h7, h8⟩
def file : Str := "/claim/cut.py"
def ex (K : PySem.W.Frag) : Bool := PySem.SupX.supB K (aN K) (aDP K) (iN K) "part" && (PySem.SupX.initB file K (iN K) (aDP K) && (PySem.SupX.supB K (aB K) (aDP K) (iB K) "part" && (PySem.SupX.initB file K (iB K) (aDP K) && (PySem.SupX.supB K (aR K) (aDI K) (iR K) "index" && (PySem.SupX.initB file K (iR K) (aDI K) &&
  (excCB K (aN K) && (excCB K (aB K) && (excCB K (aP K) && (xfB K (aN K) && (xfB K (aB K) && (propB K (aL K) "places" && (propB K (aL K) "rows" && (eqkB K (aL K) (fE K) && (PySem.SupX.eqB (PySem.W.typeIn K (.ref (fE K))) (some (.type "function")) && (insB K (aL K) && (fnB K (gP K) "Lot.places" && (fnB K (gR K) "Lot.rows" && decide ((He.cT K ("_law_lot_refused", none)).2 ≠ (He.cT K ("_law_errors_right", none)).2))))))))))))))))))
def o2 (K : PySem.W.Frag) : PySem.SupX.InitV × PySem.SupX.InitV × PySem.SupX.InitV × He.FnW × He.FnW := (PySem.SupX.initO K (iN K), PySem.SupX.initO K (iB K), PySem.SupX.initO K (iR K), fnA K (gP K), fnA K (gR K))
def msgP : Str := "a value is not as it should be"
def msgI : Str := "a list is not as it should be"
def vP : PySem.SupX.InitV := some ("__init__", PySem.SupX.iA "part" ⟨6, 17, 6, 21⟩ ⟨6, 23, 6, 27⟩, FuncBody.stmts (PySem.SupX.iB "part" msgP ⟨7, 8, 7, 13⟩ ⟨7, 8, 7, 15⟩ ⟨7, 8, 7, 24⟩ ⟨7, 25, 7, 57⟩ ⟨7, 8, 7, 58⟩ ⟨7, 8, 7, 58⟩ ⟨8, 8, 8, 12⟩ ⟨8, 8, 8, 17⟩ ⟨8, 20, 8, 24⟩ ⟨8, 8, 8, 24⟩), PySem.SupX.iS "part", mainGlobals, ["__class__"], Value.none, Value.none, builtinsNs)
def vI : PySem.SupX.InitV := some ("__init__", PySem.SupX.iA "index" ⟨11, 17, 11, 21⟩ ⟨11, 23, 11, 28⟩, FuncBody.stmts (PySem.SupX.iB "index" msgI ⟨12, 8, 12, 13⟩ ⟨12, 8, 12, 15⟩ ⟨12, 8, 12, 24⟩ ⟨12, 25, 12, 56⟩ ⟨12, 8, 12, 57⟩ ⟨12, 8, 12, 57⟩ ⟨13, 8, 13, 12⟩ ⟨13, 8, 13, 18⟩ ⟨13, 21, 13, 26⟩ ⟨13, 8, 13, 26⟩), PySem.SupX.iS "index", mainGlobals, ["__class__"], Value.none, Value.none, builtinsNs)
def vF (x q : Str) (s : Stmt) : He.FnW := some (x, q, defArgs s, .stmts (defBody s), defScope s, mainGlobals, [], builtinsNs)
def v2 : PySem.SupX.InitV × PySem.SupX.InitV × PySem.SupX.InitV × He.FnW × He.FnW := (vP, vP, vI, vF "places" "Lot.places" sLot_places, vF "rows" "Lot.rows" sLot_rows)
theorem plainP : PySem.SupX.Plain msgP ⟨7, 8, 7, 13⟩ ⟨7, 8, 7, 15⟩ ⟨7, 8, 7, 24⟩ ⟨7, 25, 7, 57⟩ ⟨7, 8, 7, 58⟩ := ⟨_, fun env => rfl⟩
theorem plainI : PySem.SupX.Plain msgI ⟨12, 8, 12, 13⟩ ⟨12, 8, 12, 15⟩ ⟨12, 8, 12, 24⟩ ⟨12, 25, 12, 56⟩ ⟨12, 8, 12, 57⟩ := ⟨_, fun env => rfl⟩
theorem PX.bndP (qual : Str) (body : List Stmt) (doc pm : Value) (an : Option Addr) (cdv : Value) (cc : Addr) (ct : Value) (p1 p2 : Pos) (a b : Value) :
    bindArgs (PySem.W.fnX "__init__" qual (PySem.SupX.iA "part" p1 p2) body (PySem.SupX.iS "part") [((Str.ofString "__class__"), cc)] .none .none doc pm an cdv ct) ⟨[a, b], []⟩ = pure [((Str.ofString "self"), a), ("part", b)] := rfl
theorem PX.bndI (qual : Str) (body : List Stmt) (doc pm : Value) (an : Option Addr) (cdv : Value) (cc : Addr) (ct : Value) (p1 p2 : Pos) (a b : Value) :
    bindArgs (PySem.W.fnX "__init__" qual (PySem.SupX.iA "index" p1 p2) body (PySem.SupX.iS "index") [((Str.ofString "__class__"), cc)] .none .none doc pm an cdv ct) ⟨[a, b], []⟩ = pure [((Str.ofString "self"), a), ("index", b)] := rfl
abbrev Says (w : World) (h : Heap) (K : PySem.W.Frag) : Prop := He.SaysY fa fn ts tf ex o2 v2 w h K
section
variable {w : World} {K : PySem.W.Frag} {mg : Str → Option Value} {h : Heap}
structure ExA (K : PySem.W.Frag) : Prop where
  sN : PySem.SupX.supB K (aN K) (aDP K) (iN K) "part" = true
  nN : PySem.SupX.initB file K (iN K) (aDP K) = true
  sB : PySem.SupX.supB K (aB K) (aDP K) (iB K) "part" = true
  nB : PySem.SupX.initB file K (iB K) (aDP K) = true
  sR : PySem.SupX.supB K (aR K) (aDI K) (iR K) "index" = true
  nR : PySem.SupX.initB file K (iR K) (aDI K) = true
  cN : excCB K (aN K) = true
  cB : excCB K (aB K) = true
  cP : excCB K (aP K) = true
  xN : xfB K (aN K) = true
  xB : xfB K (aB K) = true
  pp : propB K (aL K) "places" = true
  pr : propB K (aL K) "rows" = true
  ek : eqkB K (aL K) (fE K) = true
  te : PySem.SupX.eqB (PySem.W.typeIn K (.ref (fE K))) (some (.type "function")) = true
  ins : insB K (aL K) = true
  bp : fnB K (gP K) "Lot.places" = true
  br : fnB K (gR K) "Lot.rows" = true
  ne : (He.cT K ("_law_lot_refused", none)).2 ≠ (He.cT K ("_law_errors_right", none)).2
theorem ex_all (c : Says w h K) : ExA K := by
  have z := c.more
  unfold ex at z
  simp only [Bool.and_eq_true, decide_eq_true_eq] at z
  obtain ⟨z1, z2, z3, z4, z5, z6, z7, z8, z9, z10, z11, z12, z13, z14, z15, z16, z17, z18, z19⟩ := z
  exact ⟨z1, z2, z3, z4, z5, z6, z7, z8, z9, z10, z11, z12, z13, z14, z15, z16, z17, z18, z19⟩
theorem zs_of (X : K.In h) (G : h.Ns mainGlobals mg) (c : Says w h K) : Zs mg := ⟨He.free_ok X G (c.t.d.fact 50 rfl), He.free_ok X G (c.t.d.fact 51 rfl), He.free_ok X G (c.t.d.fact 52 rfl), He.free_ok X G (c.t.d.fact 53 rfl), He.free_ok X G (c.t.d.fact 54 rfl), He.free_ok X G (c.t.d.fact 55 rfl), He.free_ok X G (c.t.d.fact 56 rfl), He.free_ok X G (c.t.d.fact 57 rfl), He.free_ok X G (c.t.d.fact 58 rfl), He.free_ok X G (c.t.d.fact 59 rfl), He.free_ok X G (c.t.d.fact 60 rfl), He.free_ok X G (c.t.d.fact 61 rfl), He.free_ok X G (c.t.d.fact 62 rfl), He.free_ok X G (c.t.d.fact 63 rfl), He.free_ok X G (c.t.d.fact 64 rfl), He.free_ok X G (c.t.d.fact 65 rfl), He.free_ok X G (c.t.d.fact 66 rfl), He.free_ok X G (c.t.d.fact 67 rfl), He.free_ok X G (c.t.d.fact 68 rfl)⟩
theorem fis_number (c : Says w h K) : ∃ fd, FnP K "is_number" sis_number (He.ga K "is_number") fd := c.t.d.def_ 0 (d := dis_number) rfl
theorem mis_number (X : K.In h) (G : h.Ns mainGlobals mg) (c : Says w h K) {fd : FuncData} (F : FnP K "is_number" sis_number (He.ga K "is_number") fd) : Dat K mg "is_number" (He.ga K "is_number") fd ["thing"] := ⟨He.glo_ok X G (c.t.d.fact 0 rfl), F.kp, FunD.bindsN F fun _ _ _ _ _ _ us hl => match us, hl with | [_], _ => rfl⟩
theorem fis_between (c : Says w h K) : ∃ fd, FnP K "is_between" sis_between (He.ga K "is_between") fd := c.t.d.def_ 1 (d := dis_between) rfl
theorem mis_between (X : K.In h) (G : h.Ns mainGlobals mg) (c : Says w h K) {fd : FuncData} (F : FnP K "is_between" sis_between (He.ga K "is_between") fd) : Dat K mg "is_between" (He.ga K "is_between") fd ["thing", "low", "high"] := ⟨He.glo_ok X G (c.t.d.fact 1 rfl), F.kp, FunD.bindsN F fun _ _ _ _ _ _ us hl => match us, hl with | [_, _, _], _ => rfl⟩
theorem fis_list (c : Says w h K) : ∃ fd, FnP K "is_list" sis_list (He.ga K "is_list") fd := c.t.d.def_ 2 (d := dis_list) rfl
theorem mis_list (X : K.In h) (G : h.Ns mainGlobals mg) (c : Says w h K) {fd : FuncData} (F : FnP K "is_list" sis_list (He.ga K "is_list") fd) : Dat K mg "is_list" (He.ga K "is_list") fd ["thing"] := ⟨He.glo_ok X G (c.t.d.fact 2 rfl), F.kp, FunD.bindsN F fun _ _ _ _ _ _ us hl => match us, hl with | [_], _ => rfl⟩
theorem fis_rising (c : Says w h K) : ∃ fd, FnP K "is_rising" sis_rising (He.ga K "is_rising") fd := c.t.d.def_ 3 (d := dis_rising) rfl
theorem mis_rising (X : K.In h) (G : h.Ns mainGlobals mg) (c : Says w h K) {fd : FuncData} (F : FnP K "is_rising" sis_rising (He.ga K "is_rising") fd) : Dat K mg "is_rising" (He.ga K "is_rising") fd ["several"] := ⟨He.glo_ok X G (c.t.d.fact 3 rfl), F.kp, FunD.bindsN F fun _ _ _ _ _ _ us hl => match us, hl with | [_], _ => rfl⟩
theorem fis_tuple_of (c : Says w h K) : ∃ fd, FnP K "is_tuple_of" sis_tuple_of (He.ga K "is_tuple_of") fd := c.t.d.def_ 4 (d := dis_tuple_of) rfl
theorem mis_tuple_of (X : K.In h) (G : h.Ns mainGlobals mg) (c : Says w h K) {fd : FuncData} (F : FnP K "is_tuple_of" sis_tuple_of (He.ga K "is_tuple_of") fd) : Dat K mg "is_tuple_of" (He.ga K "is_tuple_of") fd ["thing", "many", "low", "high"] := ⟨He.glo_ok X G (c.t.d.fact 4 rfl), F.kp, FunD.bindsN F fun _ _ _ _ _ _ us hl => match us, hl with | [_, _, _, _], _ => rfl⟩
theorem fis_row (c : Says w h K) : ∃ fd, FnP K "is_row" sis_row (He.ga K "is_row") fd := c.t.d.def_ 5 (d := dis_row) rfl
theorem mis_row (X : K.In h) (G : h.Ns mainGlobals mg) (c : Says w h K) {fd : FuncData} (F : FnP K "is_row" sis_row (He.ga K "is_row") fd) : Dat K mg "is_row" (He.ga K "is_row") fd ["places", "thing"] := ⟨He.glo_ok X G (c.t.d.fact 5 rfl), F.kp, FunD.bindsN F fun _ _ _ _ _ _ us hl => match us, hl with | [_, _], _ => rfl⟩
theorem fneed_rows (c : Says w h K) : ∃ fd, FnP K "need_rows" sneed_rows (He.ga K "need_rows") fd := c.t.d.def_ 6 (d := dneed_rows) rfl
theorem mneed_rows (X : K.In h) (G : h.Ns mainGlobals mg) (c : Says w h K) {fd : FuncData} (F : FnP K "need_rows" sneed_rows (He.ga K "need_rows") fd) : Dat K mg "need_rows" (He.ga K "need_rows") fd ["places", "rows"] := ⟨He.glo_ok X G (c.t.d.fact 6 rfl), F.kp, FunD.bindsN F fun _ _ _ _ _ _ us hl => match us, hl with | [_, _], _ => rfl⟩
theorem fneed_lot (c : Says w h K) : ∃ fd, FunD K "need_lot" "need_lot" (defArgs sneed_lot) (defBody sneed_lot) (defScope sneed_lot) [.non] [] (He.ga K "need_lot") fd := c.t.d.def_ 7 (d := dneed_lot) rfl
theorem fis_asked (c : Says w h K) : ∃ fd, FnP K "is_asked" sis_asked (He.ga K "is_asked") fd := c.t.d.def_ 8 (d := dis_asked) rfl
theorem mis_asked (X : K.In h) (G : h.Ns mainGlobals mg) (c : Says w h K) {fd : FuncData} (F : FnP K "is_asked" sis_asked (He.ga K "is_asked") fd) : Dat K mg "is_asked" (He.ga K "is_asked") fd ["places", "thing"] := ⟨He.glo_ok X G (c.t.d.fact 8 rfl), F.kp, FunD.bindsN F fun _ _ _ _ _ _ us hl => match us, hl with | [_, _], _ => rfl⟩
theorem fneed_asked (c : Says w h K) : ∃ fd, FnP K "need_asked" sneed_asked (He.ga K "need_asked") fd := c.t.d.def_ 9 (d := dneed_asked) rfl
theorem mneed_asked (X : K.In h) (G : h.Ns mainGlobals mg) (c : Says w h K) {fd : FuncData} (F : FnP K "need_asked" sneed_asked (He.ga K "need_asked") fd) : Dat K mg "need_asked" (He.ga K "need_asked") fd ["lot", "asked"] := ⟨He.glo_ok X G (c.t.d.fact 9 rfl), F.kp, FunD.bindsN F fun _ _ _ _ _ _ us hl => match us, hl with | [_, _], _ => rfl⟩
theorem fneed_lot_asked (c : Says w h K) : ∃ fd, FnP K "need_lot_asked" sneed_lot_asked (He.ga K "need_lot_asked") fd := c.t.d.def_ 10 (d := dneed_lot_asked) rfl
theorem mneed_lot_asked (X : K.In h) (G : h.Ns mainGlobals mg) (c : Says w h K) {fd : FuncData} (F : FnP K "need_lot_asked" sneed_lot_asked (He.ga K "need_lot_asked") fd) : Dat K mg "need_lot_asked" (He.ga K "need_lot_asked") fd ["lot", "asked"] := ⟨He.glo_ok X G (c.t.d.fact 10 rfl), F.kp, FunD.bindsN F fun _ _ _ _ _ _ us hl => match us, hl with | [_, _], _ => rfl⟩
theorem fall_answers (c : Says w h K) : ∃ fd, FnP K "all_answers" sall_answers (He.ga K "all_answers") fd := c.t.d.def_ 11 (d := dall_answers) rfl
theorem mall_answers (X : K.In h) (G : h.Ns mainGlobals mg) (c : Says w h K) {fd : FuncData} (F : FnP K "all_answers" sall_answers (He.ga K "all_answers") fd) : Dat K mg "all_answers" (He.ga K "all_answers") fd ["many"] := ⟨He.glo_ok X G (c.t.d.fact 11 rfl), F.kp, FunD.bindsN F fun _ _ _ _ _ _ us hl => match us, hl with | [_], _ => rfl⟩
theorem frest_lot (c : Says w h K) : ∃ fd, FnP K "rest_lot" srest_lot (He.ga K "rest_lot") fd := c.t.d.def_ 12 (d := drest_lot) rfl
theorem mrest_lot (X : K.In h) (G : h.Ns mainGlobals mg) (c : Says w h K) {fd : FuncData} (F : FnP K "rest_lot" srest_lot (He.ga K "rest_lot") fd) : Dat K mg "rest_lot" (He.ga K "rest_lot") fd ["lot"] := ⟨He.glo_ok X G (c.t.d.fact 12 rfl), F.kp, FunD.bindsN F fun _ _ _ _ _ _ us hl => match us, hl with | [_], _ => rfl⟩
theorem fflipped_row (c : Says w h K) : ∃ fd, FnP K "flipped_row" sflipped_row (He.ga K "flipped_row") fd := c.t.d.def_ 13 (d := dflipped_row) rfl
theorem mflipped_row (X : K.In h) (G : h.Ns mainGlobals mg) (c : Says w h K) {fd : FuncData} (F : FnP K "flipped_row" sflipped_row (He.ga K "flipped_row") fd) : Dat K mg "flipped_row" (He.ga K "flipped_row") fd ["row", "asked"] := ⟨He.glo_ok X G (c.t.d.fact 13 rfl), F.kp, FunD.bindsN F fun _ _ _ _ _ _ us hl => match us, hl with | [_, _], _ => rfl⟩
theorem fflipped_lot (c : Says w h K) : ∃ fd, FnP K "flipped_lot" sflipped_lot (He.ga K "flipped_lot") fd := c.t.d.def_ 14 (d := dflipped_lot) rfl
theorem mflipped_lot (X : K.In h) (G : h.Ns mainGlobals mg) (c : Says w h K) {fd : FuncData} (F : FnP K "flipped_lot" sflipped_lot (He.ga K "flipped_lot") fd) : Dat K mg "flipped_lot" (He.ga K "flipped_lot") fd ["lot", "asked"] := ⟨He.glo_ok X G (c.t.d.fact 14 rfl), F.kp, FunD.bindsN F fun _ _ _ _ _ _ us hl => match us, hl with | [_, _], _ => rfl⟩
theorem fneed_two (c : Says w h K) : ∃ fd, FnP K "need_two" sneed_two (He.ga K "need_two") fd := c.t.d.def_ 15 (d := dneed_two) rfl
theorem mneed_two (X : K.In h) (G : h.Ns mainGlobals mg) (c : Says w h K) {fd : FuncData} (F : FnP K "need_two" sneed_two (He.ga K "need_two") fd) : Dat K mg "need_two" (He.ga K "need_two") fd ["one", "other"] := ⟨He.glo_ok X G (c.t.d.fact 15 rfl), F.kp, FunD.bindsN F fun _ _ _ _ _ _ us hl => match us, hl with | [_, _], _ => rfl⟩
theorem fbeside (c : Says w h K) : ∃ fd, FnP K "beside" sbeside (He.ga K "beside") fd := c.t.d.def_ 16 (d := dbeside) rfl
theorem mbeside (X : K.In h) (G : h.Ns mainGlobals mg) (c : Says w h K) {fd : FuncData} (F : FnP K "beside" sbeside (He.ga K "beside") fd) : Dat K mg "beside" (He.ga K "beside") fd ["one", "other"] := ⟨He.glo_ok X G (c.t.d.fact 16 rfl), F.kp, FunD.bindsN F fun _ _ _ _ _ _ us hl => match us, hl with | [_, _], _ => rfl⟩
theorem fneed_place_count (c : Says w h K) : ∃ fd, FnP K "need_place_count" sneed_place_count (He.ga K "need_place_count") fd := c.t.d.def_ 17 (d := dneed_place_count) rfl
theorem mneed_place_count (X : K.In h) (G : h.Ns mainGlobals mg) (c : Says w h K) {fd : FuncData} (F : FnP K "need_place_count" sneed_place_count (He.ga K "need_place_count") fd) : Dat K mg "need_place_count" (He.ga K "need_place_count") fd ["places"] := ⟨He.glo_ok X G (c.t.d.fact 17 rfl), F.kp, FunD.bindsN F fun _ _ _ _ _ _ us hl => match us, hl with | [_], _ => rfl⟩
theorem fpower_of_two (c : Says w h K) : ∃ fd, FnP K "power_of_two" spower_of_two (He.ga K "power_of_two") fd := c.t.d.def_ 18 (d := dpower_of_two) rfl
theorem mpower_of_two (X : K.In h) (G : h.Ns mainGlobals mg) (c : Says w h K) {fd : FuncData} (F : FnP K "power_of_two" spower_of_two (He.ga K "power_of_two") fd) : Dat K mg "power_of_two" (He.ga K "power_of_two") fd ["times"] := ⟨He.glo_ok X G (c.t.d.fact 18 rfl), F.kp, FunD.bindsN F fun _ _ _ _ _ _ us hl => match us, hl with | [_], _ => rfl⟩
theorem flot_number (c : Says w h K) : ∃ fd, FnP K "lot_number" slot_number (He.ga K "lot_number") fd := c.t.d.def_ 19 (d := dlot_number) rfl
theorem mlot_number (X : K.In h) (G : h.Ns mainGlobals mg) (c : Says w h K) {fd : FuncData} (F : FnP K "lot_number" slot_number (He.ga K "lot_number") fd) : Dat K mg "lot_number" (He.ga K "lot_number") fd ["lot"] := ⟨He.glo_ok X G (c.t.d.fact 19 rfl), F.kp, FunD.bindsN F fun _ _ _ _ _ _ us hl => match us, hl with | [_], _ => rfl⟩
theorem flots_many (c : Says w h K) : ∃ fd, FnP K "lots_many" slots_many (He.ga K "lots_many") fd := c.t.d.def_ 20 (d := dlots_many) rfl
theorem mlots_many (X : K.In h) (G : h.Ns mainGlobals mg) (c : Says w h K) {fd : FuncData} (F : FnP K "lots_many" slots_many (He.ga K "lots_many") fd) : Dat K mg "lots_many" (He.ga K "lots_many") fd ["places"] := ⟨He.glo_ok X G (c.t.d.fact 20 rfl), F.kp, FunD.bindsN F fun _ _ _ _ _ _ us hl => match us, hl with | [_], _ => rfl⟩
theorem flot_by_number (c : Says w h K) : ∃ fd, FnP K "lot_by_number" slot_by_number (He.ga K "lot_by_number") fd := c.t.d.def_ 21 (d := dlot_by_number) rfl
theorem mlot_by_number (X : K.In h) (G : h.Ns mainGlobals mg) (c : Says w h K) {fd : FuncData} (F : FnP K "lot_by_number" slot_by_number (He.ga K "lot_by_number") fd) : Dat K mg "lot_by_number" (He.ga K "lot_by_number") fd ["places", "number"] := ⟨He.glo_ok X G (c.t.d.fact 21 rfl), F.kp, FunD.bindsN F fun _ _ _ _ _ _ us hl => match us, hl with | [_, _], _ => rfl⟩
theorem flot_at (c : Says w h K) : ∃ fd, FnP K "lot_at" slot_at (He.ga K "lot_at") fd := c.t.d.def_ 22 (d := dlot_at) rfl
theorem mlot_at (X : K.In h) (G : h.Ns mainGlobals mg) (c : Says w h K) {fd : FuncData} (F : FnP K "lot_at" slot_at (He.ga K "lot_at") fd) : Dat K mg "lot_at" (He.ga K "lot_at") fd ["places", "number"] := ⟨He.glo_ok X G (c.t.d.fact 22 rfl), F.kp, FunD.bindsN F fun _ _ _ _ _ _ us hl => match us, hl with | [_, _], _ => rfl⟩
theorem fnext_lot (c : Says w h K) : ∃ fd, FnP K "next_lot" snext_lot (He.ga K "next_lot") fd := c.t.d.def_ 23 (d := dnext_lot) rfl
theorem mnext_lot (X : K.In h) (G : h.Ns mainGlobals mg) (c : Says w h K) {fd : FuncData} (F : FnP K "next_lot" snext_lot (He.ga K "next_lot") fd) : Dat K mg "next_lot" (He.ga K "next_lot") fd ["lot"] := ⟨He.glo_ok X G (c.t.d.fact 23 rfl), F.kp, FunD.bindsN F fun _ _ _ _ _ _ us hl => match us, hl with | [_], _ => rfl⟩
theorem f_law_begun (c : Says w h K) : ∃ fd, FnP K "_law_begun" s_law_begun (He.ga K "_law_begun") fd := c.t.d.def_ 24 (d := d_law_begun) rfl
theorem m_law_begun (X : K.In h) (G : h.Ns mainGlobals mg) (c : Says w h K) {fd : FuncData} (F : FnP K "_law_begun" s_law_begun (He.ga K "_law_begun") fd) : Dat K mg "_law_begun" (He.ga K "_law_begun") fd ["script"] := ⟨He.glo_ok X G (c.t.d.fact 24 rfl), F.kp, FunD.bindsN F fun _ _ _ _ _ _ us hl => match us, hl with | [_], _ => rfl⟩
theorem f_law_blended (c : Says w h K) : ∃ fd, FnP K "_law_blended" s_law_blended (He.ga K "_law_blended") fd := c.t.d.def_ 25 (d := d_law_blended) rfl
theorem m_law_blended (X : K.In h) (G : h.Ns mainGlobals mg) (c : Says w h K) {fd : FuncData} (F : FnP K "_law_blended" s_law_blended (He.ga K "_law_blended") fd) : Dat K mg "_law_blended" (He.ga K "_law_blended") fd ["state"] := ⟨He.glo_ok X G (c.t.d.fact 25 rfl), F.kp, FunD.bindsN F fun _ _ _ _ _ _ us hl => match us, hl with | [_], _ => rfl⟩
theorem f_law_draw (c : Says w h K) : ∃ fd, FnP K "_law_draw" s_law_draw (He.ga K "_law_draw") fd := c.t.d.def_ 26 (d := d_law_draw) rfl
theorem m_law_draw (X : K.In h) (G : h.Ns mainGlobals mg) (c : Says w h K) {fd : FuncData} (F : FnP K "_law_draw" s_law_draw (He.ga K "_law_draw") fd) : Dat K mg "_law_draw" (He.ga K "_law_draw") fd ["state", "size"] := ⟨He.glo_ok X G (c.t.d.fact 26 rfl), F.kp, FunD.bindsN F fun _ _ _ _ _ _ us hl => match us, hl with | [_, _], _ => rfl⟩
theorem f_law_pick (c : Says w h K) : ∃ fd, FnP K "_law_pick" s_law_pick (He.ga K "_law_pick") fd := c.t.d.def_ 27 (d := d_law_pick) rfl
theorem m_law_pick (X : K.In h) (G : h.Ns mainGlobals mg) (c : Says w h K) {fd : FuncData} (F : FnP K "_law_pick" s_law_pick (He.ga K "_law_pick") fd) : Dat K mg "_law_pick" (He.ga K "_law_pick") fd ["state", "several"] := ⟨He.glo_ok X G (c.t.d.fact 27 rfl), F.kp, FunD.bindsN F fun _ _ _ _ _ _ us hl => match us, hl with | [_, _], _ => rfl⟩
theorem f_law_caught (c : Says w h K) : ∃ fd, FnP K "_law_caught" s_law_caught (He.ga K "_law_caught") fd := c.t.d.def_ 28 (d := d_law_caught) rfl
theorem m_law_caught (X : K.In h) (G : h.Ns mainGlobals mg) (c : Says w h K) {fd : FuncData} (F : FnP K "_law_caught" s_law_caught (He.ga K "_law_caught") fd) : Dat K mg "_law_caught" (He.ga K "_law_caught") fd ["work"] := ⟨He.glo_ok X G (c.t.d.fact 28 rfl), F.kp, FunD.bindsN F fun _ _ _ _ _ _ us hl => match us, hl with | [_], _ => rfl⟩
theorem f_law_rows (c : Says w h K) : ∃ fd, FnP K "_law_rows" s_law_rows (He.ga K "_law_rows") fd := c.t.d.def_ 29 (d := d_law_rows) rfl
theorem m_law_rows (X : K.In h) (G : h.Ns mainGlobals mg) (c : Says w h K) {fd : FuncData} (F : FnP K "_law_rows" s_law_rows (He.ga K "_law_rows") fd) : Dat K mg "_law_rows" (He.ga K "_law_rows") fd ["places"] := ⟨He.glo_ok X G (c.t.d.fact 29 rfl), F.kp, FunD.bindsN F fun _ _ _ _ _ _ us hl => match us, hl with | [_], _ => rfl⟩
theorem f_law_sets (c : Says w h K) : ∃ fd, FnP K "_law_sets" s_law_sets (He.ga K "_law_sets") fd := c.t.d.def_ 30 (d := d_law_sets) rfl
theorem m_law_sets (X : K.In h) (G : h.Ns mainGlobals mg) (c : Says w h K) {fd : FuncData} (F : FnP K "_law_sets" s_law_sets (He.ga K "_law_sets") fd) : Dat K mg "_law_sets" (He.ga K "_law_sets") fd ["places"] := ⟨He.glo_ok X G (c.t.d.fact 30 rfl), F.kp, FunD.bindsN F fun _ _ _ _ _ _ us hl => match us, hl with | [_], _ => rfl⟩
theorem f_law_at (c : Says w h K) : ∃ fd, FnP K "_law_at" s_law_at (He.ga K "_law_at") fd := c.t.d.def_ 31 (d := d_law_at) rfl
theorem m_law_at (X : K.In h) (G : h.Ns mainGlobals mg) (c : Says w h K) {fd : FuncData} (F : FnP K "_law_at" s_law_at (He.ga K "_law_at") fd) : Dat K mg "_law_at" (He.ga K "_law_at") fd ["row", "asked"] := ⟨He.glo_ok X G (c.t.d.fact 31 rfl), F.kp, FunD.bindsN F fun _ _ _ _ _ _ us hl => match us, hl with | [_, _], _ => rfl⟩
theorem f_law_fits (c : Says w h K) : ∃ fd, FnP K "_law_fits" s_law_fits (He.ga K "_law_fits") fd := c.t.d.def_ 32 (d := d_law_fits) rfl
theorem m_law_fits (X : K.In h) (G : h.Ns mainGlobals mg) (c : Says w h K) {fd : FuncData} (F : FnP K "_law_fits" s_law_fits (He.ga K "_law_fits") fd) : Dat K mg "_law_fits" (He.ga K "_law_fits") fd ["told", "row"] := ⟨He.glo_ok X G (c.t.d.fact 32 rfl), F.kp, FunD.bindsN F fun _ _ _ _ _ _ us hl => match us, hl with | [_, _], _ => rfl⟩
theorem f_law_share (c : Says w h K) : ∃ fd, FnP K "_law_share" s_law_share (He.ga K "_law_share") fd := c.t.d.def_ 33 (d := d_law_share) rfl
theorem m_law_share (X : K.In h) (G : h.Ns mainGlobals mg) (c : Says w h K) {fd : FuncData} (F : FnP K "_law_share" s_law_share (He.ga K "_law_share") fd) : Dat K mg "_law_share" (He.ga K "_law_share") fd ["state", "several"] := ⟨He.glo_ok X G (c.t.d.fact 33 rfl), F.kp, FunD.bindsN F fun _ _ _ _ _ _ us hl => match us, hl with | [_, _], _ => rfl⟩
theorem f_law_lot (c : Says w h K) : ∃ fd, FnP K "_law_lot" s_law_lot (He.ga K "_law_lot") fd := c.t.d.def_ 34 (d := d_law_lot) rfl
theorem m_law_lot (X : K.In h) (G : h.Ns mainGlobals mg) (c : Says w h K) {fd : FuncData} (F : FnP K "_law_lot" s_law_lot (He.ga K "_law_lot") fd) : Dat K mg "_law_lot" (He.ga K "_law_lot") fd ["state", "places"] := ⟨He.glo_ok X G (c.t.d.fact 34 rfl), F.kp, FunD.bindsN F fun _ _ _ _ _ _ us hl => match us, hl with | [_, _], _ => rfl⟩
theorem f_law_lot_refused (c : Says w h K) : ∃ fd, FnP K "_law_lot_refused" s_law_lot_refused (He.ga K "_law_lot_refused") fd := c.t.d.def_ 35 (d := d_law_lot_refused) rfl
theorem m_law_lot_refused (X : K.In h) (G : h.Ns mainGlobals mg) (c : Says w h K) {fd : FuncData} (F : FnP K "_law_lot_refused" s_law_lot_refused (He.ga K "_law_lot_refused") fd) : Dat K mg "_law_lot_refused" (He.ga K "_law_lot_refused") fd ["works"] := ⟨He.glo_ok X G (c.t.d.fact 35 rfl), F.kp, FunD.bindsN F fun _ _ _ _ _ _ us hl => match us, hl with | [_], _ => rfl⟩
theorem f_law_number (c : Says w h K) : ∃ fd, FnP K "_law_number" s_law_number (He.ga K "_law_number") fd := c.t.d.def_ 36 (d := d_law_number) rfl
theorem m_law_number (X : K.In h) (G : h.Ns mainGlobals mg) (c : Says w h K) {fd : FuncData} (F : FnP K "_law_number" s_law_number (He.ga K "_law_number") fd) : Dat K mg "_law_number" (He.ga K "_law_number") fd ["places", "rows"] := ⟨He.glo_ok X G (c.t.d.fact 36 rfl), F.kp, FunD.bindsN F fun _ _ _ _ _ _ us hl => match us, hl with | [_, _], _ => rfl⟩
theorem f_law_many (c : Says w h K) : ∃ fd, FnP K "_law_many" s_law_many (He.ga K "_law_many") fd := c.t.d.def_ 37 (d := d_law_many) rfl
theorem m_law_many (X : K.In h) (G : h.Ns mainGlobals mg) (c : Says w h K) {fd : FuncData} (F : FnP K "_law_many" s_law_many (He.ga K "_law_many") fd) : Dat K mg "_law_many" (He.ga K "_law_many") fd ["places"] := ⟨He.glo_ok X G (c.t.d.fact 37 rfl), F.kp, FunD.bindsN F fun _ _ _ _ _ _ us hl => match us, hl with | [_], _ => rfl⟩
theorem f_law_lot_right (c : Says w h K) : ∃ fd, FnP K "_law_lot_right" s_law_lot_right (He.ga K "_law_lot_right") fd := c.t.d.def_ 38 (d := d_law_lot_right) rfl
theorem m_law_lot_right (X : K.In h) (G : h.Ns mainGlobals mg) (c : Says w h K) {fd : FuncData} (F : FnP K "_law_lot_right" s_law_lot_right (He.ga K "_law_lot_right") fd) : Dat K mg "_law_lot_right" (He.ga K "_law_lot_right") fd ["places", "rows"] := ⟨He.glo_ok X G (c.t.d.fact 38 rfl), F.kp, FunD.bindsN F fun _ _ _ _ _ _ us hl => match us, hl with | [_, _], _ => rfl⟩
theorem f_law_made_right (c : Says w h K) : ∃ fd, FnP K "_law_made_right" s_law_made_right (He.ga K "_law_made_right") fd := c.t.d.def_ 39 (d := d_law_made_right) rfl
theorem m_law_made_right (X : K.In h) (G : h.Ns mainGlobals mg) (c : Says w h K) {fd : FuncData} (F : FnP K "_law_made_right" s_law_made_right (He.ga K "_law_made_right") fd) : Dat K mg "_law_made_right" (He.ga K "_law_made_right") fd ["state", "places", "rows"] := ⟨He.glo_ok X G (c.t.d.fact 39 rfl), F.kp, FunD.bindsN F fun _ _ _ _ _ _ us hl => match us, hl with | [_, _, _], _ => rfl⟩
theorem f_law_errors_right (c : Says w h K) : ∃ fd, FnP K "_law_errors_right" s_law_errors_right (He.ga K "_law_errors_right") fd := c.t.d.def_ 40 (d := d_law_errors_right) rfl
theorem m_law_errors_right (X : K.In h) (G : h.Ns mainGlobals mg) (c : Says w h K) {fd : FuncData} (F : FnP K "_law_errors_right" s_law_errors_right (He.ga K "_law_errors_right") fd) : Dat K mg "_law_errors_right" (He.ga K "_law_errors_right") fd ["places"] := ⟨He.glo_ok X G (c.t.d.fact 40 rfl), F.kp, FunD.bindsN F fun _ _ _ _ _ _ us hl => match us, hl with | [_], _ => rfl⟩
theorem flaw (c : Says w h K) : ∃ fd, FnP K "law" slaw (He.ga K "law") fd := c.t.d.def_ 41 (d := dlaw) rfl
theorem mlaw (X : K.In h) (G : h.Ns mainGlobals mg) (c : Says w h K) {fd : FuncData} (F : FnP K "law" slaw (He.ga K "law") fd) : Dat K mg "law" (He.ga K "law") fd ["script"] := ⟨He.glo_ok X G (c.t.d.fact 41 rfl), F.kp, FunD.bindsN F fun _ _ _ _ _ _ us hl => match us, hl with | [_], _ => rfl⟩
theorem fLot___init__ (c : Says w h K) : ∃ fd, FnM K "__init__" "Lot.__init__" sLot___init__ (He.ma K (aL K) "__init__") fd := c.t.d.def_ 42 (d := dLot___init__) rfl
theorem bLot___init__ {f : Addr} {fd : FuncData} (F : FnM K "__init__" "Lot.__init__" sLot___init__ f fd) : L2.Binds K fd ["self", "places", "rows"] [] := FunD.bindsN F fun _ _ _ _ _ _ us hl => match us, hl with | [_, _, _], _ => rfl
theorem fLot_has (c : Says w h K) : ∃ fd, FnM K "has" "Lot.has" sLot_has (He.ma K (aL K) "has") fd := c.t.d.def_ 43 (d := dLot_has) rfl
theorem bLot_has {f : Addr} {fd : FuncData} (F : FnM K "has" "Lot.has" sLot_has f fd) : L2.Binds K fd ["self", "row"] [] := FunD.bindsN F fun _ _ _ _ _ _ us hl => match us, hl with | [_, _], _ => rfl
theorem fLot_many (c : Says w h K) : ∃ fd, FnM K "many" "Lot.many" sLot_many (He.ma K (aL K) "many") fd := c.t.d.def_ 44 (d := dLot_many) rfl
theorem bLot_many {f : Addr} {fd : FuncData} (F : FnM K "many" "Lot.many" sLot_many f fd) : L2.Binds K fd ["self"] [] := FunD.bindsN F fun _ _ _ _ _ _ us hl => match us, hl with | [_], _ => rfl
theorem fLot___eq__ (c : Says w h K) : ∃ fd, FnM K "__eq__" "Lot.__eq__" sLot___eq__ (He.ma K (aL K) "__eq__") fd := c.t.d.def_ 45 (d := dLot___eq__) rfl
theorem bLot___eq__ {f : Addr} {fd : FuncData} (F : FnM K "__eq__" "Lot.__eq__" sLot___eq__ f fd) : L2.Binds K fd ["self", "other"] [] := FunD.bindsN F fun _ _ _ _ _ _ us hl => match us, hl with | [_, _], _ => rfl
theorem bLot_places {f : Addr} {fd : FuncData} (F : FnM K "places" "Lot.places" sLot_places f fd) : L2.Binds K fd ["self"] [] := FunD.bindsN F fun _ _ _ _ _ _ us hl => match us, hl with | [_], _ => rfl
theorem bLot_rows {f : Addr} {fd : FuncData} (F : FnM K "rows" "Lot.rows" sLot_rows f fd) : L2.Binds K fd ["self"] [] := FunD.bindsN F fun _ _ _ _ _ _ us hl => match us, hl with | [_], _ => rfl
theorem supN (X : K.In h) (G : h.Ns mainGlobals mg) (c : Says w h K) : PySem.SupX.SupTxt LW.prog K mg "NoLot" (aN K) (aDP K) (iN K) "part" :=
  PySem.SupX.sup_of (ex_all c).sN (ex_all c).nN (congrArg (fun z => z.1) c.two) plainP (He.glo_ok X G (c.t.d.fact 44 rfl)) (He.free_ok X G (c.t.d.fact 69 rfl)) (by decide +kernel) (by decide +kernel) (by decide +kernel) (by decide +kernel) (by decide +kernel) PX.bndP
theorem supBn (X : K.In h) (G : h.Ns mainGlobals mg) (c : Says w h K) : PySem.SupX.SupTxt LW.prog K mg "BadNumber" (aB K) (aDP K) (iB K) "part" :=
  PySem.SupX.sup_of (ex_all c).sB (ex_all c).nB (congrArg (fun z => z.2.1) c.two) plainP (He.glo_ok X G (c.t.d.fact 45 rfl)) (He.free_ok X G (c.t.d.fact 69 rfl)) (by decide +kernel) (by decide +kernel) (by decide +kernel) (by decide +kernel) (by decide +kernel) PX.bndP
theorem supR (X : K.In h) (G : h.Ns mainGlobals mg) (c : Says w h K) : PySem.SupX.SupTxt LW.prog K mg "BadRows" (aR K) (aDI K) (iR K) "index" :=
  PySem.SupX.sup_of (ex_all c).sR (ex_all c).nR (congrArg (fun z => z.2.2.1) c.two) plainI (He.glo_ok X G (c.t.d.fact 47 rfl)) (He.free_ok X G (c.t.d.fact 69 rfl)) (by decide +kernel) (by decide +kernel) (by decide +kernel) (by decide +kernel) (by decide +kernel) PX.bndI
theorem fPl (c : Says w h K) : ∃ fd, FnM K "places" "Lot.places" sLot_places (gP K) fd := fnA_ok (congrArg (fun z => z.2.2.2.1) c.two) (ex_all c).bp
theorem fRo (c : Says w h K) : ∃ fd, FnM K "rows" "Lot.rows" sLot_rows (gR K) fd := fnA_ok (congrArg (fun z => z.2.2.2.2) c.two) (ex_all c).br
theorem exf_ok (X : K.In h) (G : h.Ns mainGlobals mg) (c : Says w h K) : ExF K mg (aN K) (aB K) (aP K) (aE K) :=
  ⟨He.glo_ok X G (c.t.d.fact 43 rfl), He.glo_ok X G (c.t.d.fact 44 rfl), excCB_ok (ex_all c).cN, xfB_ok (ex_all c).xN, (supN X G c).noN, He.exm_ok (c.t.d.fact 74 rfl), by unfold PySem.W.kitOne; simp,
    He.glo_ok X G (c.t.d.fact 45 rfl), excCB_ok (ex_all c).cB, xfB_ok (ex_all c).xB, (supBn X G c).noN, He.exm_ok (c.t.d.fact 75 rfl), by unfold PySem.W.kitOne; simp, He.glo_ok X G (c.t.d.fact 46 rfl), excCB_ok (ex_all c).cP, He.exm_ok (c.t.d.fact 76 rfl), by unfold PySem.W.kitOne; simp⟩
theorem ext_BadPlaces (X : K.In h) (G : h.Ns mainGlobals mg) (c : Says w h K) : ExT K mg "BadPlaces" (He.ga K "BadPlaces") := by
  obtain ⟨a, b, d, e⟩ := He.exc_ok (x := "BadPlaces") (c.t.d.fact 71 rfl)
  exact ⟨He.glo_ok X G (c.t.d.fact 46 rfl), a, b, d, e⟩
theorem ext_BadAsked (X : K.In h) (G : h.Ns mainGlobals mg) (c : Says w h K) : ExT K mg "BadAsked" (He.ga K "BadAsked") := by
  obtain ⟨a, b, d, e⟩ := He.exc_ok (x := "BadAsked") (c.t.d.fact 72 rfl)
  exact ⟨He.glo_ok X G (c.t.d.fact 48 rfl), a, b, d, e⟩
theorem ext_NoRoom (X : K.In h) (G : h.Ns mainGlobals mg) (c : Says w h K) : ExT K mg "NoRoom" (He.ga K "NoRoom") := by
  obtain ⟨a, b, d, e⟩ := He.exc_ok (x := "NoRoom") (c.t.d.fact 73 rfl)
  exact ⟨He.glo_ok X G (c.t.d.fact 49 rfl), a, b, d, e⟩
theorem lotK (X : K.In h) (G : h.Ns mainGlobals mg) (c : Says w h K) : LotK K mg (aL K) (fI K) (pP K) (gP K) (pR K) (gR K) (fH K) (fM K) (fE K) := by
  have m := He.meth_ok (x := "Lot") (m := "__eq__") (c.t.d.fact 83 rfl)
  exact ⟨He.glo_ok X G (c.t.d.fact 42 rfl), He.cls_ok (x := "Lot") (c.t.d.fact 77 rfl), He.mkr_ok (x := "Lot") (c.t.d.fact 84 rfl), propB_ok (ex_all c).pp, propB_ok (ex_all c).pr, He.meth_ok (x := "Lot") (m := "has") (c.t.d.fact 81 rfl), He.meth_ok (x := "Lot") (m := "many") (c.t.d.fact 82 rfl),
    eqkB_ok (ex_all c).ek m.at_ m.fn (of_decide_eq_true (ex_all c).te), He.noat_ok (x := "Lot") (f := "own_places") (c.t.d.fact 78 rfl), He.noat_ok (x := "Lot") (f := "own_rows") (c.t.d.fact 79 rfl), He.noat_ok (x := "Lot") (f := "own_known") (c.t.d.fact 80 rfl)⟩
end
end KF
/-! E4: the law's promise from the head's facts. -/
namespace KF
open PySem PySem.Spec PyProof.Rows L2 LamX Cov KK
theorem funC_of {K : PySem.W.Frag} {x : Str} {st : Stmt} {fd : FuncData} (F : FnP K x st (He.ga K x) fd) : FunC K x st (He.ga K x) fd (He.codeOf K (x, none)) := by
  obtain ⟨oc, od, dV, kV, doc, pm, an, cdv, ct, osl, e, lk, hcd, _, _⟩ := F.ex
  obtain ⟨c, rfl⟩ := He.codeIn_ref hcd
  have ec : He.codeOf K (x, none) = c := He.codeOf_eq (p := (x, none)) lk (by rw [e])
  rw [ec]
  exact ⟨oc, od, dV, kV, doc, pm, an, ct, osl, e, lk, hcd⟩
abbrev TT (K : PySem.W.Frag) : List (Addr × Str) := [((He.cT K ("_law_lot_refused", none)).2, Str.ofString "_law_lot_refused.<locals>.<lambda>"), ((He.cT K ("_law_errors_right", none)).2, Str.ofString "_law_errors_right.<locals>.<lambda>")]
theorem lawAt {w : World} {K : PySem.W.Frag} {mg : Str → Option Value} {h : Heap} {f : Addr} (X : K.In h) (G : h.Ns mainGlobals mg) (c : Says w h K) (hmg : mg "law" = some (.ref f)) : LawAtS LW w K (L2.CX LW.prog w) 17 63 "script" mg f h := by
  have e0 := hmg.symm.trans (He.glo_ok X G (c.t.d.fact 41 rfl))
  cases e0
  have Z := zs_of X G c
  have XN := supN X G c
  have XB := supBn X G c
  have XR := supR X G c
  have XF := exf_ok X G c
  have XP := ext_BadPlaces X G c
  have XA := ext_BadAsked X G c
  have XO := ext_NoRoom X G c
  have LC := lotK X G c
  have LT := insB_ok (ex_all c).ins
  obtain ⟨t1, g6⟩ := He.int_ok X G (x := "MOST_PLACES") (i := 6) (c.t.d.fact 70 rfl)
  obtain ⟨xis_number, Fis_number⟩ := fis_number c
  have Mis_number := mis_number X G c Fis_number
  obtain ⟨xis_between, Fis_between⟩ := fis_between c
  have Mis_between := mis_between X G c Fis_between
  obtain ⟨xis_list, Fis_list⟩ := fis_list c
  have Mis_list := mis_list X G c Fis_list
  obtain ⟨xis_rising, Fis_rising⟩ := fis_rising c
  have Mis_rising := mis_rising X G c Fis_rising
  obtain ⟨xis_tuple_of, Fis_tuple_of⟩ := fis_tuple_of c
  have Mis_tuple_of := mis_tuple_of X G c Fis_tuple_of
  obtain ⟨xis_row, Fis_row⟩ := fis_row c
  have Mis_row := mis_row X G c Fis_row
  obtain ⟨xneed_rows, Fneed_rows⟩ := fneed_rows c
  have Mneed_rows := mneed_rows X G c Fneed_rows
  obtain ⟨xneed_lot, Fneed_lot⟩ := fneed_lot c
  have Mneed_lot := dat_need_lot (mg := mg) Fneed_lot (He.glo_ok X G (c.t.d.fact 7 rfl))
  have MDneed_lot := datD_need_lot (mg := mg) Fneed_lot (He.glo_ok X G (c.t.d.fact 7 rfl))
  obtain ⟨xis_asked, Fis_asked⟩ := fis_asked c
  have Mis_asked := mis_asked X G c Fis_asked
  obtain ⟨xneed_asked, Fneed_asked⟩ := fneed_asked c
  have Mneed_asked := mneed_asked X G c Fneed_asked
  obtain ⟨xneed_lot_asked, Fneed_lot_asked⟩ := fneed_lot_asked c
  have Mneed_lot_asked := mneed_lot_asked X G c Fneed_lot_asked
  obtain ⟨xall_answers, Fall_answers⟩ := fall_answers c
  have Mall_answers := mall_answers X G c Fall_answers
  obtain ⟨xrest_lot, Frest_lot⟩ := frest_lot c
  have Mrest_lot := mrest_lot X G c Frest_lot
  obtain ⟨xflipped_row, Fflipped_row⟩ := fflipped_row c
  have Mflipped_row := mflipped_row X G c Fflipped_row
  obtain ⟨xflipped_lot, Fflipped_lot⟩ := fflipped_lot c
  have Mflipped_lot := mflipped_lot X G c Fflipped_lot
  obtain ⟨xneed_two, Fneed_two⟩ := fneed_two c
  have Mneed_two := mneed_two X G c Fneed_two
  obtain ⟨xbeside, Fbeside⟩ := fbeside c
  have Mbeside := mbeside X G c Fbeside
  obtain ⟨xneed_place_count, Fneed_place_count⟩ := fneed_place_count c
  have Mneed_place_count := mneed_place_count X G c Fneed_place_count
  obtain ⟨xpower_of_two, Fpower_of_two⟩ := fpower_of_two c
  have Mpower_of_two := mpower_of_two X G c Fpower_of_two
  obtain ⟨xlot_number, Flot_number⟩ := flot_number c
  have Mlot_number := mlot_number X G c Flot_number
  obtain ⟨xlots_many, Flots_many⟩ := flots_many c
  have Mlots_many := mlots_many X G c Flots_many
  obtain ⟨xlot_by_number, Flot_by_number⟩ := flot_by_number c
  have Mlot_by_number := mlot_by_number X G c Flot_by_number
  obtain ⟨xlot_at, Flot_at⟩ := flot_at c
  have Mlot_at := mlot_at X G c Flot_at
  obtain ⟨xnext_lot, Fnext_lot⟩ := fnext_lot c
  have Mnext_lot := mnext_lot X G c Fnext_lot
  obtain ⟨x_law_begun, F_law_begun⟩ := f_law_begun c
  have M_law_begun := m_law_begun X G c F_law_begun
  obtain ⟨x_law_blended, F_law_blended⟩ := f_law_blended c
  have M_law_blended := m_law_blended X G c F_law_blended
  obtain ⟨x_law_draw, F_law_draw⟩ := f_law_draw c
  have M_law_draw := m_law_draw X G c F_law_draw
  obtain ⟨x_law_pick, F_law_pick⟩ := f_law_pick c
  have M_law_pick := m_law_pick X G c F_law_pick
  obtain ⟨x_law_caught, F_law_caught⟩ := f_law_caught c
  have M_law_caught := m_law_caught X G c F_law_caught
  obtain ⟨x_law_rows, F_law_rows⟩ := f_law_rows c
  have M_law_rows := m_law_rows X G c F_law_rows
  obtain ⟨x_law_sets, F_law_sets⟩ := f_law_sets c
  have M_law_sets := m_law_sets X G c F_law_sets
  obtain ⟨x_law_at, F_law_at⟩ := f_law_at c
  have M_law_at := m_law_at X G c F_law_at
  obtain ⟨x_law_fits, F_law_fits⟩ := f_law_fits c
  have M_law_fits := m_law_fits X G c F_law_fits
  obtain ⟨x_law_share, F_law_share⟩ := f_law_share c
  have M_law_share := m_law_share X G c F_law_share
  obtain ⟨x_law_lot, F_law_lot⟩ := f_law_lot c
  have M_law_lot := m_law_lot X G c F_law_lot
  obtain ⟨x_law_lot_refused, F_law_lot_refused⟩ := f_law_lot_refused c
  have M_law_lot_refused := m_law_lot_refused X G c F_law_lot_refused
  obtain ⟨x_law_number, F_law_number⟩ := f_law_number c
  have M_law_number := m_law_number X G c F_law_number
  obtain ⟨x_law_many, F_law_many⟩ := f_law_many c
  have M_law_many := m_law_many X G c F_law_many
  obtain ⟨x_law_lot_right, F_law_lot_right⟩ := f_law_lot_right c
  have M_law_lot_right := m_law_lot_right X G c F_law_lot_right
  obtain ⟨x_law_made_right, F_law_made_right⟩ := f_law_made_right c
  have M_law_made_right := m_law_made_right X G c F_law_made_right
  obtain ⟨x_law_errors_right, F_law_errors_right⟩ := f_law_errors_right c
  have M_law_errors_right := m_law_errors_right X G c F_law_errors_right
  obtain ⟨xlaw, Flaw⟩ := flaw c
  have Mlaw := mlaw X G c Flaw
  obtain ⟨xLot___init__, FLot___init__⟩ := fLot___init__ c
  obtain ⟨xLot_has, FLot_has⟩ := fLot_has c
  obtain ⟨xLot_many, FLot_many⟩ := fLot_many c
  obtain ⟨xLot___eq__, FLot___eq__⟩ := fLot___eq__ c
  obtain ⟨xLot_places, FLot_places⟩ := fPl c
  obtain ⟨xLot_rows, FLot_rows⟩ := fRo c
  have BLot___init__ := bLot___init__ FLot___init__
  have BLot_has := bLot_has FLot_has
  have BLot_many := bLot_many FLot_many
  have BLot___eq__ := bLot___eq__ FLot___eq__
  have BLot_places := bLot_places FLot_places
  have BLot_rows := bLot_rows FLot_rows
  have KBlot_number : KBinds K xlot_number ["lot"] ["lot"] kwU kwV := by
    obtain ⟨oc, od, dV, kV, doc, pm, an, cdv, ct, osl, e, lk, hcd, hd, _⟩ := Flot_number.ex
    obtain ⟨_, rfl⟩ | ⟨z, _⟩ := hd
    rotate_left
    · exact absurd rfl z
    rw [e]
    exact kb_one fun a => rfl
  have KBnext_lot : KBinds K xnext_lot ["lot"] ["lot"] kwU kwV := by
    obtain ⟨oc, od, dV, kV, doc, pm, an, cdv, ct, osl, e, lk, hcd, hd, _⟩ := Fnext_lot.ex
    obtain ⟨_, rfl⟩ | ⟨z, _⟩ := hd
    rotate_left
    · exact absurd rfl z
    rw [e]
    exact kb_one fun a => rfl
  have KBlot_at : KBinds K xlot_at ["places", "number"] ["number", "places"] kwU kwV := by
    obtain ⟨oc, od, dV, kV, doc, pm, an, cdv, ct, osl, e, lk, hcd, hd, _⟩ := Flot_at.ex
    obtain ⟨_, rfl⟩ | ⟨z, _⟩ := hd
    rotate_left
    · exact absurd rfl z
    rw [e]
    exact kb_two fun a b => rfl
  have hne := (ex_all c).ne
  have Fcr := funC_of F_law_lot_refused
  have Fce := funC_of F_law_errors_right
  have bl := FunD.bindsA (ps := ["script"]) Flaw fun _ _ _ _ _ _ us hl => match us, hl with | [_], _ => rfl
  refine ⟨xlaw, [He.cT K ("_law_lot_refused", none), He.cT K ("_law_errors_right", none)], spLaw K (TT K), ?_, ?_, ?_, fun s u => bl s [u] rfl, ?_, ?_⟩
  · intro p hp
    simp only [List.mem_cons, List.not_mem_nil, or_false] at hp
    rcases hp with rfl | rfl
    · exact c.empty _ (by simp [tf])
    · exact c.empty _ (by simp [tf])
  · intro p hp
    simp only [List.mem_cons, List.not_mem_nil, or_false] at hp
    rcases hp with rfl | rfl
    · exact c.out _ (by simp [tf])
    · exact c.out _ (by simp [tf])
  · intro p hp
    simp only [List.mem_cons, List.not_mem_nil, or_false] at hp
    rcases hp with rfl | rfl
    · exact PySem.W.codeHd_of_K X (c.hd _ (by simp [tf]))
    · exact PySem.W.codeHd_of_K X (c.hd _ (by simp [tf]))
  · intro H a ns hl _ hH hS
    refine ⟨a, ns, rfl, hS, by omega, fun p hp => ?_, fun _ => rfl⟩
    simp only [TT, List.mem_cons, List.not_mem_nil, or_false] at hp
    rcases hp with rfl | rfl
    · exact TabS.nil (hH _ (by simp))
    · exact TabS.nil (hH _ (by simp))
  · intro base _ _ hT
    have TB1 := hT (He.cT K ("_law_lot_refused", none)) (by simp)
    have TB2 := hT (He.cT K ("_law_errors_right", none)) (by simp)
    have Gnum := ok_is_number (P := LW.prog) (w := w) (base := base) Fis_number Z
    have Gbet := ok_is_between Fis_between Gnum Mis_number
    have Glist := ok_is_list (P := LW.prog) (w := w) (base := base) Fis_list Z
    have Gto := ok_is_tuple_of Fis_tuple_of Z Gbet Mis_between
    have Grow := ok_is_row Fis_row Gto Mis_tuple_of
    have Gnr := ok_need_rows Fneed_rows Z XR Glist Mis_list Grow Mis_row
    have Gini := ok_init (D := aDI K) FLot___init__ Z LC g6 XP Gbet Mis_between Gnr Mneed_rows
    have Gpl := ok_places (P := LW.prog) (w := w) (base := base) FLot_places LC
    have Gro := ok_rows (P := LW.prog) (w := w) (base := base) FLot_rows LC
    have Gma := ok_many (P := LW.prog) (w := w) (base := base) FLot_many Z LC
    have Ghas := ok_has FLot_has LC Grow Mis_row
    have Geq := ok_eq (P := LW.prog) (w := w) (base := base) FLot___eq__ Z LC LT
    have Gnl := ok_need_lot (P := LW.prog) (w := w) (base := base) Fneed_lot Z LC LT XN
    have Gnp := ok_need_place_count Fneed_place_count g6 Gbet Mis_between XP
    have Gaa := ok_all_answers (P := LW.prog) (w := w) (base := base) Fall_answers Z
    have Gpow := ok_power_of_two (P := LW.prog) (w := w) (base := base) Fpower_of_two Z
    have Glm := ok_lots_many Flots_many Gpow Mpower_of_two
    have Gln := ok_lot_number Flot_number Z LC Gnl MDneed_lot Gaa Mall_answers Gpow Mpower_of_two Gpl BLot_places Ghas BLot_has
    have Glb := ok_lot_by_number Flot_by_number Z LC Gaa Mall_answers Gini BLot___init__
    have Gla := ok_lot_at Flot_at Z XB Gnp Mneed_place_count Gbet Mis_between Glm Mlots_many Glb Mlot_by_number
    have Gnx := ok_next_lot Fnext_lot Z LC Gln Mlot_number Glm Mlots_many Glb Mlot_by_number Gpl BLot_places
    have Grl := ok_rest_lot Frest_lot Z LC Gnl MDneed_lot Gaa Mall_answers Gpl BLot_places Ghas BLot_has Gini BLot___init__
    have Gri := ok_is_rising (P := LW.prog) (w := w) (base := base) Fis_rising Z
    have Gia := ok_is_asked Fis_asked Z Gbet Mis_between Gri Mis_rising
    have Gna := ok_need_asked Fneed_asked LC XA Gia Mis_asked Gpl BLot_places
    have Gnla := ok_need_lot_asked Fneed_lot_asked Gnl MDneed_lot Gna Mneed_asked
    have Gfr := ok_flipped_row (P := LW.prog) (w := w) (base := base) Fflipped_row Z
    have Gfl := ok_flipped_lot Fflipped_lot LC Gnla Mneed_lot_asked Gfr Mflipped_row Gpl BLot_places Gro BLot_rows Gini BLot___init__
    have Gn2 := ok_need_two Fneed_two Gnl Mneed_lot
    have Gbs := ok_beside Fbeside LC g6 XO Gn2 Mneed_two Gpl BLot_places Gro BLot_rows Gini BLot___init__
    have Gbl := ok_blended (T := TT K) (P := LW.prog) (w := w) (base := base) F_law_blended Z
    have Gdr := ok_draw F_law_draw Z Gbl M_law_blended
    have Gpi := ok_pick F_law_pick Z Gdr M_law_draw
    have Gbe := ok_begun (P := LW.prog) (w := w) (base := base) F_law_begun Z
    have Grw := ok_law_rows (P := LW.prog) (w := w) (base := base) F_law_rows Z
    have Gmy := ok_law_many F_law_many Z Grw M_law_rows
    have Gnu := ok_law_number F_law_number Z Grw M_law_rows
    have Gat := ok_law_at (P := LW.prog) (w := w) (base := base) F_law_at Z
    have Gfi := ok_law_fits (P := LW.prog) (w := w) (base := base) F_law_fits Z
    have Gsh := ok_law_share F_law_share Z Gdr M_law_draw
    have Gst := ok_law_sets (P := LW.prog) (w := w) (base := base) F_law_sets Z
    have Glo := ok_law_lot F_law_lot Z Grw M_law_rows Gdr M_law_draw Gpi M_law_pick Gsh M_law_share Gst M_law_sets Gat M_law_at Gfi M_law_fits
    have LFx : LF LW.prog w K mg base (aL K) (aN K) (aB K) (aP K) (fI K) (pP K) (gP K) (pR K) (gR K) (fH K) (fM K) (fE K) _ _ _ _ _ _ _ _ _ _ _ _ _ _ _ _ _ _ _ _ _ _ _ :=
      ⟨LC, Gini, BLot___init__, Gpl, BLot_places, Gro, BLot_rows, Gma, BLot_many, Geq, BLot___eq__, Gln, Mlot_number, KBlot_number, Gla, Mlot_at, KBlot_at, Gnx, Mnext_lot, KBnext_lot, Grl, Mrest_lot, Gfl, Mflipped_lot, Gbs, Mbeside, Grw, M_law_rows, Gnu, M_law_number, Gmy, M_law_many⟩
    have Glr := ok_law_lot_right F_law_lot_right Z LFx
    have Gmr := ok_law_made_right F_law_made_right Z LFx Gdr M_law_draw Glo M_law_lot
    have Grf := ok_law_lot_refused (T := TT K) Fcr Z XF LFx F_law_caught M_law_caught TB1 (by simp [TT]) (fun p hp e => by
      simp only [TT, List.mem_cons, List.not_mem_nil, or_false] at hp
      rcases hp with rfl | rfl
      · rfl
      · exact absurd e.symm hne)
    have Ger := ok_law_errors_right (T := TT K) Fce Z XF LFx F_law_caught M_law_caught Grf M_law_lot_refused TB2 (by simp [TT]) (fun p hp e => by
      simp only [TT, List.mem_cons, List.not_mem_nil, or_false] at hp
      rcases hp with rfl | rfl
      · exact absurd e hne
      · rfl)
    exact ok_law Flaw Z LFx Gbe M_law_begun Gdr M_law_draw Gst M_law_sets Glo M_law_lot Glr M_law_lot_right Gmr M_law_made_right Ger M_law_errors_right
end KF
open PySem PySem.W PyProof.Rows
set_option maxHeartbeats 0 in
theorem PySem.Challenge.cw_coverbut_k22_whole_numbers_of_lots_holds : PySem.Challenge.rw_coverbut_k22_whole_numbers_of_lots.Holds := by
  w_on; o_law; k_head; (case hw => w_witness2)
  k_fill
  refine LamX.walk_ofTsE (l := PySem.Challenge.rw_coverbut_k22_whole_numbers_of_lots) (n := 63) (k := 17) (x := "script") (CX := fun w => L2.CX PySem.Challenge.pw_coverbut_k22_whole_numbers_of_lots w) rfl (by decide) rfl ⟨rfl, by decide, by decide⟩ ?F ?C
  case C =>
    intro w H s e s' z
    obtain ⟨_, _, _, _, _, _, _, _, _, _, _, _, z⟩ := z
    exact z.elim
  case F =>
    intro w mg fa h Y G hmg
    have KX := PySem.W.km_in_of Y
    have KT := PySem.W.km_tabs_of Y
    refine ⟨_, KX, KF.lawAt KX G ⟨?t, ?more, ?two, ?hd, ?out, ?empty⟩ hmg⟩
    case t =>
      show He.obsT _ _ _ _ = He.valT _ _ _
      kernel_rfl
    case two => kernel_rfl
    case more => kernel_rfl
    case hd =>
      refine List.all_eq_true.mp ?_
      kernel_rfl
    case out => 
      intro p hp
      simp only [KF.tf, List.mem_cons, List.not_mem_nil, or_false] at hp
      rcases hp with rfl | rfl
      · kernel_rfl
      · kernel_rfl
    case empty =>
      intro p hp
      refine KT _ ?_
      simp only [KF.tf, List.mem_cons, List.not_mem_nil, or_false] at hp
      rcases hp with rfl | rfl
      · exact List.elem_iff.mp (by kernel_rfl)
      · exact List.elem_iff.mp (by kernel_rfl)
